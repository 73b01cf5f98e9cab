import PyProof.Rows.All
import HandS.ForMost
import HandS.TupAny
import HandS.TupMul
import HandS.Conv
import HandS.Iter
import HandS.Zip
import KE.GoesEnum
import HandS.NoneIn
import HandS.Deep
import HandS.IsInst
import HandS.Style
import HandS.SetFor
import KE.SortData
import KE.KTupSum
import KE.DataFind
import HandS.More
import KE.KDictSum
import KE.KTurnsAny
import PyProof.Transfer
import HandS.DictComp
import KE.DataCmp
import KE.DataMinMax
import KE.KIndexOf
import HandS.TupSets
import HandS.Defaults
import HandS.Head0
import HandS.Head1
import HandS.Head2
import HandS.HeadEnd
import HandS.HeadHook1
import HandS.HeadHook2
import HandS.WordsExc
import KE.KStateDown
import PySem.Challenge.RW_eightworlds_k81_whole_two_above_one_piec
/-! ## EvT -/
section
set_option Elab.async false
set_option linter.all false
set_option maxRecDepth 100000
set_option maxHeartbeats 1000000
/-! EvT: tuples known to the object: what makes a tuple, with the object that lies there (it has no dict of its own). -/
namespace Ev
open PySem L2
/-- what a new tuple is asked for -/
def NewT (H : Hp) (xs : List V) (Q : VK) : Prop := ∀ p o, H p = none → o.dict = none → Q (.ref p) (upd H p (.frz o (.tup xs)))
/-- a tuple whose object has no dict -/
def TupAt (H : Hp) (a : Addr) (xs : List V) : Prop := ∃ o, H a = some (.frz o (.tup xs)) ∧ o.dict = none
theorem TupAt.rd {H : Hp} {a : Addr} {xs : List V} (h : TupAt H a xs) : Rd H a (.tup xs) := by
  obtain ⟨o, h, _⟩ := h
  exact .inr ⟨o, h⟩
theorem TupAt.put {H : Hp} {a : Addr} {xs : List V} {o : Obj} (h : o.dict = none) : TupAt (upd H a (.frz o (.tup xs))) a xs := ⟨o, upd_same, h⟩
section
variable {X : Cx} {pins : List (Addr × Obj)} {σ : L2.St} {H : Hp} {s : Shared}
def tob (its : List Value) : Obj := { cls := .type "tuple", data := .seq its.toArray }
theorem laidT {t' : Nat} {xs : List V} {its : List Value} (I : Inv X pins σ H s) (r : Vals xs its) (hz : xs.length ≤ sizeLine) :
    Inv X pins σ (upd H s.heap.objs.size (.frz (tob its) (.tup xs))) { s with heap := s.heap.push (tob its), toks := t' } :=
  I.laid (fun _ _ q => Heap.get?_push_of_some _ q) (Nat.le_refl _) ⟨Heap.get?_push_size _ rfl, hz, its, r, PyProof.Rows.IsTup.new _ _⟩
theorem endT {Q : VK} {xs : List V} {its : List Value} (I : Inv X pins σ H s) (r : Vals xs its) (hz : xs.length ≤ sizeLine) (q : NewT H xs Q) : EP X pins σ Q (.ref s.heap.objs.size) { s with heap := s.heap.push { cls := .type "tuple", data := .seq its.toArray } } :=
  ⟨.ref s.heap.objs.size, _, laidT (t' := s.toks) I r hz, rfl, q _ _ (I.hok.fresh (Nat.le_refl _)) rfl⟩
end
section
variable {X : Cx} {e : Expr} {es : List Expr} {t : TA} {pos : Pos}
/-! ### (a, b, ..) -/
def tTupN (t : TA) : TE := fun σ H Q => t σ H fun xs H1 => xs.length ≤ sizeLine ∧ NewT H1 xs Q
theorem pe_tupN {k : Nat} (h : PA X es t) : PE X (.Tuple es k pos) (tTupN t) :=
  ⟨fun pins s σ H Q I hq => wpAny_Tuple_spliced (thn (h.run pos pins s σ H _ I hq) fun us s1 ⟨xs, H1, I1, r, z, q⟩ => ⟨by rw [← r.length]; exact z, endT I1 r z q⟩)⟩
/-! ### tuple(x) -/
def rTupOf (K : PySem.W.Frag) : List V → Hp → VK → Prop := fun vs H Q => ∃ p ys, vs = [.ref p] ∧ ((SqL K H p ys ∧ NewT H ys Q) ∨ (SqT K H p ys ∧ Q (.ref p) H))
open PyProof.Rows in
theorem call_tupOf : CallR X (.type "tuple") (rTupOf X.K) := by
  intro pins s σ H vs us Q I r h
  obtain ⟨p, ys, rfl, h⟩ := h
  obtain ⟨u, rfl, rx⟩ := vals1 r
  cases rx
  rcases h with ⟨hq, q⟩ | ⟨hq, q⟩
  · obtain ⟨its, r', pl, hz⟩ := I.list hq
    refine call_tuple_list pl.isList (fun h' kp => ?_) (by rw [List.size_toArray, ← r'.length]; exact hz)
    exact endT (s := { s with heap := h' }) (I.kept (t' := s.toks) kp) r' hz q
  · obtain ⟨its, r', pl, hz⟩ := I.tuple hq
    exact call_tuple_same pl ⟨.ref p, H, I, rfl, q⟩
/-! ### t + u -/
def rCatU (K : PySem.W.Frag) : R2 := fun x y H Q => ∃ a b xs ys, x = .ref a ∧ y = .ref b ∧ SqT K H a xs ∧ SqT K H b ys ∧ xs.length + ys.length ≤ sizeLine ∧
  (xs = [] → Q (.ref b) H) ∧ (xs ≠ [] → ys = [] → Q (.ref a) H) ∧ (xs ≠ [] → ys ≠ [] → NewT H (xs ++ ys) Q)
theorem op_catU : OpR X (binaryOp .Add) (rCatU X.K) := by
  intro pins s σ H x y v u Q I rx ry h
  obtain ⟨a, b, xs, ys, rfl, rfl, ha, hb, hz, q0, q1, q2⟩ := h
  cases rx
  cases ry
  obtain ⟨its, r1, p1, _⟩ := I.tuple ha
  obtain ⟨its2, r2, p2, _⟩ := I.tuple hb
  by_cases hx : xs = []
  · subst hx
    cases r1
    exact cat_tup0 p1 p2 ⟨.ref b, H, I, rfl, q0 rfl⟩
  · refine HT.cat_tup p1 p2 (fun z => hx (r1.nil_iff.mp z)) (fun z => ⟨.ref a, H, I, rfl, q1 hx (r2.nil_iff.mp z)⟩) (fun z => ?_) (by rw [← r1.length, ← r2.length]; exact hz)
    exact endT I (r1.append r2) (by rw [List.length_append]; exact hz) (q2 hx fun w => z (r2.nil_iff.mpr w))
/-! ### t[lo:hi] -/
def rSlU (K : PySem.W.Frag) : V → Option Int → Option Int → Hp → VK → Prop := fun x lo hi H Q => ∃ a xs, x = .ref a ∧ SqT K H a xs ∧
  (HT.sIx xs.length 0 lo = 0 ∧ HT.sIx xs.length xs.length hi = xs.length → Q (.ref a) H) ∧ (¬ (HT.sIx xs.length 0 lo = 0 ∧ HT.sIx xs.length xs.length hi = xs.length) → NewT H (cutV xs lo hi) Q)
theorem sl_tupU : SlR X (rSlU X.K) := by
  intro pins s σ H x v vl vu lo hi sl Q I rx hs pl pu h
  obtain ⟨a, xs, rfl, hx, q1, q2⟩ := h
  cases rx
  obtain ⟨its, r, ht, hz⟩ := I.tuple hx
  have hlen : its.toArray.size = xs.length := by rw [List.size_toArray]; exact r.length.symm
  refine ⟨"tuple", _, PyProof.Rows.slot_tuple_getitem.lookup, ht.typeIs, ?_⟩
  by_cases hw : HT.sIx xs.length 0 lo = 0 ∧ HT.sIx xs.length xs.length hi = xs.length
  · exact getItem_tuple_whole ht hs pl pu (by rw [hlen]; exact hw) ⟨.ref a, H, I, rfl, q1 hw⟩
  · refine HT.getItem_tuple_cut ht hs pl pu (by rw [hlen]; exact hw) ?_ (by rw [hlen]; exact hz)
    rw [hlen]
    exact endT I ((r.drop _).take _) (Nat.le_trans (cutV_length xs lo hi) hz) (q2 hw)
/-! ### t * k -/
def rRepU (K : PySem.W.Frag) : R2 := fun x y H Q => ∃ l k xs, x = .ref l ∧ y = .int k ∧ SqT K H l xs ∧ xs ≠ [] ∧ 2 ≤ k ∧ k ≤ 1000 ∧ xs.length ≤ 1000 ∧ NewT H (List.replicate k.toNat xs).flatten Q
open PyProof.Rows in
theorem op_repU : OpR X (binaryOp .Mult) (rRepU X.K) := by
  intro pins s σ H x y v u Q I rx ry h
  obtain ⟨l, k, xs, rfl, rfl, hT, hne, h1, h2, hz, q⟩ := h
  cases rx
  obtain ⟨t, rfl⟩ := ry
  obtain ⟨its, r, ⟨⟨cls, dd, data, sl⟩, ho, hc, n, hd⟩, hs⟩ := I.tuple hT
  simp only at hc hd
  subst hc hd
  have hle : its.length = xs.length := r.length.symm
  have hi : its.toArray.isEmpty = false := by
    cases its with
    | nil => exact absurd (List.eq_nil_of_length_eq_zero hle.symm) hne
    | cons a b => rfl
  have fl : ∀ {α : Type} (as : List α), as.length ≤ 1000 → (List.replicate k.toNat as).flatten.length ≤ sizeLine := fun as ha => by
    have a1 : k.toNat * as.length ≤ 1000 * 1000 := Nat.mul_le_mul (by omega) ha
    have a2 : (1000 * 1000 : Nat) ≤ sizeLine := by decide
    rw [PyProof.Rows.lm_len_rep_flat]
    exact Nat.le_trans a1 a2
  have hm : ((its.toArray.size : Nat) : Int) * k ≤ 1000000 := by
    rw [List.size_toArray, hle]
    have a1 : ((xs.length : Nat) : Int) * k ≤ 1000 * k := Int.mul_le_mul_of_nonneg_right (by omega) (by omega)
    omega
  have c4 : Builtin.Tuple.tupleTooMany (((its.toArray.size : Nat) : Int) * k) = false := by
    unfold Builtin.Tuple.tupleTooMany
    rw [sizeLine_eq]
    exact decide_eq_false (by omega)
  refine wpAny_binaryOp_repeat_ref (T := "tuple") (U := "int") (by decide) ⟨_, ho, rfl⟩ (fun s' => typeIs_int s' k t) noFill_tuple_mul F.fills_int_mul F.slot_int_rmul repeat_tuple F.slot_int_index.lookup
    (call_meets F.slot_int_rmul (typeIs_int s k t) F.entry_int_rmul (F.args_int_rmul_2 _ _) (int_rmul_tuple k t l its.toArray n dd sl)
      ⟨ho, rfl, ⟨_, ho, rfl⟩, call_meets F.slot_tuple_mul ⟨_, ho, rfl⟩ F.entry_tuple_mul (F.args_tuple_mul_2 _ _) (tuple_mulW l its.toArray n dd sl k t ?_ ?_ ?_ (by omega) c4 (by rw [size_rep, List.size_toArray]; exact fl its (by omega))) ⟨ho, ?_⟩⟩)
  · rw [decide_eq_false (by omega), decide_eq_false (by omega)]; rfl
  · rw [hi, Bool.false_or]
    exact beq_eq_false_iff_ne.mpr (by omega)
  · rw [hi, Bool.or_false]
    exact decide_eq_false (by omega)
  · rw [size_rep]
    exact endT I (r.rep k.toNat) (fl xs hz) q
/-! ### tuple(range(..)) -/
def tTupRgN (te : L2.St → Hp → (Int → Int → Hp → Prop) → Prop) : TE := fun σ H Q => te σ H fun a b H1 => RgOk a b ∧ NewT H1 (rgV a b) Q
open PyProof.Rows in
theorem pe_tupRgN {te : L2.St → Hp → (Int → Int → Hp → Prop) → Prop} {p pos : Pos} (hc : X.calm = true) (hg : Gl X "tuple") (hm : X.mg "tuple" = none) (he : PRg X e te) (na : starEach [e] X.env = (false, eval e X.env) :: starEach [] X.env) : PE X (.Call (.Name "tuple" p) [e] [] pos) (tTupRgN te) := by
  refine ⟨fun pins s σ H Q I h => ?_⟩
  refine Call_ (ld_blt I hg hm boot_tuple (PyProof.Rows.callWith_type1 (args_cons (thn (he pins s σ H _ I h) fun x s1 ⟨r, a, b, t, u, v, H1, ex, hr, I1, ok, q⟩ => args_nil ?_) na) na))
  subst ex
  refine call_tuple_range (n := (b - a).toNat) (I1.ok.hd hc) hr (small_one ok.1 ok.2.1 ok.2.2.1 ok.2.2.2.1) (rangeSize_nat a b) ok.2.2.2.2 fun h' tk acc hk hi => ?_
  have := endT (s := { s1 with heap := h', toks := tk }) (I1.kept hk) (vals_rg hi) (by rw [rgV_length, sizeLine_eq]; have := ok.2.2.2.2; omega) q
  rw [Array.toArray_toList] at this
  exact this
end
end Ev
end
/-! ## EvZ -/
section
set_option Elab.async false
set_option linter.all false
set_option maxRecDepth 100000
set_option maxHeartbeats 1000000
/-! EvZ: zip of three tuples. -/
namespace Ev
open PySem L2
def Itz3 (K : PySem.W.Frag) (a b c : Addr) : It :=
  ⟨fun i H => ∃ (xs ys zs : List V) (x y z : V), SqT K H a xs ∧ SqT K H b ys ∧ SqT K H c zs ∧ xs[i]? = some x ∧ ys[i]? = some y ∧ zs[i]? = some z,
    fun i H v H' => ∃ T x y z, v = .ref T ∧ H T = none ∧ H' = upd H T (.tup [x, y, z]) ∧ (∀ xs, SqT K H a xs → xs[i]? = some x) ∧ (∀ ys, SqT K H b ys → ys[i]? = some y) ∧ ∀ zs, SqT K H c zs → zs[i]? = some z,
    fun i H => ∃ xs ys zs : List V, SqT K H a xs ∧ SqT K H b ys ∧ SqT K H c zs ∧ i ≤ xs.length ∧ i ≤ ys.length ∧ i ≤ zs.length ∧ (i = xs.length ∨ i = ys.length ∨ i = zs.length)⟩
theorem turn_zip3 {P : Program} {w : World} {K : PySem.W.Frag} {elts : List Expr} {kk : Nat} {tpos : Pos} {a b c z TI TO i1 i2 i3 : Addr} (D : ZipSep3 z TI TO i1 i2 i3 [i1, a] [i2, b] [i3, c]) (na : a ≠ i1) (nb : b ≠ i2) (nc : c ≠ i3) :
    Turn P w K (.Tuple elts kk tpos) (Itz3 K a b c) [z, TI, TO, i1, i2, i3] z (fun i h => IsZip h z TI TO .none ∧ IsTupOf3 h TI (.ref i1) (.ref i2) (.ref i3) ∧ (∃ x y u, IsTupOf3 h TO x y u) ∧ h.IsTupleIter i1 a i ∧ h.IsTupleIter i2 b i ∧ h.IsTupleIter i3 c i) where
  mem := by simp
  obj := fun i h st q hq => by
    obtain ⟨hz, hTI, ⟨x, y, u, hTO⟩, ⟨o1, e1, _, d1⟩, ⟨o2, e2, _, d2⟩, ⟨o3, e3, _, d3⟩⟩ := st
    have e' : q = z ∨ q = TI ∨ q = TO ∨ q = i1 ∨ q = i2 ∨ q = i3 := by simpa using hq
    rcases e' with q | q | q | q | q | q
    · rw [q]; exact ⟨_, hz, fun v q => nomatch q⟩
    · rw [q]; exact ⟨_, hTI, fun v q => nomatch q⟩
    · rw [q]; exact ⟨_, hTO, fun v q => nomatch q⟩
    · rw [q]; exact ⟨o1, e1, fun v q => by rw [d1] at q; cases q⟩
    · rw [q]; exact ⟨o2, e2, fun v q => by rw [d2] at q; cases q⟩
    · rw [q]; exact ⟨o3, e3, fun v q => by rw [d3] at q; cases q⟩
  keep := fun i h h' st k => by
    obtain ⟨hz, hTI, ⟨x, y, u, hTO⟩, h1, h2, h3⟩ := st
    exact ⟨k z (by simp) _ hz, k TI (by simp) _ hTI, ⟨x, y, u, k TO (by simp) _ hTO⟩, h1.at fun o q => k i1 (by simp) o q, h2.at fun o q => k i2 (by simp) o q, h3.at fun o q => k i3 (by simp) o q⟩
  item := by
    intro X hP hw hK hc i pins s σ H E I hf st hg
    subst hP hw hK
    obtain ⟨hz, hTI, ⟨x0, y0, u0, hTO⟩, h1, h2, h3⟩ := st
    obtain ⟨xs, ys, zs, x, y, u, hqx, hqy, hqz, hx, hy, hu⟩ := hg
    obtain ⟨its, rv, p, _⟩ := I.tuple hqx
    obtain ⟨its2, rv2, p2, _⟩ := I.tuple hqy
    obtain ⟨its3, rv3, p3, _⟩ := I.tuple hqz
    obtain ⟨v1, hv1, ru⟩ := rv.get hx
    obtain ⟨v2, hv2, ru2⟩ := rv2.get hy
    obtain ⟨v3, hv3, ru3⟩ := rv3.get hu
    have hzl : z < s.heap.objs.size := Heap.lt_size hz
    have lt_of : ∀ {l : List Value} {v : Value}, l[i]? = some v → i < l.toArray.size := fun {l v} e => by
      have : i < l.length := by
        by_cases q : i < l.length
        · exact q
        · rw [List.getElem?_eq_none (by omega)] at e; cases e
      simpa using this
    have hh := I.ok.hd hc
    refine wpAny_pyNext_zipD3_item D (Draws.tuple (A := X.A.in1) hh i1 a na its.toArray) (Draws.tuple (A := X.A.in1) hh i2 b nb its2.toArray) (Draws.tuple (A := X.A.in1) hh i3 c nc its3.toArray) hz hTI hTO ⟨h1, p⟩ ⟨h2, p2⟩ ⟨h3, p3⟩ (lt_of hv1) (lt_of hv2) (lt_of hv3)
      fun w1 w2 w3 h' tk P1 P2 P3 z' TO' h1' h2' h3' hT hsz hk => ?_
    have ew1 : w1 = v1 := by rw [List.getElem?_toArray, hv1] at P1; exact (Option.some.inj P1).symm
    have ew2 : w2 = v2 := by rw [List.getElem?_toArray, hv2] at P2; exact (Option.some.inj P2).symm
    have ew3 : w3 = v3 := by rw [List.getElem?_toArray, hv3] at P3; exact (Option.some.inj P3).symm
    subst ew1 ew2 ew3
    refine ⟨_, rfl, wpAny_letOwnedTupleGo_zip (s := { s with heap := h', toks := tk }) z' fun h'' z'' sb => ?_⟩
    have hT2 : h''.get? s.heap.objs.size = some { cls := .type "tuple", data := .seq #[w1, w2, w3] } := (sb.2 _ (Nat.ne_of_gt hzl)).trans hT
    have new : ObjOk X.prog X.w (upd H s.heap.objs.size (.tup [x, y, u])) h'' s.heap.objs.size (.tup [x, y, u]) :=
      ⟨by show 3 ≤ sizeLine; decide, [w1, w2, w3], .cons ru (.cons ru2 (.cons ru3 .nil)), ⟨_, hT2, rfl, _, rfl⟩⟩
    have I1 : Inv X pins σ (upd H s.heap.objs.size (.tup [x, y, u])) { s with heap := h'', toks := tk } :=
      I.turnedNew (t' := tk) (ch := [z, TI, TO, i1, i2, i3]) (fun c o hb q => (sb.2 c (fun q' => hb (by simp [q']))).trans (hk c o (fun q' => hb (by simp [q'])) (fun q' => hb (by simp [q'])) (fun q' => hb (by simp [q'])) (fun q' => hb (by simp [q'])) (fun q' => hb (by simp [q'])) q)) hf (Nat.le_refl _) new
    have i1z : i1 ≠ z := fun q => D.zf1 (by rw [← q]; exact D.mem1)
    have i2z : i2 ≠ z := fun q => D.zf2 (by rw [← q]; exact D.mem2)
    have i3z : i3 ≠ z := fun q => D.zf3 (by rw [← q]; exact D.mem3)
    refine ⟨.ref s.heap.objs.size, _, I1, rfl, ⟨_, x, y, u, rfl, I.hok.fresh (Nat.le_refl _), rfl, fun l hl => by rw [I.tuple_inj hl hqx]; exact hx, fun l hl => by rw [I.tuple_inj hl hqy]; exact hy, fun l hl => by rw [I.tuple_inj hl hqz]; exact hu⟩, ⟨z'', ?_, ⟨w1, w2, w3, ?_⟩, ?_, ?_, ?_⟩, fun c hcm => ?_⟩
    · exact (sb.2 _ D.TIz).trans (hk _ _ D.TIz D.TITO D.TIi1 D.TIi2 D.TIi3 hTI)
    · exact (sb.2 _ D.TOz).trans TO'
    · exact h1'.1.at fun o q => (sb.2 _ i1z).trans q
    · exact h2'.1.at fun o q => (sb.2 _ i2z).trans q
    · exact h3'.1.at fun o q => (sb.2 _ i3z).trans q
    · have hlt : c < s.heap.objs.size := by
        have e' : c = z ∨ c = TI ∨ c = TO ∨ c = i1 ∨ c = i2 ∨ c = i3 := by simpa using hcm
        rcases e' with q | q | q | q | q | q
        · rw [q]; exact hzl
        · rw [q]; exact Heap.lt_size hTI
        · rw [q]; exact Heap.lt_size hTO
        · rw [q]; obtain ⟨_, e1, _⟩ := h1; exact Heap.lt_size e1
        · rw [q]; obtain ⟨_, e2, _⟩ := h2; exact Heap.lt_size e2
        · rw [q]; obtain ⟨_, e3, _⟩ := h3; exact Heap.lt_size e3
      rw [upd_ne (Nat.ne_of_lt hlt)]
      exact (hf c hcm).1
  done := by
    intro X hP hw hK hc i pins s σ H E I hf st hg
    subst hP hw hK
    obtain ⟨hz, hTI, ⟨x0, y0, u0, hTO⟩, h1, h2, h3⟩ := st
    obtain ⟨xs, ys, zs, hqx, hqy, hqz, e1, e2, e3, hend⟩ := hg
    obtain ⟨its, rv, p, _⟩ := I.tuple hqx
    obtain ⟨its2, rv2, p2, _⟩ := I.tuple hqy
    obtain ⟨its3, rv3, p3, _⟩ := I.tuple hqz
    have l1 := rv.length
    have l2 := rv2.length
    have l3 := rv3.length
    have hh := I.ok.hd hc
    exact wpAny_pyNext_zipD3_end D (Draws.tuple (A := X.A.in1) hh i1 a na its.toArray) (Draws.tuple (A := X.A.in1) hh i2 b nb its2.toArray) (Draws.tuple (A := X.A.in1) hh i3 c nc its3.toArray) hz hTI hTO ⟨h1, p⟩ ⟨h2, p2⟩ ⟨h3, p3⟩ (by simp; omega) (by simp; omega) (by simp; omega) (by simp; omega)
      fun h' tk hk => ⟨rfl, I.turnedL (t' := tk) (ch := [z, TI, TO, i1, i2, i3]) (fun c o hb q =>
      hk c o (fun q' => hb (by simp [q'])) (fun q' => hb (by simp [q'])) (fun q' => hb (by simp [q'])) (fun q' => hb (by simp [q'])) (fun q' => hb (by simp [q'])) q) hf⟩
  self := fun A i s Q E st h => wpAny_pyIter_zip st.1 h
def iZip3A (K : PySem.W.Frag) (ta : TA) : TI := fun σ H R => ta σ H fun vs H1 => ∃ a b c xs ys zs, vs = [.ref a, .ref b, .ref c] ∧ SqT K H1 a xs ∧ SqT K H1 b ys ∧ SqT K H1 c zs ∧ R (Itz3 K a b c) H1
theorem pi_zip3A {X : Cx} {e e2 e3 : Expr} {ta : TA} {p pos tpos : Pos} {elts : List Expr} {kk : Nat} (hg : Gl X "zip") (hm : X.mg "zip" = none) (ha : PA X [e, e2, e3] ta)
    (hs : starEach [e, e2, e3] X.env = (false, eval e X.env) :: starEach [e2, e3] X.env := by rfl) (hpl : (backTo pos (starEach [e2, e3] X.env)).any (·.1) = false := by rfl) :
    PI X (.Tuple elts kk tpos) (.Call (.Name "zip" p) [e, e2, e3] [] pos) (iZip3A X.K ta) := by
  refine ⟨fun pins s σ H R I h => ?_⟩
  refine PyProof.Rows.Call_ (ld_blt I hg hm PyProof.Rows.boot_zip (PyProof.Rows.callWith_type1 (thn (ha.run pos pins s σ H _ I h) fun us s1 ⟨vs, H1, I1, r1, q1⟩ => ?_) hs hpl))
  obtain ⟨a, b, c, xs, ys, zs, ex, hqx, hqy, hqz, q⟩ := q1
  subst ex
  cases r1 with
  | cons r rr =>
    cases rr with
    | cons r' rr =>
      cases rr with
      | cons r'' rr =>
      cases rr
      cases r
      cases r'
      cases r''
      obtain ⟨its, rv, p1, _⟩ := I1.tuple hqx
      obtain ⟨its2, rv2, p2, _⟩ := I1.tuple hqy
      obtain ⟨its3, rv3, p3, _⟩ := I1.tuple hqz
      obtain ⟨o1, ho1, _⟩ := id p1
      obtain ⟨o2, ho2, _⟩ := id p2
      obtain ⟨o3, ho3, _⟩ := id p3
      have la := Heap.lt_size ho1
      have lb := Heap.lt_size ho2
      have lc := Heap.lt_size ho3
      refine zip_begins3 (begins_tuple a its.toArray) (begins_tuple b its2.toArray) (begins_tuple c its3.toArray) p1 p2 p3 fun h' hz hTI hTO h1 h2 h3 hsz hk => wpAny_pyIter_zip hz ?_
      have I2 : Inv X pins σ H1 { s1 with heap := h' } := I1.kept (t' := s1.toks) hk
      refine ⟨s1.heap.objs.size + 5, [s1.heap.objs.size + 5, s1.heap.objs.size + 3, s1.heap.objs.size + 4, s1.heap.objs.size, s1.heap.objs.size + 1, s1.heap.objs.size + 2], _, _, H1, rfl, I2,
        turn_zip3 (zip_sep3 (N := s1.heap.objs.size) (fp1 := [a]) (fp2 := [b]) (fp3 := [c]) (by simpa using la) (by simpa using lb) (by simpa using lc)) (Nat.ne_of_lt la) (Nat.ne_of_lt (Nat.lt_succ_of_lt lb)) (Nat.ne_of_lt (Nat.lt_succ_of_lt (Nat.lt_succ_of_lt lc))), ⟨hz, hTI, ⟨_, _, _, hTO⟩, ⟨_, h1, rfl, rfl⟩, ⟨_, h2, rfl, rfl⟩, ⟨_, h3, rfl, rfl⟩⟩, fun b hb => ?_, q⟩
      have hle : s1.heap.objs.size ≤ b := by
        simp only [List.mem_cons, List.not_mem_nil, or_false] at hb
        rcases hb with z | z | z | z | z | z <;> rw [z] <;> first | exact Nat.le_refl _ | exact Nat.le_add_right _ _
      exact I1.fpOk hle (I1.hok.fresh hle)
end Ev
end
/-! ## Ev1 -/
section
set_option Elab.async false
set_option linter.all false
set_option maxRecDepth 100000
set_option maxHeartbeats 1000000
/-! Ev1: by-value data over the abstract heap: slots, ownership, the frozen heap. -/
namespace Ev
open PySem L2

abbrev D := PyData
structure Sl where
  own : Bool
  d : D
abbrev SD := List (Option Sl)

def Ex (H H' : Hp) : Prop := ∀ a o, H a = some o → H' a = some o
theorem Ex.refl (H : Hp) : Ex H H := fun _ _ h => h
theorem Ex.trans {H H1 H2 : Hp} (a : Ex H H1) (b : Ex H1 H2) : Ex H H2 := fun x o h => b x o (a x o h)
theorem Ex.new {H : Hp} {p : Addr} {o : HO} (h : H p = none) : Ex H (upd H p o) := fun a u e => by
  rw [upd_ne (ne_of_none e h)]
  exact e
theorem Ex.none {H H' : Hp} {p : Addr} (e : Ex H H') (h : H' p = none) : H p = none := by
  cases h1 : H p with
  | none => rfl
  | some o => rw [e p o h1] at h; cases h
theorem Ex.rd {H H' : Hp} {a : Addr} {u : HO} (e : Ex H H') (h : Rd H a u) : Rd H' a u := by
  rcases h with h | ⟨o, h⟩
  · exact Or.inl (e a _ h)
  · exact Or.inr ⟨o, e a _ h⟩
theorem Ex.tupAt {H H' : Hp} {a : Addr} {xs : List V} (e : Ex H H') (h : TupAt H a xs) : TupAt H' a xs := by
  obtain ⟨o, h, z⟩ := h
  exact ⟨o, e a _ h, z⟩
theorem Ex.sqL {K : PySem.W.Frag} {H H' : Hp} {a : Addr} {xs : List V} (e : Ex H H') (h : SqL K H a xs) : SqL K H' a xs := by
  rcases h with h | h
  · exact Or.inl (e.rd h)
  · exact Or.inr h
theorem Ex.sqT {K : PySem.W.Frag} {H H' : Hp} {a : Addr} {xs : List V} (e : Ex H H') (h : SqT K H a xs) : SqT K H' a xs := by
  rcases h with h | h
  · exact Or.inl (e.rd h)
  · exact Or.inr h
mutual
/-- a value as data: lists and tuples that stand in the heap -/
inductive Dp (K : PySem.W.Frag) (H : Hp) : V → D → Prop
  | non : Dp K H .non .none
  | bl (b : Bool) : Dp K H (.bl b) (.bool b)
  | int (i : Int) : Dp K H (.int i) (.int i)
  | str (x : Str) : Dp K H (.str x) (.str x)
  | lst {a : Addr} {xs : List V} {ds : List D} : Rd H a (.lst xs) → DpAll K H xs ds → Dp K H (.ref a) (.list ds)
  | tup {a : Addr} {xs : List V} {ds : List D} : TupAt H a xs → DpAll K H xs ds → Dp K H (.ref a) (.tuple ds)
inductive DpAll (K : PySem.W.Frag) (H : Hp) : List V → List D → Prop
  | nil : DpAll K H [] []
  | cons {v : V} {vs : List V} {d : D} {ds : List D} : Dp K H v d → DpAll K H vs ds → DpAll K H (v :: vs) (d :: ds)
end
mutual
theorem Dp.old {K : PySem.W.Frag} {F : Hp} : ∀ {v : V} {d : D}, Dp K F v d → L2.Dp K F v d
  | _, _, .non => .non
  | _, _, .bl b => .bl b
  | _, _, .int i => .int i
  | _, _, .str x => .str x
  | _, _, .lst h hs => .lst (.inl h) (DpAll.old hs)
  | _, _, .tup h hs => .tup (.inl h.rd) (DpAll.old hs)
theorem DpAll.old {K : PySem.W.Frag} {F : Hp} : ∀ {vs : List V} {ds : List D}, DpAll K F vs ds → L2.DpAll K F vs ds
  | _, _, .nil => .nil
  | _, _, .cons h hs => .cons (Dp.old h) (DpAll.old hs)
end
mutual
theorem Dp.mono {K : PySem.W.Frag} {F F' : Hp} (e : Ex F F') : ∀ {v : V} {d : D}, Dp K F v d → Dp K F' v d
  | _, _, .non => .non
  | _, _, .bl b => .bl b
  | _, _, .int i => .int i
  | _, _, .str x => .str x
  | _, _, .lst h hs => .lst (e.rd h) (DpAll.mono e hs)
  | _, _, .tup h hs => .tup (e.tupAt h) (DpAll.mono e hs)
theorem DpAll.mono {K : PySem.W.Frag} {F F' : Hp} (e : Ex F F') : ∀ {vs : List V} {ds : List D}, DpAll K F vs ds → DpAll K F' vs ds
  | _, _, .nil => .nil
  | _, _, .cons h hs => .cons (Dp.mono e h) (DpAll.mono e hs)
end

theorem DpAll.len {K : PySem.W.Frag} {F : Hp} : ∀ {vs : List V} {ds : List D}, DpAll K F vs ds → vs.length = ds.length
  | _, _, .nil => rfl
  | _, _, .cons _ hs => by simp [DpAll.len hs]
theorem DpAll.get {K : PySem.W.Frag} {F : Hp} : ∀ {vs : List V} {ds : List D} {i : Nat} {d : D}, DpAll K F vs ds → ds[i]? = some d → ∃ v, vs[i]? = some v ∧ Dp K F v d
  | _, _, _, _, .nil, e => by simp at e
  | _, _, 0, _, .cons h _, e => by simp at e; subst e; exact ⟨_, rfl, h⟩
  | _, _, i + 1, d, .cons _ hs, e => by
    obtain ⟨v, h1, h2⟩ := DpAll.get (i := i) hs (by simpa using e)
    exact ⟨v, by simpa using h1, h2⟩
theorem DpAll.getV {K : PySem.W.Frag} {F : Hp} : ∀ {vs : List V} {ds : List D} {i : Nat} {v : V}, DpAll K F vs ds → vs[i]? = some v → ∃ d, ds[i]? = some d ∧ Dp K F v d
  | _, _, _, _, .nil, e => by simp at e
  | _, _, 0, _, .cons h _, e => by simp at e; subst e; exact ⟨_, rfl, h⟩
  | _, _, i + 1, d, .cons _ hs, e => by
    obtain ⟨v, h1, h2⟩ := DpAll.getV (i := i) hs (by simpa using e)
    exact ⟨v, by simpa using h1, h2⟩
theorem DpAll.append {K : PySem.W.Frag} {F : Hp} : ∀ {vs ws : List V} {ds es : List D}, DpAll K F vs ds → DpAll K F ws es → DpAll K F (vs ++ ws) (ds ++ es)
  | _, _, _, _, .nil, s => s
  | _, _, _, _, .cons h hs, s => .cons h (DpAll.append hs s)
theorem DpAll.set {K : PySem.W.Frag} {F : Hp} {v : V} {d : D} (h : Dp K F v d) : ∀ {vs : List V} {ds : List D} (i : Nat), DpAll K F vs ds → DpAll K F (vs.set i v) (ds.set i d)
  | _, _, _, .nil => .nil
  | _, _, 0, .cons _ t => .cons h t
  | _, _, i + 1, .cons q t => .cons q (DpAll.set h i t)
theorem DpAll.take {K : PySem.W.Frag} {F : Hp} : ∀ {vs : List V} {ds : List D} (n : Nat), DpAll K F vs ds → DpAll K F (vs.take n) (ds.take n)
  | _, _, 0, _ => .nil
  | _, _, _ + 1, .nil => .nil
  | _, _, n + 1, .cons h t => .cons h (DpAll.take n t)
theorem DpAll.drop {K : PySem.W.Frag} {F : Hp} : ∀ {vs : List V} {ds : List D} (n : Nat), DpAll K F vs ds → DpAll K F (vs.drop n) (ds.drop n)
  | _, _, 0, r => r
  | _, _, _ + 1, .nil => .nil
  | _, _, n + 1, .cons _ t => DpAll.drop n t

/-- a dict's key as data -/
def keyD : Key → D
  | .inl i => .int i
  | .inr x => .str x
inductive HoldKV (K : PySem.W.Frag) (F : Hp) {κ : Type} (f : κ → D) : List (κ × V) → List (D × D) → Prop
  | nil : HoldKV K F f [] []
  | cons {k : κ} {v : V} {d : D} {kvs : List (κ × V)} {es : List (D × D)} : Dp K F v d → HoldKV K F f kvs es → HoldKV K F f ((k, v) :: kvs) ((f k, d) :: es)
theorem HoldKV.mono {K : PySem.W.Frag} {F F' : Hp} (e : Ex F F') {κ : Type} {f : κ → D} : ∀ {kvs : List (κ × V)} {es : List (D × D)}, HoldKV K F f kvs es → HoldKV K F' f kvs es
  | _, _, .nil => .nil
  | _, _, .cons h t => .cons (Dp.mono e h) (HoldKV.mono e t)
/-- what an owned object holds, as data -/
def Hold (K : PySem.W.Frag) (F : Hp) : HO → D → Prop
  | .lst vs, .list ds => DpAll K F vs ds
  | .dK kvs, .dict es => HoldKV K F keyD kvs es
  | _, _ => False
theorem Hold.mono {K : PySem.W.Frag} {F F' : Hp} (e : Ex F F') {o : HO} {d : D} (h : Hold K F o d) : Hold K F' o d := by
  cases o <;> cases d <;> first | exact h.elim | exact DpAll.mono e h | exact HoldKV.mono e h | exact h
theorem Hold.list {K : PySem.W.Frag} {F : Hp} {o : HO} {ds : List D} (h : Hold K F o (.list ds)) : ∃ vs, o = .lst vs ∧ DpAll K F vs ds := by
  cases o <;> first | exact h.elim | exact ⟨_, rfl, h⟩
theorem Hold.dict {K : PySem.W.Frag} {F : Hp} {o : HO} {es : List (D × D)} (h : Hold K F o (.dict es)) : ∃ kvs, o = .dK kvs ∧ HoldKV K F keyD kvs es := by
  cases o <;> first | exact h.elim | exact ⟨_, rfl, h⟩

/-- the address a is owned by a slot -/
def OwnAt (σd : SD) (σ : L2.St) (a : Addr) : Prop := ∃ (i : Nat) (d : D), σd[i]? = some (some (Sl.mk true d)) ∧ σ[i]? = some (some (V.ref a))

/-- the written part, and the slots that hold what came in from outside: they are never stored to -/
structure Kp where
  K : PySem.W.Frag
  pn : List (Nat × Addr)
instance : Coe Kp PySem.W.Frag := ⟨Kp.K⟩
def Kp.free (K : Kp) (i : Nat) : Prop := ∀ p ∈ K.pn, p.1 ≠ i
structure Rl (K : Kp) (F : Hp) (σd : SD) (σ : L2.St) (H : Hp) : Prop where
  fh : Ex F H
  len : σd.length = σ.length
  shr : ∀ (i : Nat) (d : D), σd[i]? = some (some (Sl.mk false d)) → ∃ v, σ[i]? = some (some v) ∧ Dp K F v d
  own : ∀ (i : Nat) (d : D), σd[i]? = some (some (Sl.mk true d)) → ∃ a o, σ[i]? = some (some (V.ref a)) ∧ F a = none ∧ H a = some o ∧ Hold K F o d
  sep : ∀ (i j : Nat) (d e : D) (a : Addr), σd[i]? = some (some (Sl.mk true d)) → σd[j]? = some (some (Sl.mk true e)) → σ[i]? = some (some (V.ref a)) → σ[j]? = some (some (V.ref a)) → i = j
  pin : ∀ p ∈ K.pn, σ[p.1]? = some (some (V.ref p.2))

structure Go (F : Hp) (σd : SD) (σ : L2.St) (H : Hp) (F' : Hp) (σd' : SD) (σ' : L2.St) (H' : Hp) : Prop where
  ff : Ex F F'
  keep : ∀ b o, H b = some o → ¬ OwnAt σd σ b → H' b = some o
  fnew : ∀ b o, F' b = some o → F b = some o ∨ H b = none ∨ OwnAt σd σ b
  own : ∀ b, OwnAt σd' σ' b → OwnAt σd σ b ∨ H b = none
  there : ∀ b o, H b = some o → ∃ o', H' b = some o'
theorem Go.refl (F : Hp) (σd : SD) (σ : L2.St) (H : Hp) : Go F σd σ H F σd σ H := ⟨Ex.refl F, fun _ _ h _ => h, fun _ _ h => .inl h, fun _ h => .inl h, fun _ o h => ⟨o, h⟩⟩
theorem Go.back {F : Hp} {σd : SD} {σ : L2.St} {H : Hp} {F' : Hp} {σd' : SD} {σ' : L2.St} {H' : Hp} (g : Go F σd σ H F' σd' σ' H') {b : Addr} (h : H' b = none) : H b = none := by
  cases e : H b with
  | none => rfl
  | some o =>
    obtain ⟨o', q⟩ := g.there b o e
    rw [h] at q; cases q
theorem Go.trans {F : Hp} {σd : SD} {σ : L2.St} {H : Hp} {F1 : Hp} {σd1 : SD} {σ1 : L2.St} {H1 : Hp} {F2 : Hp} {σd2 : SD} {σ2 : L2.St} {H2 : Hp} (a : Go F σd σ H F1 σd1 σ1 H1) (b : Go F1 σd1 σ1 H1 F2 σd2 σ2 H2) : Go F σd σ H F2 σd2 σ2 H2 := by
  refine ⟨a.ff.trans b.ff, fun x o h n => ?_, fun x o h => ?_, fun x h => ?_, fun x o h => ?_⟩
  · refine b.keep x o (a.keep x o h n) fun q => ?_
    rcases a.own x q with q | q
    · exact n q
    · rw [h] at q; cases q
  · rcases b.fnew x o h with q | q | q
    · exact a.fnew x o q
    · exact .inr (.inl (a.back q))
    · rcases a.own x q with q | q
      · exact .inr (.inr q)
      · exact .inr (.inl q)
  · rcases b.own x h with q | q
    · exact a.own x q
    · exact .inr (a.back q)
  · obtain ⟨o1, h1⟩ := a.there x o h
    exact b.there x o1 h1

/-- what an expression gives: H is the heap at its start -/
def Res (K : PySem.W.Frag) (H F' : Hp) (σd' : SD) (σ : L2.St) (H' : Hp) (fr : Bool) (d : D) (v : V) : Prop :=
  match fr with
  | false => Dp K F' v d
  | true => ∃ a o, v = .ref a ∧ H a = none ∧ F' a = none ∧ H' a = some o ∧ Hold K F' o d ∧ ¬ OwnAt σd' σ a

abbrev DE := SD → Option (Bool × D × SD)
def rdE (K : Kp) (f : DE) : TE := fun σ H Q => ∃ F σd, Rl K F σd σ H ∧ ∃ fr d σd', f σd = some (fr, d, σd') ∧
  ∀ F' H' v, Rl K F' σd' σ H' → Go F σd σ H F' σd' σ H' → Res K H F' σd' σ H' fr d v → Q v H'

/-- an operand: a frozen value, a new object, a slot by reference -/
inductive Opd where
  | val (d : D)
  | tmp (d : D)
  | slot (i : Nat)
abbrev DO := SD → Option (Opd × SD)
def OpdOk (K : PySem.W.Frag) (F : Hp) (σd : SD) (σ : L2.St) (H : Hp) : Opd → V → Prop
  | .val d, v => Dp K F v d
  | .tmp d, v => ∃ a o, v = .ref a ∧ F a = none ∧ H a = some o ∧ Hold K F o d ∧ ¬ OwnAt σd σ a
  | .slot i, v => σ[i]? = some (some v)
def rdO (K : Kp) (f : DO) : TE := fun σ H Q => ∃ F σd, Rl K F σd σ H ∧ ∃ o σd', f σd = some (o, σd') ∧
  ∀ F' H' v, Rl K F' σd' σ H' → Go F σd σ H F' σd' σ H' → OpdOk K F' σd' σ H' o v → Q v H'
theorem OpdOk.go {K : PySem.W.Frag} {F : Hp} {σd : SD} {σ : L2.St} {H : Hp} {F' : Hp} {σd' : SD} {H' : Hp} (g : Go F σd σ H F' σd' σ H') {o : Opd} {v : V} (h : OpdOk K F σd σ H o v) : OpdOk K F' σd' σ H' o v := by
  cases o with
  | val d => exact Dp.mono g.ff h
  | slot i => exact h
  | tmp d =>
    obtain ⟨a, o, e, hf, hh, ho, hn⟩ := h
    refine ⟨a, o, e, ?_, g.keep a o hh hn, ho.mono g.ff, fun q => ?_⟩
    · cases q : F' a with
      | none => rfl
      | some u =>
        rcases g.fnew a u q with q | q | q
        · rw [hf] at q; cases q
        · rw [hh] at q; cases q
        · exact (hn q).elim
    · rcases g.own a q with q | q
      · exact hn q
      · rw [hh] at q; cases q

/-- the data of an operand when the operation is done -/
def res (σd : SD) : Opd → Option D
  | .val d => some d
  | .tmp d => some d
  | .slot i => match σd[i]? with
    | some (some s) => some s.d
    | _ => none
/-- an operand's value: frozen data, or an owned object that holds it -/
def Opr (K : PySem.W.Frag) (F H : Hp) (v : V) (d : D) : Prop := Dp K F v d ∨ ∃ a o, v = .ref a ∧ F a = none ∧ H a = some o ∧ Hold K F o d
theorem opr_of {K : Kp} {F : Hp} {σd : SD} {σ : L2.St} {H : Hp} (R : Rl K F σd σ H) {o : Opd} {v : V} {d : D} (h : OpdOk K F σd σ H o v) (e : res σd o = some d) : Opr K F H v d := by
  cases o with
  | val d' => cases e; exact .inl h
  | tmp d' =>
    cases e
    obtain ⟨a, o, e, hf, hh, ho, hn⟩ := h
    exact .inr ⟨a, o, e, hf, hh, ho⟩
  | slot i =>
    have e : (match σd[i]? with | some (some s) => some s.d | _ => none) = some d := e
    split at e
    · rename_i s hs
      cases e
      obtain ⟨ow, dd⟩ := s
      cases ow with
      | false =>
        obtain ⟨v', h1, h2⟩ := R.shr i dd hs
        have h' : σ[i]? = some (some v) := h
        rw [h'] at h1; cases h1
        exact .inl h2
      | true =>
        obtain ⟨a, o, h1, h2, h3, h4⟩ := R.own i dd hs
        have h' : σ[i]? = some (some v) := h
        rw [h'] at h1; cases h1
        exact .inr ⟨a, o, rfl, h2, h3, h4⟩
    · cases e
theorem Opr.list {K : PySem.W.Frag} {F H : Hp} (e : Ex F H) {v : V} {ds : List D} (h : Opr K F H v (.list ds)) : ∃ a vs, v = .ref a ∧ Rd H a (.lst vs) ∧ DpAll K F vs ds := by
  rcases h with h | ⟨a, o, rfl, hf, hh, ho⟩
  · cases h with
    | lst h hs => exact ⟨_, _, rfl, e.rd h, hs⟩
  · obtain ⟨vs, rfl, hs⟩ := ho.list
    exact ⟨a, vs, rfl, Rd.of hh, hs⟩
theorem Opr.tuple {K : PySem.W.Frag} {F H : Hp} {v : V} {ds : List D} (h : Opr K F H v (.tuple ds)) : ∃ a vs, v = .ref a ∧ TupAt F a vs ∧ DpAll K F vs ds := by
  rcases h with h | ⟨a, o, rfl, hf, hh, ho⟩
  · cases h with
    | tup h hs => exact ⟨_, _, rfl, h, hs⟩
  · cases o <;> exact ho.elim
theorem Opr.int {K : PySem.W.Frag} {F H : Hp} {v : V} {i : Int} (h : Opr K F H v (.int i)) : v = .int i := by
  rcases h with h | ⟨a, o, rfl, hf, hh, ho⟩
  · cases h; rfl
  · cases o <;> exact ho.elim
theorem Opr.bl {K : PySem.W.Frag} {F H : Hp} {v : V} {i : Bool} (h : Opr K F H v (.bool i)) : v = .bl i := by
  rcases h with h | ⟨a, o, rfl, hf, hh, ho⟩
  · cases h; rfl
  · cases o <;> exact ho.elim
theorem Opr.str {K : PySem.W.Frag} {F H : Hp} {v : V} {i : Str} (h : Opr K F H v (.str i)) : v = .str i := by
  rcases h with h | ⟨a, o, rfl, hf, hh, ho⟩
  · cases h; rfl
  · cases o <;> exact ho.elim
theorem Opr.non {K : PySem.W.Frag} {F H : Hp} {v : V} (h : Opr K F H v .none) : v = .non := by
  rcases h with h | ⟨a, o, rfl, hf, hh, ho⟩
  · cases h; rfl
  · cases o <;> exact ho.elim
/-- as data over the whole heap (no dict within) -/
theorem Opr.dp {K : PySem.W.Frag} {F H : Hp} (e : Ex F H) {v : V} {d : D} (h : Opr K F H v d) (nd : ∀ es, d ≠ .dict es) : Dp K H v d := by
  rcases h with h | ⟨a, o, rfl, hf, hh, ho⟩
  · exact Dp.mono e h
  · cases d with
    | list ds =>
      obtain ⟨vs, rfl, hs⟩ := ho.list
      exact .lst (Rd.of hh) (DpAll.mono e hs)
    | dict es => exact (nd es rfl).elim
    | _ => cases o <;> exact ho.elim

inductive All2 {α β : Type} (R : α → β → Prop) : List α → List β → Prop
  | nil : All2 R [] []
  | cons {a : α} {b : β} {as : List α} {bs : List β} : R a b → All2 R as bs → All2 R (a :: as) (b :: bs)
theorem All2.imp {α β : Type} {R S : α → β → Prop} (f : ∀ a b, R a b → S a b) : ∀ {as : List α} {bs : List β}, All2 R as bs → All2 S as bs
  | _, _, .nil => .nil
  | _, _, .cons h t => .cons (f _ _ h) (All2.imp f t)

abbrev DA := SD → Option (List Opd × SD)
def aNil : DA := fun σd => some ([], σd)
def aCons (a : DO) (r : DA) : DA := fun σd => match a σd with
  | some (o, σ1) => match r σ1 with
    | some (os, σ2) => some (o :: os, σ2)
    | none => none
  | none => none
def rdA (K : Kp) (f : DA) : TA := fun σ H Q => ∃ F σd, Rl K F σd σ H ∧ ∃ os σd', f σd = some (os, σd') ∧
  ∀ F' H' vs, Rl K F' σd' σ H' → Go F σd σ H F' σd' σ H' → All2 (fun v o => OpdOk K F' σd' σ H' o v) vs os → Q vs H'
theorem rdA_nil {K : Kp} {σ : L2.St} {H : Hp} {Q : List V → Hp → Prop} (h : rdA K aNil σ H Q) : tNil σ H Q := by
  obtain ⟨F, σd, R, os, σd', e, k⟩ := h
  cases e
  exact k F H [] R (Go.refl _ _ _ _) .nil
theorem rdA_cons {K : Kp} {a : DO} {r : DA} {σ : L2.St} {H : Hp} {Q : List V → Hp → Prop} (h : rdA K (aCons a r) σ H Q) : tCons (rdO K a) (rdA K r) σ H Q := by
  obtain ⟨F, σd, R, os, σd', e, k⟩ := h
  unfold aCons at e
  split at e
  · rename_i o σ1 e1
    split at e
    · rename_i os' σ2 e2
      cases e
      refine ⟨F, σd, R, o, σ1, e1, fun F1 H1 v R1 g1 ok1 => ?_⟩
      refine ⟨F1, σ1, R1, os', _, e2, fun F2 H2 vs R2 g2 ok2 => ?_⟩
      exact k F2 H2 (v :: vs) R2 (g1.trans g2) (.cons (ok1.go g2) ok2)
    · cases e
  · cases e

/-! ### primitives -/
structure Grow (F H F' H' : Hp) : Prop where
  ff : Ex F F'
  hh : Ex H H'
  fh : Ex F' H'
  fnew : ∀ b o, F' b = some o → F b = some o ∨ H b = none
theorem Grow.refl {F H : Hp} (e : Ex F H) : Grow F H F H := ⟨Ex.refl _, Ex.refl _, e, fun _ _ h => .inl h⟩
def NewRes (K : PySem.W.Frag) (H F' H' : Hp) (fr : Bool) (d : D) (v : V) : Prop :=
  match fr with
  | false => Dp K F' v d
  | true => ∃ a o, v = .ref a ∧ H a = none ∧ F' a = none ∧ H' a = some o ∧ Hold K F' o d
theorem Grow.rl {K : Kp} {F H F' H' : Hp} {σd : SD} {σ : L2.St} (g : Grow F H F' H') (R : Rl K F σd σ H) : Rl K F' σd σ H' := by
  refine ⟨g.fh, R.len, fun i d e => ?_, fun i d e => ?_, R.sep, R.pin⟩
  · obtain ⟨v, h1, h2⟩ := R.shr i d e
    exact ⟨v, h1, Dp.mono g.ff h2⟩
  · obtain ⟨a, o, h1, h2, h3, h4⟩ := R.own i d e
    refine ⟨a, o, h1, ?_, g.hh a o h3, h4.mono g.ff⟩
    cases q : F' a with
    | none => rfl
    | some u =>
      rcases g.fnew a u q with q | q
      · rw [h2] at q; cases q
      · rw [h3] at q; cases q
theorem Grow.go {F H F' H' : Hp} {σd : SD} {σ : L2.St} (g : Grow F H F' H') : Go F σd σ H F' σd σ H' :=
  ⟨g.ff, fun b o h _ => g.hh b o h, fun b o h => (g.fnew b o h).imp_right .inl, fun _ h => .inl h, fun b o h => ⟨o, g.hh b o h⟩⟩
theorem NewRes.res {K : Kp} {F H F' H' : Hp} {σd : SD} {σ : L2.St} {fr : Bool} {d : D} {v : V} (R : Rl K F σd σ H) (h : NewRes K H F' H' fr d v) {H0 : Hp} (h0 : ∀ a, H a = none → H0 a = none) : Res K H0 F' σd σ H' fr d v := by
  cases fr with
  | false => exact h
  | true =>
    obtain ⟨a, o, e, n, f, hh, ho⟩ := h
    refine ⟨a, o, e, h0 a n, f, hh, ho, fun q => ?_⟩
    obtain ⟨i, d', q1, q2⟩ := q
    obtain ⟨a', o', h1, h2, h3, h4⟩ := R.own i d' q1
    rw [q2] at h1; cases h1
    rw [n] at h3; cases h3
abbrev Prim := List D → Option (Bool × D)
def PrimOk (K : PySem.W.Frag) (r : List V → Hp → VK → Prop) (p : Prim) : Prop :=
  ∀ F H vs ds fr d (Q : VK), Ex F H → All2 (Opr K F H) vs ds → p ds = some (fr, d) → (∀ F' H' v, Grow F H F' H' → NewRes K H F' H' fr d v → Q v H') → r vs H Q
def resAll (σd : SD) : List Opd → Option (List D)
  | [] => some []
  | o :: os => match res σd o with
    | some d => match resAll σd os with
      | some ds => some (d :: ds)
      | none => none
    | none => none
theorem oprAll_of {K : Kp} {F : Hp} {σd : SD} {σ : L2.St} {H : Hp} (R : Rl K F σd σ H) : ∀ {vs : List V} {os : List Opd} {ds : List D}, All2 (fun v o => OpdOk K F σd σ H o v) vs os → resAll σd os = some ds → All2 (Opr K F H) vs ds
  | _, _, ds, .nil, e => by cases e; exact .nil
  | _, _, ds, .cons h t, e => by
    unfold resAll at e
    split at e
    · rename_i d hd
      split at e
      · rename_i ds' hds
        cases e
        exact .cons (opr_of R h hd) (oprAll_of R t hds)
      · cases e
    · cases e
def fPrim (p : Prim) (a : DA) : DE := fun σd => match a σd with
  | some (os, σ1) => match resAll σ1 os with
    | some ds => match p ds with
      | some (fr, d) => some (fr, d, σ1)
      | none => none
    | none => none
  | none => none
/-- the reading of a primitive over its operands -/
theorem rd_prim {K : Kp} {r : List V → Hp → VK → Prop} {p : Prim} (hp : PrimOk K r p) {a : DA} {σ : L2.St} {H : Hp} {Q : VK} (h : rdE K (fPrim p a) σ H Q) : rdA K a σ H fun vs H1 => r vs H1 Q := by
  obtain ⟨F, σd, R, fr, d, σd', e, k⟩ := h
  unfold fPrim at e
  split at e
  · rename_i os σ1 e1
    split at e
    · rename_i ds e2
      split at e
      · rename_i fr' d' e3
        cases e
        refine ⟨F, σd, R, os, _, e1, fun F1 H1 vs R1 g1 ok => ?_⟩
        refine hp F1 H1 vs ds _ _ Q R1.fh (oprAll_of R1 ok e2) e3 fun F2 H2 v g2 n2 => ?_
        refine k F2 H2 v (g2.rl R1) (g1.trans g2.go) ?_
        cases fr with
        | false => exact n2
        | true =>
          obtain ⟨a, o, ev, n, f, hh, ho⟩ := n2
          refine ⟨a, o, ev, ?_, f, hh, ho, fun q => ?_⟩
          · exact g1.back n
          · obtain ⟨i, d', q1, q2⟩ := q
            obtain ⟨a', o', h1, h2, h3, h4⟩ := R1.own i d' q1
            rw [q2] at h1; cases h1
            rw [n] at h3; cases h3
      · cases e
    · cases e
  · cases e
end Ev
end
/-! ## Ev2 -/
section
set_option Elab.async false
set_option linter.all false
set_option maxRecDepth 100000
set_option maxHeartbeats 1000000
/-! Ev2: expressions. -/
namespace Ev
open PySem L2

theorem peMono {X : Cx} {e : Expr} {t t' : TE} (h : PE X e t) (m : ∀ σ H Q, t' σ H Q → t σ H Q) : PE X e t' := ⟨fun pins s σ H Q I q => h.run pins s σ H Q I (m σ H Q q)⟩
theorem ptMono {X : Cx} {e : Expr} {t t' : TT} (h : PT X e t) (m : ∀ σ H Q, t' σ H Q → t σ H Q) : PT X e t' := ⟨fun pins s σ H Q I q => h.run pins s σ H Q I (m σ H Q q)⟩
theorem pwMono {X : Cx} {e : Expr} {t t' : TT} (h : PW X e t) (m : ∀ σ H Q, t' σ H Q → t σ H Q) : PW X e t' := ⟨fun wh pins s σ H Q I q => h.run wh pins s σ H Q I (m σ H Q q)⟩
theorem paMono {X : Cx} {es : List Expr} {t t' : TA} (h : PA X es t) (m : ∀ σ H Q, t' σ H Q → t σ H Q) : PA X es t' := ⟨fun pos pins s σ H Q I q => h.run pos pins s σ H Q I (m σ H Q q)⟩
theorem psMono {X : Cx} {e : Stmt} {t t' : TS} (h : PS X e t) (m : ∀ D σ H, t' D σ H → t D σ H) : PS X e t' := ⟨fun pins s σ H D I q => h.run pins s σ H D I (m D σ H q)⟩
theorem pssMono {X : Cx} {e : List Stmt} {t t' : TS} (h : PSs X e t) (m : ∀ D σ H, t' D σ H → t D σ H) : PSs X e t' := ⟨fun pins s σ H D I q => h.run pins s σ H D I (m D σ H q)⟩
theorem piMono {X : Cx} {tg e : Expr} {t t' : TI} (h : PI X tg e t) (m : ∀ σ H R, t' σ H R → t σ H R) : PI X tg e t' := ⟨fun pins s σ H R I q => h.run pins s σ H R I (m σ H R q)⟩

section
variable {K : Kp} {σ : L2.St} {H : Hp}
theorem rdE.mono {f : DE} {Q Q' : VK} (h : rdE K f σ H Q) (m : ∀ v H, Q v H → Q' v H) : rdE K f σ H Q' := by
  obtain ⟨F, σd, R, fr, d, σd', e, k⟩ := h
  exact ⟨F, σd, R, fr, d, σd', e, fun F' H' v a b c => m _ _ (k F' H' v a b c)⟩
theorem rdO.mono {f : DO} {Q Q' : VK} (h : rdO K f σ H Q) (m : ∀ v H, Q v H → Q' v H) : rdO K f σ H Q' := by
  obtain ⟨F, σd, R, d, σd', e, k⟩ := h
  exact ⟨F, σd, R, d, σd', e, fun F' H' v a b c => m _ _ (k F' H' v a b c)⟩
theorem rdA.mono {f : DA} {Q Q' : List V → Hp → Prop} (h : rdA K f σ H Q) (m : ∀ v H, Q v H → Q' v H) : rdA K f σ H Q' := by
  obtain ⟨F, σd, R, d, σd', e, k⟩ := h
  exact ⟨F, σd, R, d, σd', e, fun F' H' v a b c => m _ _ (k F' H' v a b c)⟩

/-- two operands, one operand -/
theorem rdA2 {a b : DO} {Q : List V → Hp → Prop} (h : rdA K (aCons a (aCons b aNil)) σ H Q) : rdO K a σ H fun x H1 => rdO K b σ H1 fun y H2 => Q [x, y] H2 :=
  (rdA_cons h).mono fun x H1 h1 => (rdA_cons h1).mono fun y H2 h2 => rdA_nil h2
theorem rdA1 {a : DO} {Q : List V → Hp → Prop} (h : rdA K (aCons a aNil) σ H Q) : rdO K a σ H fun x H1 => Q [x] H1 :=
  (rdA_cons h).mono fun x H1 h1 => rdA_nil h1

/-! ### freezing -/
theorem upd_get {H : Hp} {a b : Addr} {o u : HO} (h : upd H a o b = some u) : (b = a ∧ u = o) ∨ H b = some u := by
  by_cases e : b = a
  · subst e; rw [upd_same] at h; cases h; exact .inl ⟨rfl, rfl⟩
  · rw [upd_ne e] at h; exact .inr h
theorem Rl.freeze {F : Hp} {σd : SD} {a : Addr} {o : HO} (R : Rl K F σd σ H) (hf : F a = none) (hh : H a = some o) (hn : ¬ OwnAt σd σ a) : Rl K (upd F a o) σd σ H := by
  refine ⟨fun b u e => ?_, R.len, fun i d e => ?_, fun i d e => ?_, R.sep, R.pin⟩
  · rcases upd_get e with ⟨rfl, rfl⟩ | e
    · exact hh
    · exact R.fh b u e
  · obtain ⟨v, h1, h2⟩ := R.shr i d e
    exact ⟨v, h1, Dp.mono (Ex.new hf) h2⟩
  · obtain ⟨b, u, h1, h2, h3, h4⟩ := R.own i d e
    refine ⟨b, u, h1, ?_, h3, h4.mono (Ex.new hf)⟩
    rw [upd_ne fun q => hn ⟨i, d, e, by rw [← q]; exact h1⟩]
    exact h2
theorem go_freeze {F : Hp} {σd : SD} {a : Addr} {o : HO} {H0 F0 : Hp} {σd0 : SD} {σ0 : L2.St} (g : Go F0 σd0 σ0 H0 F σd σ H) (hf : F a = none) (h0 : H0 a = none ∨ OwnAt σd0 σ0 a) : Go F0 σd0 σ0 H0 (upd F a o) σd σ H := by
  refine ⟨g.ff.trans (Ex.new hf), g.keep, fun b u e => ?_, g.own, g.there⟩
  rcases upd_get e with ⟨rfl, rfl⟩ | e
  · exact .inr h0
  · exact g.fnew b u e
theorem Dp.frozen {F : Hp} {a : Addr} {o : HO} {ds : List D} (hf : F a = none) (ho : Hold K F o (.list ds)) : Dp K (upd F a o) (.ref a) (.list ds) := by
  obtain ⟨vs, rfl, hs⟩ := ho.list
  exact .lst (Rd.of upd_same) (DpAll.mono (Ex.new hf) hs)

/-- value mode: what is new is frozen -/
abbrev DW := SD → Option (D × SD)
def vOf (f : DE) : DW := fun σd => match f σd with
  | some (false, d, σ1) => some (d, σ1)
  | some (true, .list ds, σ1) => some (.list ds, σ1)
  | _ => none
def rdW (K : Kp) (f : DW) : TE := fun σ H Q => ∃ F σd, Rl K F σd σ H ∧ ∃ d σd', f σd = some (d, σd') ∧
  ∀ F' H' v, Rl K F' σd' σ H' → Go F σd σ H F' σd' σ H' → Dp K F' v d → Q v H'
theorem rdW_of {f : DE} {Q : VK} (h : rdW K (vOf f) σ H Q) : rdE K f σ H Q := by
  obtain ⟨F, σd, R, d, σd', e, k⟩ := h
  unfold vOf at e
  split at e
  · rename_i d1 σ1 e1
    cases e
    exact ⟨F, σd, R, false, d, _, e1, k⟩
  · rename_i ds σ1 e1
    cases e
    refine ⟨F, σd, R, true, _, _, e1, fun F' H' v R' g' r => ?_⟩
    obtain ⟨a, o, rfl, h0, hf, hh, ho, hn⟩ := r
    exact k (upd F' a o) H' (.ref a) (R'.freeze hf hh hn) (go_freeze g' hf (.inl h0)) (Dp.frozen hf ho)
  · cases e
def oOf (f : DE) : DO := fun σd => match f σd with
  | some (false, d, σ1) => some (.val d, σ1)
  | some (true, d, σ1) => some (.tmp d, σ1)
  | none => none
theorem rdO_of {f : DE} {Q : VK} (h : rdO K (oOf f) σ H Q) : rdE K f σ H Q := by
  obtain ⟨F, σd, R, d, σd', e, k⟩ := h
  unfold oOf at e
  split at e
  · rename_i d1 σ1 e1
    cases e
    exact ⟨F, σd, R, false, d1, _, e1, k⟩
  · rename_i d1 σ1 e1
    cases e
    refine ⟨F, σd, R, true, _, _, e1, fun F' H' v R' g' r => ?_⟩
    obtain ⟨a, o, rfl, h0, hf, hh, ho, hn⟩ := r
    exact k F' H' _ R' g' ⟨a, o, rfl, hf, hh, ho, hn⟩
  · cases e

/-! ### names -/
def fVar (i : Nat) : DE := fun σd => match σd[i]? with
  | some (some ⟨false, d⟩) => some (false, d, σd)
  | some (some ⟨true, .list ds⟩) => some (false, .list ds, σd.set i (some ⟨false, .list ds⟩))
  | _ => none
def oSlot (i : Nat) : DO := fun σd => match σd[i]? with
  | some (some s) => some (.slot i, σd)
  | _ => none
theorem set_own {σd : SD} {i j : Nat} {s : Sl} (hs : s.own = false) {d : D} (h : (σd.set i (some s))[j]? = some (some (Sl.mk true d))) : j ≠ i ∧ σd[j]? = some (some (Sl.mk true d)) := by
  by_cases e : i = j
  · subst e
    by_cases hl : i < σd.length
    · rw [List.getElem?_set_self hl] at h
      cases h; cases hs
    · rw [List.getElem?_eq_none (by simpa using hl)] at h; cases h
  · rw [List.getElem?_set_ne e] at h
    exact ⟨fun q => e q.symm, h⟩
theorem slot_shared {F : Hp} {σd : SD} {i : Nat} {ds : List D} (R : Rl K F σd σ H) (e : σd[i]? = some (some (Sl.mk true (.list ds)))) :
    ∃ F' v, Rl K F' (σd.set i (some ⟨false, .list ds⟩)) σ H ∧ Go F σd σ H F' (σd.set i (some ⟨false, .list ds⟩)) σ H ∧ σ[i]? = some (some v) ∧ Dp K F' v (.list ds) := by
  obtain ⟨a, o, h1, h2, h3, h4⟩ := R.own i _ e
  have hD : Dp K (upd F a o) (.ref a) (.list ds) := Dp.frozen h2 h4
  have hi : i < σd.length := by
    by_cases hl : i < σd.length
    · exact hl
    · rw [List.getElem?_eq_none (by simpa using hl)] at e; cases e
  have hoa : ∀ b, OwnAt (σd.set i (some ⟨false, .list ds⟩)) σ b → OwnAt σd σ b := fun b ⟨j, d, q1, q2⟩ => ⟨j, d, (set_own rfl q1).2, q2⟩
  refine ⟨upd F a o, .ref a, ⟨fun b u q => ?_, by simpa using R.len, fun j d q => ?_, fun j d q => ?_, fun j k d d' b q1 q2 => R.sep j k d d' b (set_own rfl q1).2 (set_own rfl q2).2, R.pin⟩, ?_, h1, hD⟩
  · rcases upd_get q with ⟨rfl, rfl⟩ | q
    · exact h3
    · exact R.fh b u q
  · by_cases ej : i = j
    · subst ej
      rw [List.getElem?_set_self hi] at q
      cases q
      exact ⟨_, h1, hD⟩
    · rw [List.getElem?_set_ne ej] at q
      obtain ⟨v, q1, q2⟩ := R.shr j d q
      exact ⟨v, q1, Dp.mono (Ex.new h2) q2⟩
  · obtain ⟨nj, q⟩ := set_own rfl q
    obtain ⟨b, u, q1, q2, q3, q4⟩ := R.own j d q
    refine ⟨b, u, q1, ?_, q3, q4.mono (Ex.new h2)⟩
    rw [upd_ne ?_]
    · exact q2
    · rintro rfl
      exact nj (R.sep j i d _ _ q e q1 h1)
  · refine ⟨Ex.new h2, fun b u q _ => q, fun b u q => ?_, fun b q => .inl (hoa b q), fun b u q => ⟨u, q⟩⟩
    rcases upd_get q with ⟨rfl, rfl⟩ | q
    · exact .inr (.inr ⟨i, _, e, h1⟩)
    · exact .inl q
theorem rd_var {i : Nat} {Q : VK} (h : rdE K (fVar i) σ H Q) : tVar i σ H Q := by
  obtain ⟨F, σd, R, fr, d, σd', e, k⟩ := h
  unfold fVar at e
  split at e
  · rename_i d1 e1
    cases e
    obtain ⟨v, h1, h2⟩ := R.shr i _ e1
    exact ⟨v, h1, k F H v R (Go.refl _ _ _ _) h2⟩
  · rename_i ds e1
    cases e
    obtain ⟨F', v, R', g', h1, h2⟩ := slot_shared R e1
    exact ⟨v, h1, k F' H v R' g' h2⟩
  · cases e
theorem rd_slot {i : Nat} {Q : VK} (h : rdO K (oSlot i) σ H Q) : tVar i σ H Q := by
  obtain ⟨F, σd, R, o, σd', e, k⟩ := h
  unfold oSlot at e
  split at e
  · rename_i s e1
    cases e
    obtain ⟨ow, d⟩ := s
    cases ow with
    | false =>
      obtain ⟨v, h1, h2⟩ := R.shr i _ e1
      exact ⟨v, h1, k F H v R (Go.refl _ _ _ _) h1⟩
    | true =>
      obtain ⟨a, o, h1, _⟩ := R.own i _ e1
      exact ⟨_, h1, k F H _ R (Go.refl _ _ _ _) h1⟩
  · cases e
def fLit (d : D) : DE := fun σd => some (false, d, σd)
theorem rd_lit {d : D} {v : V} (hd : ∀ F, Dp K F v d) {Q : VK} (h : rdE K (fLit d) σ H Q) : tC v σ H Q := by
  obtain ⟨F, σd, R, fr, d', σd', e, k⟩ := h
  cases e
  exact k F H v R (Go.refl _ _ _ _) (hd F)

/-! ### values in a row -/
abbrev DV := SD → Option (List D × SD)
def vNil : DV := fun σd => some ([], σd)
def vCons (a : DW) (r : DV) : DV := fun σd => match a σd with
  | some (d, σ1) => match r σ1 with
    | some (ds, σ2) => some (d :: ds, σ2)
    | none => none
  | none => none
def rdV (K : Kp) (f : DV) : TA := fun σ H Q => ∃ F σd, Rl K F σd σ H ∧ ∃ ds σd', f σd = some (ds, σd') ∧
  ∀ F' H' vs, Rl K F' σd' σ H' → Go F σd σ H F' σd' σ H' → DpAll K F' vs ds → Q vs H'
theorem rdV_nil {Q : List V → Hp → Prop} (h : rdV K vNil σ H Q) : tNil σ H Q := by
  obtain ⟨F, σd, R, os, σd', e, k⟩ := h
  cases e
  exact k F H [] R (Go.refl _ _ _ _) .nil
theorem rdV_cons {a : DW} {r : DV} {Q : List V → Hp → Prop} (h : rdV K (vCons a r) σ H Q) : tCons (rdW K a) (rdV K r) σ H Q := by
  obtain ⟨F, σd, R, os, σd', e, k⟩ := h
  unfold vCons at e
  split at e
  · rename_i o σ1 e1
    split at e
    · rename_i os' σ2 e2
      cases e
      refine ⟨F, σd, R, o, σ1, e1, fun F1 H1 v R1 g1 ok1 => ?_⟩
      refine ⟨F1, σ1, R1, os', _, e2, fun F2 H2 vs R2 g2 ok2 => ?_⟩
      exact k F2 H2 (v :: vs) R2 (g1.trans g2) (.cons (Dp.mono g2.ff ok1) ok2)
    · cases e
  · cases e
theorem new_grow {F : Hp} {p : Addr} {o : HO} (e : Ex F H) (hp : H p = none) : Grow F H F (upd H p o) :=
  ⟨Ex.refl _, Ex.new hp, e.trans (Ex.new hp), fun _ _ h => .inl h⟩
theorem new_growF {F : Hp} {p : Addr} {o : HO} (e : Ex F H) (hp : H p = none) : Grow F H (upd F p o) (upd H p o) := by
  have hf : F p = none := e.none hp
  refine ⟨Ex.new hf, Ex.new hp, fun b u q => ?_, fun b u q => ?_⟩
  · rcases upd_get q with ⟨rfl, rfl⟩ | q
    · exact upd_same
    · exact Ex.new hp b u (e b u q)
  · rcases upd_get q with ⟨rfl, rfl⟩ | q
    · exact .inr hp
    · exact .inl q
/-- lengths that the model's lines leave room for -/
def okLen (n : Nat) : Bool := Nat.ble n 1000000
theorem okLen_le {n : Nat} (h : okLen n = true) : n ≤ sizeLine := Nat.le_trans (Nat.le_of_ble_eq_true h) (by decide)
theorem okLen_lt {n : Nat} (h : okLen n = true) : n < sizeLine := Nat.lt_of_le_of_lt (Nat.le_of_ble_eq_true h) (by decide)
def fTup (a : DV) : DE := fun σd => match a σd with
  | some (ds, σ1) => if okLen ds.length = true then some (false, .tuple ds, σ1) else none
  | none => none
def fLst (a : DV) : DE := fun σd => match a σd with
  | some (ds, σ1) => if okLen ds.length = true then some (true, .list ds, σ1) else none
  | none => none
theorem rd_tup {a : DV} {Q : VK} (h : rdE K (fTup a) σ H Q) : tTupN (rdV K a) σ H Q := by
  obtain ⟨F, σd, R, fr, d, σd', e, k⟩ := h
  unfold fTup at e
  split at e
  · rename_i ds σ1 e1
    split at e
    · rename_i hl
      cases e
      refine ⟨F, σd, R, ds, _, e1, fun F1 H1 vs R1 g1 hs => ⟨by rw [DpAll.len hs]; exact okLen_le hl, fun p ob hp hb => ?_⟩⟩
      have gr : Grow F1 H1 (upd F1 p (.frz ob (.tup vs))) (upd H1 p (.frz ob (.tup vs))) := new_growF R1.fh hp
      exact k _ _ (.ref p) (gr.rl R1) (g1.trans gr.go) (.tup (TupAt.put hb) (DpAll.mono gr.ff hs))
    · cases e
  · cases e
theorem rd_lst {a : DV} {Q : VK} (h : rdE K (fLst a) σ H Q) : tLst (rdV K a) σ H Q := by
  obtain ⟨F, σd, R, fr, d, σd', e, k⟩ := h
  unfold fLst at e
  split at e
  · rename_i ds σ1 e1
    split at e
    · rename_i hl
      cases e
      refine ⟨F, σd, R, ds, _, e1, fun F1 H1 vs R1 g1 hs => ⟨by rw [DpAll.len hs]; exact okLen_le hl, fun p hp => ?_⟩⟩
      have gr : Grow F1 H1 F1 (upd H1 p (.lst vs)) := new_grow R1.fh hp
      refine k _ _ (.ref p) (gr.rl R1) (g1.trans gr.go) ⟨p, _, rfl, g1.back hp, R1.fh.none hp, upd_same, hs, fun q => ?_⟩
      obtain ⟨i, d', q1, q2⟩ := q
      obtain ⟨a', o', h1, h2, h3, h4⟩ := R1.own i d' q1
      rw [q2] at h1; cases h1
      rw [hp] at h3; cases h3
    · cases e
  · cases e
end

section
variable {X : Cx} {pn : List (Nat × Addr)} {a b c e : Expr} {es : List Expr} {pos : Pos}
/-! ### the judgements of expressions: as values or new objects (PEe), operands (PEo), frozen (PEw) -/
abbrev PEe (X : Cx) (pn : List (Nat × Addr)) (e : Expr) (f : DE) : Prop := PE X e (rdE ⟨X.K, pn⟩ f)
abbrev PEo (X : Cx) (pn : List (Nat × Addr)) (e : Expr) (f : DO) : Prop := PE X e (rdO ⟨X.K, pn⟩ f)
abbrev PEw (X : Cx) (pn : List (Nat × Addr)) (e : Expr) (f : DW) : Prop := PE X e (rdW ⟨X.K, pn⟩ f)
abbrev PAv (X : Cx) (pn : List (Nat × Addr)) (es : List Expr) (f : DV) : Prop := PA X es (rdV ⟨X.K, pn⟩ f)
abbrev PAo (X : Cx) (pn : List (Nat × Addr)) (es : List Expr) (f : DA) : Prop := PA X es (rdA ⟨X.K, pn⟩ f)
theorem PEe.o {f : DE} (h : PEe X pn e f) : PEo X pn e (oOf f) := peMono h fun _ _ _ => rdO_of
theorem PEe.w {f : DE} (h : PEe X pn e f) : PEw X pn e (vOf f) := peMono h fun _ _ _ => rdW_of
theorem pv_nil : PAv X pn [] vNil := paMono pa_nil fun _ _ _ => rdV_nil
theorem pv_cons {f : DW} {r : DV} (ha : PEw X pn e f) (hr : PAv X pn es r) (hs : starEach (e :: es) X.env = (false, eval e X.env) :: starEach es X.env) : PAv X pn (e :: es) (vCons f r) :=
  paMono (pa_cons ha hr hs) fun _ _ _ => rdV_cons
theorem po_nil : PAo X pn [] aNil := paMono pa_nil fun _ _ _ => rdA_nil
theorem po_cons {f : DO} {r : DA} (ha : PEo X pn e f) (hr : PAo X pn es r) (hs : starEach (e :: es) X.env = (false, eval e X.env) :: starEach es X.env) : PAo X pn (e :: es) (aCons f r) :=
  paMono (pa_cons ha hr hs) fun _ _ _ => rdA_cons
theorem e_var {i : Nat} {x : Str} (hN : X.N[i]? = some x) (hv : Vis X.env.scope x) (hd : (x == ("__debug__" : Str)) = false) (hcd : (x == ("__classdict__" : Str)) = false) : PEe X pn (.Name x pos) (fVar i) := peMono (pe_var hN hv hd hcd) fun _ _ _ => rd_var
theorem o_slot {i : Nat} {x : Str} (hN : X.N[i]? = some x) (hv : Vis X.env.scope x) (hd : (x == ("__debug__" : Str)) = false) (hcd : (x == ("__classdict__" : Str)) = false) : PEo X pn (.Name x pos) (oSlot i) := peMono (pe_var hN hv hd hcd) fun _ _ _ => rd_slot
theorem e_tup {f : DV} {k : Nat} (h : PAv X pn es f) : PEe X pn (.Tuple es k pos) (fTup f) := peMono (pe_tupN h) fun _ _ _ => rd_tup
theorem e_lst {f : DV} (h : PAv X pn es f) : PEe X pn (.List es pos) (fLst f) := peMono (pe_lst h) fun _ _ _ => rd_lst
theorem e_int {i : Int} {j : Nat} : PEe X pn (.Constant (.int i) j pos) (fLit (.int i)) := peMono pe_int fun _ _ _ => rd_lit fun _ => .int i
theorem e_bl {i : Bool} {j : Nat} : PEe X pn (.Constant (.bool i) j pos) (fLit (.bool i)) := peMono pe_bl fun _ _ _ => rd_lit fun _ => .bl i
theorem e_non {j : Nat} : PEe X pn (.Constant .none j pos) (fLit .none) := peMono pe_non fun _ _ _ => rd_lit fun _ => .non
theorem e_str {i : Str} {j : Nat} : PEe X pn (.Constant (.str i) j pos) (fLit (.str i)) := peMono pe_str fun _ _ _ => rd_lit fun _ => .str i

/-- a two-place rule as a rule of a list of values -/
def r2 (r : R2) : List V → Hp → VK → Prop := fun vs H Q => ∃ x y, vs = [x, y] ∧ r x y H Q
def r1 (r : V → Hp → VK → Prop) : List V → Hp → VK → Prop := fun vs H Q => ∃ x, vs = [x] ∧ r x H Q
theorem rd_op {K : Kp} {r : R2} {p : Prim} (hp : PrimOk K (r2 r) p) {oa ob : DO} {σ : L2.St} {H : Hp} {Q : VK} (h : rdE K (fPrim p (aCons oa (aCons ob aNil))) σ H Q) : tOp r (rdO K oa) (rdO K ob) σ H Q := by
  refine (rdA2 (rd_prim hp h)).mono fun x H1 h1 => h1.mono fun y H2 h2 => ?_
  obtain ⟨x', y', e, h2⟩ := h2
  cases e
  exact h2
theorem rd_un {K : Kp} {r : V → Hp → VK → Prop} {p : Prim} (hp : PrimOk K (r1 r) p) {oa : DO} {σ : L2.St} {H : Hp} {Q : VK} (h : rdE K (fPrim p (aCons oa aNil)) σ H Q) : tUn r (rdO K oa) σ H Q := by
  refine (rdA1 (rd_prim hp h)).mono fun x H1 h1 => ?_
  obtain ⟨x', e, h2⟩ := h1
  cases e
  exact h2
theorem e_bin {op : Operator} {r : R2} {p : Prim} {oa ob : DO} (ho : OpR X (binaryOp op) r) (hp : PrimOk X.K (r2 r) p) (ha : PEo X pn a oa) (hb : PEo X pn b ob) : PEe X pn (.BinOp a op b pos) (fPrim p (aCons oa (aCons ob aNil))) :=
  peMono (pe_op ho ha hb) fun _ _ _ => rd_op hp
theorem e_un {op : UnaryOp} {r : V → Hp → VK → Prop} {p : Prim} {oa : DO} (ho : UnR X (unaryOp op) r) (hp : PrimOk X.K (r1 r) p) (ha : PEo X pn a oa) : PEe X pn (.UnaryOp op a pos) (fPrim p (aCons oa aNil)) :=
  peMono (pe_un ho ha) fun _ _ _ => rd_un hp
theorem e_cmp {op : CmpOp} {r : R2} {p : Prim} {oa ob : DO} (ho : OpR X (compareOp op) r) (hp : PrimOk X.K (r2 r) p) (ha : PEo X pn a oa) (hb : PEo X pn b ob) (hm : behindInMarks op b = false) : PEe X pn (.Compare a [op] [b] pos) (fPrim p (aCons oa (aCons ob aNil))) :=
  peMono (pe_cmpR ho ha hb hm) fun _ _ _ => rd_op hp
theorem e_ix {r : R2} {p : Prim} {oa ob : DO} (ho : IxR X r) (hp : PrimOk X.K (r2 r) p) (ha : PEo X pn a oa) (hb : PEo X pn b ob) (hs : PlainIx b) : PEe X pn (.Subscript a b pos) (fPrim p (aCons oa (aCons ob aNil))) :=
  peMono (pe_ix ho ha hb hs) fun _ _ _ => rd_op hp
end
end Ev
end
/-! ## Ev3 -/
section
set_option Elab.async false
set_option linter.all false
set_option maxRecDepth 100000
set_option maxHeartbeats 1000000
/-! Ev3: tests, and | or | not, chains, targets, iterators, comprehensions. -/
namespace Ev
open PySem L2

/-! ### tests -/
abbrev DT := SD → Option (Bool × SD)
def rdT (K : Kp) (f : DT) : TT := fun σ H Q => ∃ F σd, Rl K F σd σ H ∧ ∃ b σd', f σd = some (b, σd') ∧
  ∀ F' H', Rl K F' σd' σ H' → Go F σd σ H F' σd' σ H' → Q b H'
abbrev PTt (X : Cx) (pn : List (Nat × Addr)) (e : Expr) (f : DT) : Prop := PT X e (rdT ⟨X.K, pn⟩ f)
section
variable {K : Kp} {σ : L2.St} {H : Hp}
theorem rdT.mono {f : DT} {Q Q' : Bool → Hp → Prop} (h : rdT K f σ H Q) (m : ∀ v H, Q v H → Q' v H) : rdT K f σ H Q' := by
  obtain ⟨F, σd, R, d, σd', e, k⟩ := h
  exact ⟨F, σd, R, d, σd', e, fun F' H' a b => m _ _ (k F' H' a b)⟩
/-- an expression whose value is a bool -/
def tBool (f : DE) : DT := fun σd => match f σd with
  | some (false, .bool b, σ1) => some (b, σ1)
  | _ => none
theorem rdT_bool {f : DE} {Q : Bool → Hp → Prop} (h : rdT K (tBool f) σ H Q) : rdE K f σ H fun x H' => ∃ k, x = .bl k ∧ Q k H' := by
  obtain ⟨F, σd, R, b, σd', e, k⟩ := h
  unfold tBool at e
  split at e
  · rename_i b1 σ1 e1
    cases e
    refine ⟨F, σd, R, false, _, _, e1, fun F' H' v R' g' r => ?_⟩
    have r' : Dp K F' v (.bool b) := r
    cases r'
    exact ⟨b, rfl, k F' H' R' g'⟩
  · cases e
/-- any value's truth -/
def truthD : D → Option Bool
  | .none => some false
  | .bool b => some b
  | .int i => some (i != 0)
  | .str y => if okLen y.length = true then some ((y.length : Int) != 0) else none
  | .list ds => some (!ds.isEmpty)
  | .tuple ds => some (!ds.isEmpty)
  | .dict _ => none
def tTruth (o : DO) : DT := fun σd => match o σd with
  | some (o, σ1) => match res σ1 o with
    | some d => match truthD d with
      | some b => some (b, σ1)
      | none => none
    | none => none
  | none => none
theorem isEmpty_len {α β : Type} {l : List α} {m : List β} (h : l.length = m.length) : l.isEmpty = m.isEmpty := by
  cases l <;> cases m <;> simp_all
theorem truV_of {F : Hp} (e : Ex F H) {v : V} {d : D} {b : Bool} (h : Opr K F H v d) (hb : truthD d = some b) : TruV K v H b := by
  cases d with
  | none => rw [h.non]; cases hb; rfl
  | bool x => rw [h.bl]; cases hb; rfl
  | int i => rw [h.int]; cases hb; rfl
  | str y =>
    rw [h.str]
    have hb : (if okLen y.length = true then some ((y.length : Int) != 0) else none) = some b := hb
    split at hb
    · rename_i hl; cases hb; exact ⟨okLen_le hl, rfl⟩
    · cases hb
  | list ds =>
    obtain ⟨a, vs, rfl, hq, hs⟩ := h.list e
    cases hb
    exact .inl ⟨vs, .inl hq, by rw [isEmpty_len (DpAll.len hs)]⟩
  | tuple ds =>
    obtain ⟨a, vs, rfl, hq, hs⟩ := h.tuple
    cases hb
    exact .inr (.inl ⟨vs, .inl (e.rd hq.rd), by rw [isEmpty_len (DpAll.len hs)]⟩)
  | dict es => cases hb
theorem rdT_truth {o : DO} {Q : Bool → Hp → Prop} (h : rdT K (tTruth o) σ H Q) : rdO K o σ H fun x H' => ∃ k, TruV K x H' k ∧ Q k H' := by
  obtain ⟨F, σd, R, b, σd', e, k⟩ := h
  unfold tTruth at e
  split at e
  · rename_i o1 σ1 e1
    split at e
    · rename_i d e2
      split at e
      · rename_i b1 e3
        cases e
        exact ⟨F, σd, R, o1, _, e1, fun F' H' v R' g' ok => ⟨b, truV_of R'.fh (opr_of R' ok e2) e3, k F' H' R' g'⟩⟩
      · cases e
    · cases e
  · cases e
def tNotD (t : DT) : DT := fun σd => match t σd with
  | some (b, σ1) => some (!b, σ1)
  | none => none
def tAndD (t u : DT) : DT := fun σd => match t σd with
  | some (true, σ1) => u σ1
  | some (false, σ1) => some (false, σ1)
  | none => none
def tOrD (t u : DT) : DT := fun σd => match t σd with
  | some (true, σ1) => some (true, σ1)
  | some (false, σ1) => u σ1
  | none => none
theorem rdT_not {t : DT} {Q : Bool → Hp → Prop} (h : rdT K (tNotD t) σ H Q) : tNot (rdT K t) σ H Q := by
  obtain ⟨F, σd, R, b, σd', e, k⟩ := h
  unfold tNotD at e
  split at e
  · rename_i b1 σ1 e1
    cases e
    exact ⟨F, σd, R, b1, _, e1, k⟩
  · cases e
theorem rdT_and {t u : DT} {Q : Bool → Hp → Prop} (h : rdT K (tAndD t u) σ H Q) : tAnd (rdT K t) (rdT K u) σ H Q := by
  obtain ⟨F, σd, R, b, σd', e, k⟩ := h
  unfold tAndD at e
  split at e
  · rename_i σ1 e1
    refine ⟨F, σd, R, true, _, e1, fun F1 H1 R1 g1 => ?_⟩
    refine PyProof.Rows.ite_tt ?_
    exact ⟨F1, σ1, R1, b, σd', e, fun F2 H2 R2 g2 => k F2 H2 R2 (g1.trans g2)⟩
  · rename_i σ1 e1
    cases e
    refine ⟨F, σd, R, false, _, e1, fun F1 H1 R1 g1 => ?_⟩
    refine PyProof.Rows.ite_ff ?_
    exact k F1 H1 R1 g1
  · cases e
theorem rdT_or {t u : DT} {Q : Bool → Hp → Prop} (h : rdT K (tOrD t u) σ H Q) : tOr (rdT K t) (rdT K u) σ H Q := by
  obtain ⟨F, σd, R, b, σd', e, k⟩ := h
  unfold tOrD at e
  split at e
  · rename_i σ1 e1
    cases e
    refine ⟨F, σd, R, true, _, e1, fun F1 H1 R1 g1 => ?_⟩
    refine PyProof.Rows.ite_tt ?_
    exact k F1 H1 R1 g1
  · rename_i σ1 e1
    refine ⟨F, σd, R, false, _, e1, fun F1 H1 R1 g1 => ?_⟩
    refine PyProof.Rows.ite_ff ?_
    exact ⟨F1, σ1, R1, b, σd', e, fun F2 H2 R2 g2 => k F2 H2 R2 (g1.trans g2)⟩
  · cases e
/-- as values -/
def fNot (f : DE) : DE := fun σd => match f σd with
  | some (false, .bool b, σ1) => some (false, .bool (!b), σ1)
  | _ => none
def fAnd (f g : DE) : DE := fun σd => match f σd with
  | some (false, .bool true, σ1) => g σ1
  | some (false, .bool false, σ1) => some (false, .bool false, σ1)
  | _ => none
def fOr (f g : DE) : DE := fun σd => match f σd with
  | some (false, .bool true, σ1) => some (false, .bool true, σ1)
  | some (false, .bool false, σ1) => g σ1
  | _ => none
def fIf (t : DT) (f g : DE) : DE := fun σd => match t σd with
  | some (true, σ1) => f σ1
  | some (false, σ1) => g σ1
  | none => none
theorem Res.back {F0 : Hp} {σd0 : SD} {H0 F' : Hp} {σd' : SD} {H1 H' : Hp} {fr : Bool} {d : D} {v : V} {F1 : Hp} {σd1 : SD} (g : Go F0 σd0 σ H0 F1 σd1 σ H1) (r : Res K H1 F' σd' σ H' fr d v) : Res K H0 F' σd' σ H' fr d v := by
  cases fr with
  | false => exact r
  | true =>
    obtain ⟨a, o, e, h0, h⟩ := r
    exact ⟨a, o, e, g.back h0, h⟩
theorem rd_not {f : DE} {Q : VK} (h : rdE K (fNot f) σ H Q) : tNotV (rdE K f) σ H Q := by
  obtain ⟨F, σd, R, fr, d, σd', e, k⟩ := h
  unfold fNot at e
  split at e
  · rename_i b1 σ1 e1
    cases e
    refine ⟨F, σd, R, false, _, _, e1, fun F' H' v R' g' r => ?_⟩
    have r' : Dp K F' v (.bool b1) := r
    cases r'
    exact ⟨b1, rfl, k F' H' _ R' g' (.bl _)⟩
  · cases e
theorem rd_and {f g : DE} {Q : VK} (h : rdE K (fAnd f g) σ H Q) : tAndV (rdE K f) (rdE K g) σ H Q := by
  obtain ⟨F, σd, R, fr, d, σd', e, k⟩ := h
  unfold fAnd at e
  split at e
  · rename_i σ1 e1
    refine ⟨F, σd, R, false, _, _, e1, fun F' H' v R' g' r => ?_⟩
    have r' : Dp K F' v (.bool true) := r
    cases r'
    refine ⟨true, rfl, ?_⟩
    refine PyProof.Rows.ite_tt ?_
    exact ⟨F', σ1, R', fr, d, σd', e, fun F2 H2 v R2 g2 r2 => k F2 H2 v R2 (g'.trans g2) (r2.back g')⟩
  · rename_i σ1 e1
    cases e
    refine ⟨F, σd, R, false, _, _, e1, fun F' H' v R' g' r => ?_⟩
    have r' : Dp K F' v (.bool false) := r
    cases r'
    refine ⟨false, rfl, ?_⟩
    refine PyProof.Rows.ite_ff ?_
    exact k F' H' _ R' g' (.bl _)
  · cases e
theorem rd_or {f g : DE} {Q : VK} (h : rdE K (fOr f g) σ H Q) : tOrV (rdE K f) (rdE K g) σ H Q := by
  obtain ⟨F, σd, R, fr, d, σd', e, k⟩ := h
  unfold fOr at e
  split at e
  · rename_i σ1 e1
    cases e
    refine ⟨F, σd, R, false, _, _, e1, fun F' H' v R' g' r => ?_⟩
    have r' : Dp K F' v (.bool true) := r
    cases r'
    refine ⟨true, rfl, ?_⟩
    refine PyProof.Rows.ite_tt ?_
    exact k F' H' _ R' g' (.bl _)
  · rename_i σ1 e1
    refine ⟨F, σd, R, false, _, _, e1, fun F' H' v R' g' r => ?_⟩
    have r' : Dp K F' v (.bool false) := r
    cases r'
    refine ⟨false, rfl, ?_⟩
    refine PyProof.Rows.ite_ff ?_
    exact ⟨F', σ1, R', fr, d, σd', e, fun F2 H2 v R2 g2 r2 => k F2 H2 v R2 (g'.trans g2) (r2.back g')⟩
  · cases e
theorem rd_if {t : DT} {f g : DE} {Q : VK} (h : rdE K (fIf t f g) σ H Q) : tIf (rdT K t) (rdE K f) (rdE K g) σ H Q := by
  obtain ⟨F, σd, R, fr, d, σd', e, k⟩ := h
  unfold fIf at e
  split at e
  · rename_i σ1 e1
    refine ⟨F, σd, R, true, _, e1, fun F' H' R' g' => ?_⟩
    refine PyProof.Rows.ite_tt ?_
    exact ⟨F', σ1, R', fr, d, σd', e, fun F2 H2 v R2 g2 r2 => k F2 H2 v R2 (g'.trans g2) (r2.back g')⟩
  · rename_i σ1 e1
    refine ⟨F, σd, R, false, _, e1, fun F' H' R' g' => ?_⟩
    refine PyProof.Rows.ite_ff ?_
    exact ⟨F', σ1, R', fr, d, σd', e, fun F2 H2 v R2 g2 r2 => k F2 H2 v R2 (g'.trans g2) (r2.back g')⟩
  · cases e
end
section
variable {X : Cx} {pn : List (Nat × Addr)} {a b c e : Expr} {rest : List Expr} {pos : Pos}
theorem t_truth {o : DO} (h : PEo X pn e o) (he : ∀ whole, isTrue e X.env whole = (do let v ← whole; standAt e.pos; holding [v] (truthy v))) : PTt X pn e (tTruth o) :=
  ptMono (pt_truth h he) fun _ _ _ => rdT_truth
theorem t_cmp {op : CmpOp} {r : R2} {p : Prim} {oa ob : DO} (ho : OpR X (compareOp op) r) (hp : PrimOk X.K (r2 r) p) (ha : PEo X pn a oa) (hb : PEo X pn b ob) (hm : behindInMarks op b = false) : PTt X pn (.Compare a [op] [b] pos) (tBool (fPrim p (aCons oa (aCons ob aNil)))) :=
  ptMono (pt_cmpR ho ha hb hm) fun _ _ _ h => rd_op hp (rdT_bool h)
theorem t_not {t : DT} (h : PTt X pn e t) : PTt X pn (.UnaryOp .Not e pos) (tNotD t) := ptMono (pt_not h) fun _ _ _ => rdT_not
abbrev PWt (X : Cx) (pn : List (Nat × Addr)) (e : Expr) (f : DT) : Prop := PW X e (rdT ⟨X.K, pn⟩ f)
theorem w_and1 {t : DT} (h : PTt X pn a t) : PWt X pn (.BoolOp .And [a] pos) t := pw_and1 h
theorem w_or1 {t : DT} (h : PTt X pn a t) : PWt X pn (.BoolOp .Or [a] pos) t := pw_or1 h
theorem w_and {t u : DT} (h : PTt X pn a t) (h' : PWt X pn (.BoolOp .And (b :: rest) pos) u) : PWt X pn (.BoolOp .And (a :: b :: rest) pos) (tAndD t u) := pwMono (pw_and h h') fun _ _ _ => rdT_and
theorem w_or {t u : DT} (h : PTt X pn a t) (h' : PWt X pn (.BoolOp .Or (b :: rest) pos) u) : PWt X pn (.BoolOp .Or (a :: b :: rest) pos) (tOrD t u) := pwMono (pw_or h h') fun _ _ _ => rdT_or
theorem e_not {f : DE} (h : PEe X pn e f) : PEe X pn (.UnaryOp .Not e pos) (fNot f) := peMono (pe_not h) fun _ _ _ => rd_not
theorem e_one {op : BoolOp} {f : DE} (h : PEe X pn a f) : PEe X pn (.BoolOp op [a] pos) f := pe_one h
theorem e_and {f g : DE} (h : PEe X pn a f) (h' : PEe X pn (.BoolOp .And (b :: rest) pos) g) : PEe X pn (.BoolOp .And (a :: b :: rest) pos) (fAnd f g) := peMono (pe_and h h') fun _ _ _ => rd_and
theorem e_or {f g : DE} (h : PEe X pn a f) (h' : PEe X pn (.BoolOp .Or (b :: rest) pos) g) : PEe X pn (.BoolOp .Or (a :: b :: rest) pos) (fOr f g) := peMono (pe_or h h') fun _ _ _ => rd_or
theorem e_if {t : DT} {f g : DE} (ht : PTt X pn c t) (h : PEe X pn a f) (h' : PEe X pn b g) : PEe X pn (.IfExp c a b pos) (fIf t f g) := peMono (pe_ifExp ht h h') fun _ _ _ => rd_if
end

/-! ### chains -/
/-- the rest of a chain behind its left operand -/
def cOne (p : Prim) (o : DO) : Opd → DE := fun l σd => match o σd with
  | some (r, σ1) => match resAll σ1 [l, r] with
    | some ds => match p ds with
      | some (false, .bool k, ) => some (false, .bool k, σ1)
      | _ => none
    | none => none
  | none => none
def cMore (p : Prim) (o : DO) (t : Opd → DE) : Opd → DE := fun l σd => match o σd with
  | some (r, σ1) => match resAll σ1 [l, r] with
    | some ds => match p ds with
      | some (false, .bool true) => t r σ1
      | some (false, .bool false) => some (false, .bool false, σ1)
      | _ => none
    | none => none
  | none => none
def fChain (o : DO) (t : Opd → DE) : DE := fun σd => match o σd with
  | some (l, σ1) => t l σ1
  | none => none
/-- what a chain's rest asks of the left value -/
def rdC (K : Kp) (t : Opd → DE) : V → TE := fun x σ H Q => ∃ F σd, Rl K F σd σ H ∧ ∃ l, OpdOk K F σd σ H l x ∧ ∃ fr d σd', t l σd = some (fr, d, σd') ∧
  ∀ F' H' v, Rl K F' σd' σ H' → Go F σd σ H F' σd' σ H' → Res K H F' σd' σ H' fr d v → Q v H'
structure PCh (X : Cx) (ops : List CmpOp) (es : List Expr) (t : V → TE) : Prop where
  run : ∀ (pos : Pos) (pins : List (Addr × Obj)) (s : Shared) (σ : L2.St) (H : Hp) (x : V) (v : Value) (Q : VK), Inv X pins σ H s → RelV x v → t x σ H Q →
    wpAny (model X.prog X.w) X.A (compareChain pos v ops (evalEach es X.env)) (EP X pins σ Q) X.xe s
  tst : ∀ (pos : Pos) (pins : List (Addr × Obj)) (s : Shared) (σ : L2.St) (H : Hp) (x : V) (v : Value) (Q : Bool → Hp → Prop), Inv X pins σ H s → RelV x v → (t x σ H fun z H' => ∃ k, z = .bl k ∧ Q k H') →
    wpAny (model X.prog X.w) X.A (testChain pos v ops (evalEach es X.env)) (TP X pins σ Q) X.xe s
section
variable {X : Cx} {pn : List (Nat × Addr)} {a b c e : Expr} {es : List Expr} {pos : Pos} {op op' : CmpOp} {ops : List CmpOp}
theorem ch_one {r : R2} {tb : TE} (ho : OpR X (compareOp op) r) (hb : PE X b tb) : PCh X [op] [b] (fun x σ H Q => tb σ H fun y H2 => r x y H2 Q) := by
  constructor
  · intro pos pins s σ H x v Q I rx h
    exact PyProof.Rows.chain_last (thn (hb.run pins s σ H _ I h) fun u s2 ⟨y, H2, I2, r2, q2⟩ => ho pins s2 σ H2 x y v u Q I2 rx r2 q2)
  · intro pos pins s σ H x v Q I rx h
    refine PyProof.Rows.test_last (thn (hb.run pins s σ H _ I h) fun u s2 ⟨y, H2, I2, r2, q2⟩ => thn (ho pins s2 σ H2 x y v u _ I2 rx r2 q2) fun d s3 ⟨z, H3, I3, r3, k, e, q3⟩ => ?_)
    subst e
    cases r3
    exact wpAny_truthy_bool ⟨H3, I3, q3⟩
theorem ch_more {r : R2} {tb : TE} {t : V → TE} (ho : OpR X (compareOp op) r) (hb : PE X b tb) (hr : PCh X (op' :: ops) (c :: es) t) :
    PCh X (op :: op' :: ops) (b :: c :: es) (fun x σ H Q => tb σ H fun y H2 => r x y H2 fun z H3 => ∃ k, z = .bl k ∧ if k = true then t y σ H3 Q else Q (.bl false) H3) := by
  constructor
  · intro pos pins s σ H x v Q I rx h
    refine PyProof.Rows.chain_link (thn (hb.run pins s σ H _ I h) fun u s2 ⟨y, H2, I2, r2, q2⟩ => thn (ho pins s2 σ H2 x y v u _ I2 rx r2 q2) fun d s3 ⟨z, H3, I3, r3, k, e, q3⟩ => ?_)
    subst e
    cases r3
    refine wpAny_truthy_bool ?_
    cases k with
    | false => exact ⟨.bl false, H3, I3, rfl, q3⟩
    | true => exact hr.run pos pins s3 σ H3 y u Q I3 r2 q3
  · intro pos pins s σ H x v Q I rx h
    refine PyProof.Rows.test_link (thn (hb.run pins s σ H _ I h) fun u s2 ⟨y, H2, I2, r2, q2⟩ => thn (ho pins s2 σ H2 x y v u _ I2 rx r2 q2) fun d s3 ⟨z, H3, I3, r3, k, e, q3⟩ => ?_)
    subst e
    cases r3
    refine wpAny_truthy_bool ?_
    cases k with
    | false =>
      obtain ⟨k', e', q'⟩ := q3
      cases e'
      exact ⟨H3, I3, q'⟩
    | true => exact hr.tst pos pins s3 σ H3 y u Q I3 r2 q3
theorem pch_mono {t t' : V → TE} (h : PCh X ops es t) (m : ∀ x σ H Q, t' x σ H Q → t x σ H Q) : PCh X ops es t' :=
  ⟨fun pos pins s σ H x v Q I r q => h.run pos pins s σ H x v Q I r (m _ _ _ _ q), fun pos pins s σ H x v Q I r q => h.tst pos pins s σ H x v Q I r (m _ _ _ _ q)⟩
abbrev PCc (X : Cx) (pn : List (Nat × Addr)) (ops : List CmpOp) (es : List Expr) (t : Opd → DE) : Prop := PCh X ops es (rdC ⟨X.K, pn⟩ t)
theorem bool_res {K : PySem.W.Frag} {H F' H' : Hp} {k : Bool} {v : V} (h : NewRes K H F' H' false (.bool k) v) : v = .bl k := by
  have h' : Dp K F' v (.bool k) := h
  cases h'
  rfl
theorem c_one {r : R2} {p : Prim} {ob : DO} (ho : OpR X (compareOp op) r) (hp : PrimOk X.K (r2 r) p) (hb : PEo X pn b ob) : PCc X pn [op] [b] (cOne p ob) := by
  refine pch_mono (ch_one ho hb) fun x σ H Q h => ?_
  obtain ⟨F, σd, R, l, okl, fr, d, σd', e, k⟩ := h
  unfold cOne at e
  split at e
  · rename_i r1 σ1 e1
    split at e
    · rename_i ds e2
      split at e
      · rename_i k1 e3
        cases e
        refine ⟨F, σd, R, r1, _, e1, fun F1 H1 y R1 g1 ok1 => ?_⟩
        have hall := oprAll_of R1 (.cons (okl.go g1) (.cons ok1 .nil)) e2
        obtain ⟨x', y', ee, hr⟩ := hp F1 H1 [x, y] ds _ _ Q R1.fh hall e3 fun F2 H2 v g2 n2 => k F2 H2 v (g2.rl R1) (g1.trans g2.go) n2
        cases ee
        exact hr
      · cases e
    · cases e
  · cases e
theorem c_more {r : R2} {p : Prim} {ob : DO} {t : Opd → DE} (ho : OpR X (compareOp op) r) (hp : PrimOk X.K (r2 r) p) (hb : PEo X pn b ob) (hr : PCc X pn (op' :: ops) (c :: es) t) : PCc X pn (op :: op' :: ops) (b :: c :: es) (cMore p ob t) := by
  refine pch_mono (ch_more ho hb hr) fun x σ H Q h => ?_
  obtain ⟨F, σd, R, l, okl, fr, d, σd', e, k⟩ := h
  unfold cMore at e
  split at e
  · rename_i r1 σ1 e1
    split at e
    · rename_i ds e2
      split at e
      · rename_i e3
        refine ⟨F, σd, R, r1, _, e1, fun F1 H1 y R1 g1 ok1 => ?_⟩
        have hall := oprAll_of R1 (.cons (okl.go g1) (.cons ok1 .nil)) e2
        obtain ⟨x', y', ee, hr⟩ := hp F1 H1 [x, y] ds _ _ (fun z H3 => ∃ k, z = .bl k ∧ if k = true then rdC ⟨X.K, pn⟩ t y σ H3 Q else Q (.bl false) H3) R1.fh hall e3 fun F2 H2 v g2 n2 => by
          refine ⟨true, bool_res n2, ?_⟩
          refine PyProof.Rows.ite_tt ?_
          exact ⟨F2, σ1, g2.rl R1, r1, ok1.go g2.go, fr, d, σd', e, fun F3 H3 v R3 g3 r3 => k F3 H3 v R3 ((g1.trans g2.go).trans g3) (r3.back (g1.trans g2.go))⟩
        cases ee
        exact hr
      · rename_i e3
        cases e
        refine ⟨F, σd, R, r1, _, e1, fun F1 H1 y R1 g1 ok1 => ?_⟩
        have hall := oprAll_of R1 (.cons (okl.go g1) (.cons ok1 .nil)) e2
        obtain ⟨x', y', ee, hr⟩ := hp F1 H1 [x, y] ds _ _ (fun z H3 => ∃ k, z = .bl k ∧ if k = true then rdC ⟨X.K, pn⟩ t y σ H3 Q else Q (.bl false) H3) R1.fh hall e3 fun F2 H2 v g2 n2 => by
          refine ⟨false, bool_res n2, ?_⟩
          refine PyProof.Rows.ite_ff ?_
          exact k F2 H2 _ (g2.rl R1) (g1.trans g2.go) (.bl _)
        cases ee
        exact hr
      · cases e
    · cases e
  · cases e
theorem rd_chain {K : Kp} {o : DO} {t : Opd → DE} {σ : L2.St} {H : Hp} {Q : VK} (h : rdE K (fChain o t) σ H Q) : rdO K o σ H fun x H1 => rdC K t x σ H1 Q := by
  obtain ⟨F, σd, R, fr, d, σd', e, k⟩ := h
  unfold fChain at e
  split at e
  · rename_i l σ1 e1
    exact ⟨F, σd, R, l, σ1, e1, fun F1 H1 x R1 g1 ok1 => ⟨F1, σ1, R1, l, ok1, fr, d, σd', e, fun F2 H2 v R2 g2 r2 => k F2 H2 v R2 (g1.trans g2) (r2.back g1)⟩⟩
  · cases e
theorem e_chain {oa : DO} {t : Opd → DE} (ha : PEo X pn a oa) (hc : PCc X pn (op :: op' :: ops) (b :: c :: es) t) (hm : lastMarks (op :: op' :: ops) (b :: c :: es) = false) : PEe X pn (.Compare a (op :: op' :: ops) (b :: c :: es) pos) (fChain oa t) := by
  refine ⟨fun pins s σ H Q I h => ?_⟩
  refine PyProof.Rows.Compare_chain (thn (ha.run pins s σ H _ I (rd_chain h)) fun v s1 ⟨x, H1, I1, r1, q1⟩ => ?_) hm
  exact hc.run pos pins s1 σ H1 x v Q I1 r1 q1
theorem t_chain {oa : DO} {t : Opd → DE} (ha : PEo X pn a oa) (hc : PCc X pn (op :: op' :: ops) (b :: c :: es) t) (hm : lastMarks (op :: op' :: ops) (b :: c :: es) = false) : PTt X pn (.Compare a (op :: op' :: ops) (b :: c :: es) pos) (tBool (fChain oa t)) := by
  refine ⟨fun pins s σ H Q I h => ?_⟩
  refine PyProof.Rows.isTrue_chain (thn (ha.run pins s σ H _ I (rd_chain (rdT_bool h))) fun v s1 ⟨x, H1, I1, r1, q1⟩ => ?_) hm
  exact hc.tst pos pins s1 σ H1 x v Q I1 r1 q1
end
end Ev
end
/-! ## EvE -/
section
set_option Elab.async false
set_option linter.all false
set_option maxRecDepth 100000
set_option maxHeartbeats 1000000
/-! EvE: enumerate over a tuple. -/
namespace PySem
open Sem (wp)
theorem meets_enumerate_newT (l : Addr) (items : Array Value) :
    Meets (Builtin.«enumerate.__new__» ⟨[.type "enumerate", .ref l], []⟩) (fun _ R s => s.heap.IsTuple l items ∧
      R (.ok (.ret (.ref (s.heap.push { cls := .type "tuple_iterator", data := .fields #[.ref l, .int 0 0] }).objs.size)))
        { s with heap := (s.heap.push { cls := .type "tuple_iterator", data := .fields #[.ref l, .int 0 0] }).push { cls := .type "enumerate", data := .fields #[.none, .bool false, .ref s.heap.objs.size, rawInt 0, .none, .none] } }) :=
  .of_wp fun prog w A R s h => by
    obtain ⟨hp, g, d, tk, os⟩ := s; obtain ⟨h1, h⟩ := h
    have hsub := sub_enumerate
    have q1 : ∀ {A' : Around} {E : Value → Shared → Prop} {Q : Value → Shared → Prop}, Q (.ref hp.objs.size) ⟨hp.push { cls := .type "tuple_iterator", data := .fields #[.ref l, .int 0 0] }, g, d, tk, os⟩ → wpAny (model prog w) A' (pyIter (.ref l)) Q E ⟨hp, g, d, tk, os⟩ :=
      fun q => wpAny_pyIter_tuple h1 q
    wp_walk using q1
    refine wpAny_stack_any fun st => wpAny_pure ?_
    split
    · rename_i c _ _ _ _ _
      cases (c == Value.type "enumerate")
      · wp_walk using q1
        exact ⟨_, rfl, h⟩
      · wp_walk using q1
        exact ⟨_, rfl, h⟩
    · wp_walk using q1
      exact ⟨_, rfl, h⟩
section
variable {prog : Program} {w : World} {A : Around} {E : Value → Shared → Prop} {s : Shared}
theorem call_enumerate_tuple {l : Addr} {items : Array Value} {Q : Value → Shared → Prop} (hL : s.heap.IsTuple l items)
    (h : ∀ h', IsEnum h' (s.heap.objs.size + 1) s.heap.objs.size 0 .none → h'.IsTupleIter s.heap.objs.size l 0 → h'.objs.size = s.heap.objs.size + 2 →
      (∀ b o, s.heap.get? b = some o → h'.get? b = some o) → Q (.ref (s.heap.objs.size + 1)) { s with heap := h' }) :
    wpAny (model prog w) A (call (.type "enumerate") [.ref l]) Q E s := by
  refine callType_new F.called_enumerate (by decide) (F.typeCall_enumerate_1 _) (F.newCall_enumerate_1 _) (fun obj => F.args_object_init_2 obj _) F.entry_enumerate_new
    (meets_enumerate_newT l items) ⟨hL, ?_⟩
  have hz : (s.heap.push { cls := .type "tuple_iterator", data := .fields #[.ref l, .int 0 0] }).objs.size = s.heap.objs.size + 1 := Heap.size_push ..
  show _ ∧ _
  rw [hz]
  have he : IsEnum ((s.heap.push { cls := .type "tuple_iterator", data := .fields #[.ref l, .int 0 0] }).push
      { cls := .type "enumerate", data := .fields #[.none, .bool false, .ref s.heap.objs.size, rawInt 0, .none, .none] }) (s.heap.objs.size + 1) s.heap.objs.size 0 .none := by
    have := Heap.get?_push_size (s.heap.push { cls := .type "tuple_iterator", data := .fields #[.ref l, .int 0 0] })
      (o := { cls := .type "enumerate", data := .fields #[.none, .bool false, .ref s.heap.objs.size, rawInt 0, .none, .none] }) rfl
    rw [hz] at this; exact this
  refine ⟨⟨_, he, rfl⟩, h _ he ⟨_, Heap.get?_push_of_some _ (Heap.get?_push_size _ rfl), rfl, rfl⟩ (by rw [Heap.size_push, hz]) fun b o x => Heap.get?_push_of_some _ (Heap.get?_push_of_some _ x)⟩
theorem wpAny_pyNext_enum_endT {e it t : Addr} {i : Nat} {c : Int} {items : Array Value} {old : Value} {Q : Option Value → Shared → Prop} (hh : A.handled = none)
    (he : IsEnum s.heap e it c old) (hit : s.heap.IsTupleIter it t i) (ht : s.heap.IsTuple t items) (hx : items[i]? = none)
    (hQ : ∀ h', Heap.ExtBut it s.heap h' → Q none { s with heap := h' }) : wpAny (model prog w) A (pyNext (.ref e)) Q E s := by
  have hT : s.TypeIs (.ref e) "enumerate" := ⟨_, he, rfl⟩
  unfold pyNext
  refine wpAny_bind (wpAny_attempt (wpAny_callSpecial?_slot (name := Str.ofString "__next__") hT F.slot_enumerate_next
    (wpAny_call_entry F.slot_enumerate_next hT F.entry_enumerate_next ?_ (F.args_enumerate_next_1 _))))
  show wpAny _ _ (field (.ref e) 2 >>= _) _ _ _
  refine wpAny_bind (wpAny_field he rfl (x := .ref it) rfl ?_)
  refine wpAny_bind (wpAny_nextOf_tuple_end (A := A.in1) hh hit ht hx fun h' x he' hx' => ?_)
  obtain ⟨o, ho, hc⟩ := hx'
  refine wpAny_bind (wpAny_isInstance (T := "StopIteration") (b := true) ⟨o, ho, hc⟩ isSubtype_stop ?_)
  exact wpAny_pure (hQ _ he')
end
end PySem
namespace Ev
open PySem L2
def IteT (K : PySem.W.Frag) (a : Addr) : It :=
  ⟨fun i H => ∃ (xs : List V) (x : V), SqT K H a xs ∧ xs[i]? = some x, fun i H v H' => ∃ T x, v = .ref T ∧ H T = none ∧ H' = upd H T (.tup [.int (i : Nat), x]) ∧ ∀ xs, SqT K H a xs → xs[i]? = some x, fun i H => ∃ xs : List V, SqT K H a xs ∧ xs.length ≤ i⟩
theorem turn_enumT {P : Program} {w : World} {K : PySem.W.Frag} {elts : List Expr} {kk : Nat} {tpos : Pos} (a e it : Addr) :
    Turn P w K (.Tuple elts kk tpos) (IteT K a) [e, it] e (fun i h => (∃ old, IsEnum h e it ((i : Nat) : Int) old) ∧ h.IsTupleIter it a i ∧ e ≠ it) where
  mem := by simp
  obj := fun i h st b hb => by
    obtain ⟨⟨old, he⟩, ⟨o, ho, hc, hd⟩, _⟩ := st
    have e' : b = e ∨ b = it := by simpa using hb
    rcases e' with z | z
    · rw [z]; exact ⟨_, he, fun v q => nomatch q⟩
    · rw [z]; exact ⟨o, ho, fun v q => by rw [hd] at q; cases q⟩
  keep := fun i h h' st k => let ⟨⟨old, he⟩, hi, hne⟩ := st; ⟨⟨old, k e (by simp) _ he⟩, hi.at fun o q => k it (by simp) o q, hne⟩
  item := by
    intro X hP hw hK hc i pins s σ H E I hf st hg
    subst hP hw hK
    obtain ⟨⟨old, he⟩, hit, hne⟩ := st
    obtain ⟨xs, x, hq, hx⟩ := hg
    obtain ⟨its, rv, p, hz⟩ := I.tuple hq
    have p : s.heap.IsTuple a its.toArray := p
    obtain ⟨u, hu, ru⟩ := rv.get hx
    have hel : e < s.heap.objs.size := Heap.lt_size he
    have hil : it < s.heap.objs.size := by obtain ⟨_, q, _⟩ := hit; exact Heap.lt_size q
    have hai : a ≠ it := by
      rintro rfl
      obtain ⟨o, h1, h2, h3⟩ := hit
      obtain ⟨o', k1, k2, k3⟩ := p
      rw [h1] at k1; cases k1
      rw [h2] at k2; exact absurd (Value.type.inj k2) (by decide)
    have hae : a ≠ e := by
      rintro rfl
      obtain ⟨o', k1, k2, k3⟩ := p
      have he : s.heap.get? a = some _ := he
      rw [he] at k1; cases k1
      exact absurd (Value.type.inj k2) (by decide)
    have hlt : i < its.toArray.size := by
      have : i < its.length := by
        by_cases q : i < its.length
        · exact q
        · rw [List.getElem?_eq_none (by omega)] at hu; cases hu
      simpa using this
    refine wpAny_pyNext_enum_itemD (Draws.tuple (A := X.A.in1) (I.ok.hd hc) it a hai its.toArray) he ⟨hit, p⟩ hlt hne (by simp [hne, Ne.symm hae]) fun y h' tk hP ho hit' hT hsz hk => ?_
    have hy : y = u := by
      rw [List.getElem?_toArray, hu] at hP
      exact (Option.some.inj hP).symm
    subst hy
    refine ⟨_, rfl, wpAny_letOwnedTupleGo_enum (s := { s with heap := h', toks := tk + 1 }) ho fun h'' he' sb => ?_⟩
    have hT2 : h''.get? s.heap.objs.size = some { cls := .type "tuple", data := .seq #[.int i tk, y] } := (sb.2 _ (Nat.ne_of_gt hel)).trans hT
    have new : ObjOk X.prog X.w (upd H s.heap.objs.size (.tup [.int (i : Nat), x])) h'' s.heap.objs.size (.tup [.int (i : Nat), x]) :=
      ⟨by show 2 ≤ sizeLine; decide, [.int i tk, y], .cons ⟨_, rfl⟩ (.cons ru .nil), ⟨_, hT2, rfl, _, rfl⟩⟩
    have I1 : Inv X pins σ (upd H s.heap.objs.size (.tup [.int (i : Nat), x])) { s with heap := h'', toks := tk + 1 } :=
      I.turnedNew (ch := [e, it]) (fun b ob hb q => (sb.2 b (fun z => hb (by simp [z]))).trans (hk b ob (fun z => hb (by simp [z])) (fun z => hb (by simp [z])) q)) hf (Nat.le_refl _) new
    refine ⟨.ref s.heap.objs.size, _, I1, rfl, ⟨_, x, rfl, I.hok.fresh (Nat.le_refl _), rfl, fun ys hy => by rw [I.tuple_inj hy hq]; exact hx⟩, ⟨⟨y, ?_⟩, hit'.1.at fun o q => (sb.2 it (Ne.symm hne)).trans q, hne⟩, fun b hb => ?_⟩
    · have e1 : ((i + 1 : Nat) : Int) = (i : Int) + 1 := by omega
      rw [e1]; exact he'
    · have hb' : b < s.heap.objs.size := by
        have e' : b = e ∨ b = it := by simpa using hb
        rcases e' with z | z
        · rw [z]; exact hel
        · rw [z]; exact hil
      rw [upd_ne (Nat.ne_of_lt hb')]
      exact (hf b hb).1
  done := by
    intro X hP hw hK hc i pins s σ H E I hf st hg
    subst hP hw hK
    obtain ⟨⟨old, he⟩, hit, hne⟩ := st
    obtain ⟨xs, hq, hx⟩ := hg
    obtain ⟨its, rv, p, hz⟩ := I.tuple hq
    obtain ⟨f0, f1, f2, f3, f4, f5⟩ := hf it (by simp)
    have hl := rv.length
    exact wpAny_pyNext_enum_endT (I.ok.hd hc) he hit (show s.heap.IsTuple a its.toArray from p) (by simp; omega) fun h' eb => ⟨rfl, I.turned (t' := s.toks) (fun b o hb q => eb b o hb q) f0 f1 f3 f4 f5⟩
  self := fun A i s Q E st h => let ⟨⟨_, he⟩, _⟩ := st; wpAny_pyIter_enum he h
def iEnumT0 (K : PySem.W.Frag) (ta : TA) : TI := fun σ H R => ta σ H fun vs H1 => ∃ a xs, vs = [.ref a] ∧ SqT K H1 a xs ∧ R (IteT K a) H1
theorem pi_enumT {X : Cx} {e : Expr} {ta : TA} {p pos tpos : Pos} {elts : List Expr} {kk : Nat} (hg : Gl X "enumerate") (hm : X.mg "enumerate" = none) (ha : PA X [e] ta) (hs : starEach [e] X.env = [(false, eval e X.env)] := by rfl) :
    PI X (.Tuple elts kk tpos) (.Call (.Name "enumerate" p) [e] [] pos) (iEnumT0 X.K ta) := by
  refine ⟨fun pins s σ H R I h => ?_⟩
  refine PyProof.Rows.Call_ (ld_blt I hg hm (by decide +kernel : bootBuiltins "enumerate" = some (.type "enumerate")) (PyProof.Rows.callWith_type1 (thn (ha.run pos pins s σ H _ I h) fun us s1 ⟨vs, H1, I1, r1, q1⟩ => ?_) hs rfl))
  obtain ⟨a, xs, ex, hq, q⟩ := q1
  subst ex
  cases r1 with
  | cons r rr =>
    cases rr
    cases r
    obtain ⟨its, rv, p', hz⟩ := I1.tuple hq
    refine call_enumerate_tuple (show s1.heap.IsTuple a its.toArray from p') fun h' he hit hsz hk => wpAny_pyIter_enum he ?_
    have I2 : Inv X pins σ H1 { s1 with heap := h' } := I1.kept (t' := s1.toks) hk
    refine ⟨s1.heap.objs.size + 1, [s1.heap.objs.size + 1, s1.heap.objs.size], _, _, H1, rfl, I2, turn_enumT a (s1.heap.objs.size + 1) s1.heap.objs.size, ⟨⟨.none, he⟩, hit, Nat.succ_ne_self _⟩, fun b hb => ?_, q⟩
    have e' : b = s1.heap.objs.size + 1 ∨ b = s1.heap.objs.size := by simpa using hb
    have hle : s1.heap.objs.size ≤ b := by
      rcases e' with z | z
      · rw [z]; exact Nat.le_add_right _ _
      · rw [z]; exact Nat.le_refl _
    exact I1.fpOk hle (I1.hok.fresh hle)
end Ev
end
/-! ## Ev4 -/
section
set_option Elab.async false
set_option linter.all false
set_option maxRecDepth 100000
set_option maxHeartbeats 1000000
/-! Ev4: targets, iterators, comprehensions. -/
namespace Ev
open PySem L2

theorem pgOr {X : Cx} {tg : Expr} {g g' : TG} (h : PG X tg g) (h' : PG X tg g') : PG X tg (fun v σ H Q => g v σ H Q ∨ g' v σ H Q) :=
  ⟨fun pins s σ H v u Q I r q => q.elim (fun q => h.run pins s σ H v u Q I r q) fun q => h'.run pins s σ H v u Q I r q⟩
theorem pgMono {X : Cx} {tg : Expr} {g g' : TG} (h : PG X tg g) (m : ∀ v σ H Q, g' v σ H Q → g v σ H Q) : PG X tg g' :=
  ⟨fun pins s σ H v u Q I r q => h.run pins s σ H v u Q I r (m _ _ _ _ q)⟩
theorem piOr {X : Cx} {tg e : Expr} {g g' : TI} (h : PI X tg e g) (h' : PI X tg e g') : PI X tg e (fun σ H R => g σ H R ∨ g' σ H R) :=
  ⟨fun pins s σ H R I q => q.elim (fun q => h.run pins s σ H R I q) fun q => h'.run pins s σ H R I q⟩

/-! ### stores -/
section
variable {K : Kp} {F : Hp} {σd : SD} {σ : L2.St} {H : Hp}
theorem get_set {α : Type} {l : List α} {i j : Nat} {x y : α} (h : (l.set i x)[j]? = some y) : (j = i ∧ y = x ∧ i < l.length) ∨ (j ≠ i ∧ l[j]? = some y) := by
  by_cases e : i = j
  · subst e
    by_cases hl : i < l.length
    · rw [List.getElem?_set_self hl] at h
      cases h
      exact .inl ⟨rfl, rfl, hl⟩
    · rw [List.getElem?_eq_none (by simpa using hl)] at h; cases h
  · rw [List.getElem?_set_ne e] at h
    exact .inr ⟨fun q => e q.symm, h⟩
theorem ownAt_set {i : Nat} {s : Option Sl} (hs : ∀ d, s ≠ some ⟨true, d⟩) {v : Option V} {b : Addr} (h : OwnAt (σd.set i s) (σ.set i v) b) : OwnAt σd σ b := by
  obtain ⟨j, d, h1, h2⟩ := h
  rcases get_set h1 with ⟨rfl, e, _⟩ | ⟨nj, h1⟩
  · exact (hs d e.symm).elim
  · rw [List.getElem?_set_ne (Ne.symm nj)] at h2
    exact ⟨j, d, h1, h2⟩
theorem pin_set (R : Rl K F σd σ H) {i : Nat} (hi : K.free i) (x : Option V) : ∀ p ∈ K.pn, (σ.set i x)[p.1]? = some (some (V.ref p.2)) := fun p hp => by
  rw [List.getElem?_set_ne (Ne.symm (hi p hp))]
  exact R.pin p hp
theorem Rl.set (R : Rl K F σd σ H) (i : Nat) (hfr : K.free i) {d : D} {v : V} (hd : Dp K F v d) : Rl K F (σd.set i (some ⟨false, d⟩)) (σ.set i (some v)) H := by
  have hl := R.len
  refine ⟨R.fh, by simpa using R.len, fun j e q => ?_, fun j e q => ?_, fun j k e e' b q1 q2 q3 q4 => ?_, pin_set R hfr _⟩
  · rcases get_set q with ⟨rfl, e1, hi⟩ | ⟨nj, q⟩
    · cases e1
      exact ⟨v, by rw [List.getElem?_set_self (by omega)], hd⟩
    · obtain ⟨w, h1, h2⟩ := R.shr j e q
      exact ⟨w, by rw [List.getElem?_set_ne (Ne.symm nj)]; exact h1, h2⟩
  · rcases get_set q with ⟨rfl, e1, hi⟩ | ⟨nj, q⟩
    · cases e1
    · obtain ⟨a, o, h1, h2⟩ := R.own j e q
      exact ⟨a, o, by rw [List.getElem?_set_ne (Ne.symm nj)]; exact h1, h2⟩
  · rcases get_set q1 with ⟨rfl, e1, hi⟩ | ⟨nj, q1⟩
    · cases e1
    · rcases get_set q2 with ⟨rfl, e1, hi⟩ | ⟨nk, q2⟩
      · cases e1
      · rw [List.getElem?_set_ne (Ne.symm nj)] at q3
        rw [List.getElem?_set_ne (Ne.symm nk)] at q4
        exact R.sep j k e e' b q1 q2 q3 q4
theorem Rl.unset (R : Rl K F σd σ H) (i : Nat) (hfr : K.free i) (x : Option V) : Rl K F (σd.set i none) (σ.set i x) H := by
  refine ⟨R.fh, by simpa using R.len, fun j e q => ?_, fun j e q => ?_, fun j k e e' b q1 q2 q3 q4 => ?_, pin_set R hfr _⟩
  · rcases get_set q with ⟨rfl, e1, hi⟩ | ⟨nj, q⟩
    · cases e1
    · obtain ⟨w, h1, h2⟩ := R.shr j e q
      exact ⟨w, by rw [List.getElem?_set_ne (Ne.symm nj)]; exact h1, h2⟩
  · rcases get_set q with ⟨rfl, e1, hi⟩ | ⟨nj, q⟩
    · cases e1
    · obtain ⟨a, o, h1, h2⟩ := R.own j e q
      exact ⟨a, o, by rw [List.getElem?_set_ne (Ne.symm nj)]; exact h1, h2⟩
  · rcases get_set q1 with ⟨rfl, e1, hi⟩ | ⟨nj, q1⟩
    · cases e1
    · rcases get_set q2 with ⟨rfl, e1, hi⟩ | ⟨nk, q2⟩
      · cases e1
      · rw [List.getElem?_set_ne (Ne.symm nj)] at q3
        rw [List.getElem?_set_ne (Ne.symm nk)] at q4
        exact R.sep j k e e' b q1 q2 q3 q4
theorem go_slots {σd' : SD} {σ' : L2.St} (h : ∀ b, OwnAt σd' σ' b → OwnAt σd σ b) : Go F σd σ H F σd' σ' H :=
  ⟨Ex.refl _, fun _ _ q _ => q, fun _ _ q => .inl q, fun b q => .inl (h b q), fun _ o q => ⟨o, q⟩⟩
/-- an owned object goes to a slot -/
theorem Rl.setOwn (R : Rl K F σd σ H) (i : Nat) (hfr : K.free i) {d : D} {a : Addr} {o : HO} (hf : F a = none) (hh : H a = some o) (ho : Hold K F o d) (hn : ¬ OwnAt σd σ a) : Rl K F (σd.set i (some ⟨true, d⟩)) (σ.set i (some (.ref a))) H := by
  have hl := R.len
  have key : ∀ (j : Nat) (e : D) (b : Addr), (σd.set i (some ⟨true, d⟩))[j]? = some (some (Sl.mk true e)) → (σ.set i (some (V.ref a)))[j]? = some (some (V.ref b)) → (j = i ∧ b = a) ∨ (j ≠ i ∧ σd[j]? = some (some (Sl.mk true e)) ∧ σ[j]? = some (some (V.ref b)) ∧ b ≠ a) := fun j e b q1 q2 => by
    rcases get_set q1 with ⟨rfl, e1, hi⟩ | ⟨nj, q1⟩
    · rcases get_set q2 with ⟨_, e2, _⟩ | ⟨nj, _⟩
      · cases e2; exact .inl ⟨rfl, rfl⟩
      · exact (nj rfl).elim
    · rw [List.getElem?_set_ne (Ne.symm nj)] at q2
      exact .inr ⟨nj, q1, q2, fun z => hn ⟨j, e, q1, by rw [← z]; exact q2⟩⟩
  refine ⟨R.fh, by simpa using R.len, fun j e q => ?_, fun j e q => ?_, fun j k e e' b q1 q2 q3 q4 => ?_, pin_set R hfr _⟩
  · rcases get_set q with ⟨rfl, e1, hi⟩ | ⟨nj, q⟩
    · cases e1
    · obtain ⟨w, h1, h2⟩ := R.shr j e q
      exact ⟨w, by rw [List.getElem?_set_ne (Ne.symm nj)]; exact h1, h2⟩
  · rcases get_set q with ⟨rfl, e1, hi⟩ | ⟨nj, q⟩
    · cases e1
      exact ⟨a, o, by rw [List.getElem?_set_self (by omega)], hf, hh, ho⟩
    · obtain ⟨a, o, h1, h2⟩ := R.own j e q
      exact ⟨a, o, by rw [List.getElem?_set_ne (Ne.symm nj)]; exact h1, h2⟩
  · rcases key j e b q1 q3 with ⟨rfl, rfl⟩ | ⟨nj, h1, h2, nb⟩
    · rcases key k e' b q2 q4 with ⟨rfl, _⟩ | ⟨_, _, _, nb⟩
      · rfl
      · exact (nb rfl).elim
    · rcases key k e' b q2 q4 with ⟨rfl, eb⟩ | ⟨_, h3, h4, _⟩
      · exact (nb eb).elim
      · exact R.sep j k e e' b h1 h3 h2 h4
theorem ownAt_setOwn {i : Nat} {d : D} {a b : Addr} (h : OwnAt (σd.set i (some ⟨true, d⟩)) (σ.set i (some (.ref a))) b) : OwnAt σd σ b ∨ b = a := by
  obtain ⟨j, e, h1, h2⟩ := h
  rcases get_set h1 with ⟨rfl, _, _⟩ | ⟨nj, h1⟩
  · rcases get_set h2 with ⟨_, e2, _⟩ | ⟨nj, _⟩
    · cases e2; exact .inr rfl
    · exact (nj rfl).elim
  · rw [List.getElem?_set_ne (Ne.symm nj)] at h2
    exact .inl ⟨j, e, h1, h2⟩
end

/-! ### targets -/
inductive Sub where
  | n (i : Nat)
  | t (is : List Nat)
inductive Pat where
  | name (i : Nat)
  | tup (is : List Nat)
  | nst (ps : List Sub)
def Sub.slots : Sub → List Nat
  | .n i => [i]
  | .t is => is
def subSlots : List Sub → List Nat
  | [] => []
  | p :: ps => p.slots ++ subSlots ps
def Pat.slots : Pat → List Nat
  | .name i => [i]
  | .tup is => is
  | .nst ps => subSlots ps
def setAll : List Nat → List D → SD → SD
  | i :: is, d :: ds, σd => setAll is ds (σd.set i (some ⟨false, d⟩))
  | _, _, σd => σd
def setAllV : List Nat → List V → L2.St → L2.St
  | i :: is, v :: vs, σ => setAllV is vs (σ.set i (some v))
  | _, _, σ => σ
/-- a tuple whose object is not known (of zip, of enumerate): told as a dict of keys, it is unpacked at once -/
def wk (ds : List D) : D := .dict (ds.map fun d => (d, .none))
def wkOut : List (D × D) → List D
  | [] => []
  | (a, _) :: r => a :: wkOut r
theorem wkOut_wk : ∀ ds : List D, wkOut (ds.map fun d => (d, .none)) = ds
  | [] => rfl
  | d :: ds => by simp [wkOut, wkOut_wk ds]
/-- what an unpacked value holds -/
def itemsOf : D → Option (List D)
  | .tuple ds => some ds
  | .list ds => some ds
  | .dict es => some (wkOut es)
  | _ => none
def bindS : List Sub → List D → SD → Option SD
  | [], [], σd => some σd
  | .n i :: ps, d :: ds, σd => bindS ps ds (σd.set i (some ⟨false, d⟩))
  | .t is :: ps, d :: ds, σd => match itemsOf d with
    | some es => if es.length = is.length then bindS ps ds (setAll is es σd) else none
    | none => none
  | _, _, _ => none
def bindP : Pat → D → SD → Option SD
  | .name i, d, σd => match d with
    | .dict _ => none
    | d => some (σd.set i (some ⟨false, d⟩))
  | .tup is, d, σd => match itemsOf d with
    | some ds => if ds.length = is.length then some (setAll is ds σd) else none
    | none => none
  | .nst ps, d, σd => match itemsOf d with
    | some ds => bindS ps ds σd
    | none => none
/-- an item of an iterator: data, or a pair whose object is not known -/
def Di (K : PySem.W.Frag) (F : Hp) (v : V) (d : D) : Prop := Dp K F v d ∨ ∃ a xs ds, v = .ref a ∧ d = wk ds ∧ Rd F a (.tup xs) ∧ DpAll K F xs ds
theorem Di.items {K : PySem.W.Frag} {F : Hp} {v : V} {d : D} {ds : List D} (h : Di K F v d) (e : itemsOf d = some ds) : ∃ a vs, v = .ref a ∧ (Rd F a (.tup vs) ∨ Rd F a (.lst vs)) ∧ DpAll K F vs ds := by
  rcases h with h | ⟨a, xs, ds', rfl, rfl, hr, h1⟩
  · cases h with
    | lst hq hs => cases e; exact ⟨_, _, rfl, .inr hq, hs⟩
    | tup hq hs => cases e; exact ⟨_, _, rfl, .inl hq.rd, hs⟩
    | _ => cases e
  · have e : some (wkOut (ds'.map fun d => (d, .none))) = some ds := e
    rw [wkOut_wk] at e
    cases e
    exact ⟨a, _, rfl, .inl hr, h1⟩
theorem Di.name {K : PySem.W.Frag} {F : Hp} {v : V} {d : D} {i : Nat} {σd σd' : SD} (h : Di K F v d) (e : bindP (.name i) d σd = some σd') : Dp K F v d ∧ σd' = σd.set i (some ⟨false, d⟩) := by
  rcases h with h | ⟨a, xs, ds', rfl, rfl, hr, h1⟩
  · cases h <;> (cases e; exact ⟨by constructor <;> assumption, rfl⟩)
  · cases e
def rdG (K : Kp) (p : Pat) : TG := fun v σ H Q => ∃ F σd d, Rl K F σd σ H ∧ Di K F v d ∧ ∃ σd', bindP p d σd = some σd' ∧
  ∀ σ', Rl K F σd' σ' H → Go F σd σ H F σd' σ' H → σ'.length = σ.length → (∀ j, j ∉ p.slots → σ'[j]? = σ[j]?) → Q σ' H
abbrev PGp (X : Cx) (pn : List (Nat × Addr)) (e : Expr) (p : Pat) : Prop := PG X e (rdG ⟨X.K, pn⟩ p)
section
variable {K : Kp} {F : Hp} {H : Hp}
theorem setAll_ok : ∀ {is : List Nat} {vs : List V} {ds : List D} {σd : SD} {σ : L2.St}, (∀ i ∈ is, K.free i) → Rl K F σd σ H → DpAll K F vs ds →
    Rl K F (setAll is ds σd) (setAllV is vs σ) H ∧ (∀ b, OwnAt (setAll is ds σd) (setAllV is vs σ) b → OwnAt σd σ b) ∧ (setAllV is vs σ).length = σ.length ∧ ∀ j, j ∉ is → (setAllV is vs σ)[j]? = σ[j]?
  | [], vs, ds, σd, σ, _, R, h => by
    have e1 : setAll [] ds σd = σd := by cases ds <;> rfl
    have e2 : setAllV [] vs σ = σ := by cases vs <;> rfl
    rw [e1, e2]
    exact ⟨R, fun _ q => q, rfl, fun _ _ => rfl⟩
  | i :: is, _, _, σd, σ, _, R, .nil => ⟨R, fun _ q => q, rfl, fun _ _ => rfl⟩
  | i :: is, v :: vs, d :: ds, σd, σ, hfr, R, .cons h hs => by
    obtain ⟨h1, h2, h3, h4⟩ := setAll_ok (is := is) (fun j hj => hfr j (List.mem_cons_of_mem _ hj)) (R.set i (hfr i List.mem_cons_self) h) hs
    refine ⟨h1, fun b q => ownAt_set (fun _ z => by cases z) (h2 b q), by rw [show setAllV (i :: is) (v :: vs) σ = setAllV is vs (σ.set i (some v)) from rfl, h3]; simp, fun j hj => ?_⟩
    rw [show setAllV (i :: is) (v :: vs) σ = setAllV is vs (σ.set i (some v)) from rfl, h4 j fun z => hj (List.mem_cons_of_mem _ z)]
    exact List.getElem?_set_ne fun z => hj (by rw [← z]; exact List.mem_cons_self)
/-- names in a row -/
def gRow : List Nat → TGs
  | [] => gNil
  | i :: is => gCons (gName i) (gRow is)
theorem gRow_ok : ∀ {is : List Nat} {vs : List V} {σ : L2.St} {Q : L2.St → Hp → Prop}, vs.length = is.length → Q (setAllV is vs σ) H → gRow is vs σ H Q
  | [], [], _, _, _, q => ⟨rfl, q⟩
  | i :: is, v :: vs, σ, Q, e, q => ⟨v, vs, rfl, gRow_ok (is := is) (by simpa using e) q⟩
  | [], _ :: _, _, _, e, _ => by simp at e
  | _ :: _, [], _, _, e, _ => by simp at e
theorem rdG_name {i : Nat} (hfr : K.free i) {v : V} {σ : L2.St} {Q : L2.St → Hp → Prop} (h : rdG K (.name i) v σ H Q) : gName i v σ H Q := by
  obtain ⟨F, σd, d, R, hd, σd', e, k⟩ := h
  obtain ⟨hd, rfl⟩ := hd.name e
  exact k _ (R.set i hfr hd) (go_slots fun b q => ownAt_set (fun _ z => by cases z) q) (by simp) fun j hj => List.getElem?_set_ne fun z => hj (by rw [z]; exact List.mem_singleton.mpr rfl)
theorem rdG_tup {is : List Nat} (hfr : ∀ i ∈ is, K.free i) {v : V} {σ : L2.St} {Q : L2.St → Hp → Prop} (h : rdG K (.tup is) v σ H Q) : gTup K is.length (gRow is) v σ H Q ∨ gUnl K is.length (gRow is) v σ H Q := by
  obtain ⟨F, σd, d, R, hd, σd', e, k⟩ := h
  simp only [bindP] at e
  split at e
  · rename_i ds he
    split at e
    · rename_i hl
      cases e
      obtain ⟨a, vs, rfl, hq, hs⟩ := hd.items he
      obtain ⟨h1, h2, h3, h4⟩ := setAll_ok (is := is) hfr R hs
      have hle := (DpAll.len hs).trans hl
      rcases hq with hq | hq
      · exact .inl ⟨_, _, rfl, (.inl (R.fh.rd hq)), hle, gRow_ok hle (k _ h1 (go_slots h2) h3 h4)⟩
      · exact .inr ⟨_, _, rfl, (.inl (R.fh.rd hq)), hle, gRow_ok hle (k _ h1 (go_slots h2) h3 h4)⟩
    · cases e
  · cases e
/-- one part of a nested target -/
def Sub.pat : Sub → Pat
  | .n i => .name i
  | .t is => .tup is
theorem sub_slots (p : Sub) : p.pat.slots = p.slots := by cases p <;> rfl
def rdGs (K : Kp) (ps : List Sub) : TGs := fun vs σ H Q => ∃ F σd ds, Rl K F σd σ H ∧ DpAll K F vs ds ∧ ∃ σd', bindS ps ds σd = some σd' ∧
  ∀ σ', Rl K F σd' σ' H → Go F σd σ H F σd' σ' H → σ'.length = σ.length → (∀ j, j ∉ subSlots ps → σ'[j]? = σ[j]?) → Q σ' H
theorem rdGs_nil {vs : List V} {σ : L2.St} {Q : L2.St → Hp → Prop} (h : rdGs K [] vs σ H Q) : gNil vs σ H Q := by
  obtain ⟨F, σd, ds, R, hd, σd', e, k⟩ := h
  cases hd with
  | nil => cases e; exact ⟨rfl, k σ R (Go.refl _ _ _ _) rfl fun _ _ => rfl⟩
  | cons h t => cases e
theorem rdGs_cons {p : Sub} {ps : List Sub} {vs : List V} {σ : L2.St} {Q : L2.St → Hp → Prop} (h : rdGs K (p :: ps) vs σ H Q) : gCons (rdG K p.pat) (rdGs K ps) vs σ H Q := by
  obtain ⟨F, σd, ds, R, hd, σd', e, k⟩ := h
  cases hd with
  | nil => cases p <;> cases e
  | cons h t =>
    rename_i v vs d ds
    have key : ∃ σ1, bindP p.pat d σd = some σ1 ∧ bindS ps ds σ1 = some σd' := by
      cases p with
      | n i =>
        refine ⟨_, ?_, e⟩
        cases h <;> rfl
      | t is =>
        have e : (match itemsOf d with | some es => if es.length = is.length then bindS ps ds (setAll is es σd) else none | none => none) = some σd' := e
        show ∃ σ1, (match itemsOf d with | some ds => if ds.length = is.length then some (setAll is ds σd) else none | none => none) = some σ1 ∧ _
        cases he : itemsOf d with
        | none => rw [he] at e; cases e
        | some es =>
          rw [he] at e
          dsimp only at e ⊢
          split at e
          · rename_i hl
            exact ⟨_, by rw [if_pos hl], e⟩
          · cases e
    obtain ⟨σ1, e1, e2⟩ := key
    refine ⟨v, vs, rfl, F, σd, d, R, .inl h, σ1, e1, fun σ' R1 g1 l1 n1 => ?_⟩
    refine ⟨F, σ1, ds, R1, t, σd', e2, fun σ2 R2 g2 l2 n2 => k σ2 R2 (g1.trans g2) (l2.trans l1) fun j hj => ?_⟩
    simp only [subSlots, List.mem_append, not_or] at hj
    rw [n2 j hj.2, n1 j (by rw [sub_slots]; exact hj.1)]
theorem rdG_nst {ps : List Sub} {v : V} {σ : L2.St} {Q : L2.St → Hp → Prop} (h : rdG K (.nst ps) v σ H Q) : gTup K ps.length (rdGs K ps) v σ H Q ∨ gUnl K ps.length (rdGs K ps) v σ H Q := by
  obtain ⟨F, σd, d, R, hd, σd', e, k⟩ := h
  simp only [bindP] at e
  split at e
  · rename_i ds he
    obtain ⟨a, vs, rfl, hq, hs⟩ := hd.items he
    have hl : ∀ (ps : List Sub) (ds : List D) (σd : SD), bindS ps ds σd = some σd' → ds.length = ps.length := by
      intro ps
      induction ps with
      | nil => intro ds σd e; cases ds with
        | nil => rfl
        | cons _ _ => cases e
      | cons p ps ih =>
        intro ds σd e
        cases ds with
        | nil => cases p <;> cases e
        | cons d ds =>
          cases p with
          | n i => simp [ih ds _ e]
          | t is =>
            simp only [bindS] at e
            split at e
            · split at e
              · simp [ih ds _ e]
              · cases e
            · cases e
    have hle := (DpAll.len hs).trans (hl ps ds σd e)
    have q : rdGs K ps vs σ H Q := ⟨F, σd, ds, R, hs, σd', e, k⟩
    rcases hq with hq | hq
    · exact .inl ⟨_, _, rfl, (.inl (R.fh.rd hq)), hle, q⟩
    · exact .inr ⟨_, _, rfl, (.inl (R.fh.rd hq)), hle, q⟩
  · cases e
end
section
variable {X : Cx} {pn : List (Nat × Addr)} {pos : Pos}
theorem g_name {i : Nat} {x : Str} (hfr : Kp.free ⟨X.K, pn⟩ i) (hN : X.N.Nodup) (hi : X.N[i]? = some x) (hx : Loc X.env.scope x) (hf : X.fn x = true ∨ X.env.scope.names.lookup x = some .local) : PGp X pn (.Name x pos) (.name i) :=
  pgMono (pg_name hN hi hx hf) fun _ _ _ _ => rdG_name hfr
/-- the names of a tuple target -/
inductive Names (X : Cx) : List Expr → List Nat → Prop
  | nil : Names X [] []
  | cons {x : Str} {p : Pos} {i : Nat} {es : List Expr} {is : List Nat} : X.N[i]? = some x → Loc X.env.scope x → (X.fn x = true ∨ X.env.scope.names.lookup x = some .local) → Names X es is → Names X (.Name x p :: es) (i :: is)
theorem Names.pgs (hN : X.N.Nodup) : ∀ {es : List Expr} {is : List Nat}, Names X es is → PGs X es (gRow is)
  | _, _, .nil => pgs_nil
  | _, _, .cons h1 h2 h3 h => pgs_cons (pg_name hN h1 h2 h3) (Names.pgs hN h) rfl
theorem Names.each : ∀ {es : List Expr} {is : List Nat}, Names X es is → (assignEach es X.env).length = is.length ∧ (assignEach es X.env).findIdx? (·.1) = none
  | _, _, .nil => ⟨rfl, rfl⟩
  | _, _, .cons (x := x) (p := p) (es := es) (is := is) _ _ _ h => by
    obtain ⟨h1, h2⟩ := h.each
    have e : assignEach (Expr.Name x p :: es) X.env = (false, assign (.Name x p) X.env) :: assignEach es X.env := rfl
    rw [e]
    refine ⟨by simp [h1], ?_⟩
    rw [List.findIdx?_cons, h2]
    rfl
theorem g_tup {es : List Expr} {is : List Nat} {k : Nat} (hfr : ∀ i ∈ is, Kp.free ⟨X.K, pn⟩ i) (hc : X.calm = true) (hN : X.N.Nodup) (h : Names X es is) : PGp X pn (.Tuple es k pos) (.tup is) :=
  pgMono (pgOr (pg_tup hc (h.pgs hN) h.each.1 h.each.2) (pg_unl hc (h.pgs hN) h.each.1 h.each.2)) fun _ _ _ _ => rdG_tup hfr
/-- the parts of a nested target -/
inductive Subs (X : Cx) (pn : List (Nat × Addr)) : List Expr → List Sub → Prop
  | nil : Subs X pn [] []
  | name {x : Str} {p : Pos} {i : Nat} {es : List Expr} {ps : List Sub} : Kp.free ⟨X.K, pn⟩ i → X.N[i]? = some x → Loc X.env.scope x → (X.fn x = true ∨ X.env.scope.names.lookup x = some .local) → Subs X pn es ps → Subs X pn (.Name x p :: es) (.n i :: ps)
  | tup {ts : List Expr} {is : List Nat} {k : Nat} {p : Pos} {es : List Expr} {ps : List Sub} : (∀ i ∈ is, Kp.free ⟨X.K, pn⟩ i) → Names X ts is → Subs X pn es ps → Subs X pn (.Tuple ts k p :: es) (.t is :: ps)
theorem pgsMono {ts : List Expr} {g g' : TGs} (h : PGs X ts g) (m : ∀ v σ H Q, g' v σ H Q → g v σ H Q) : PGs X ts g' :=
  ⟨fun pins s σ H v u Q I r q => h.run pins s σ H v u Q I r (m v σ H Q q)⟩
theorem Subs.pgs (hc : X.calm = true) (hN : X.N.Nodup) : ∀ {es : List Expr} {ps : List Sub}, Subs X pn es ps → PGs X es (rdGs ⟨X.K, pn⟩ ps)
  | _, _, .nil => pgsMono pgs_nil fun _ _ _ _ => rdGs_nil
  | _, _, .name h0 h1 h2 h3 h => pgsMono (pgs_cons (g_name h0 hN h1 h2 h3) (Subs.pgs hc hN h) rfl) fun _ _ _ _ => rdGs_cons
  | _, _, .tup h0 h1 h => pgsMono (pgs_cons (g_tup h0 hc hN h1) (Subs.pgs hc hN h) rfl) fun _ _ _ _ => rdGs_cons
theorem Subs.each : ∀ {es : List Expr} {ps : List Sub}, Subs X pn es ps → (assignEach es X.env).length = ps.length ∧ (assignEach es X.env).findIdx? (·.1) = none
  | _, _, .nil => ⟨rfl, rfl⟩
  | _, _, .name (x := x) (p := p) (es := es) _ _ _ _ h => by
    obtain ⟨h1, h2⟩ := h.each
    have e : assignEach (Expr.Name x p :: es) X.env = (false, assign (.Name x p) X.env) :: assignEach es X.env := rfl
    rw [e]
    refine ⟨by simp [h1], ?_⟩
    rw [List.findIdx?_cons, h2]
    rfl
  | _, _, .tup (ts := ts) (k := k) (p := p) (es := es) _ _ h => by
    obtain ⟨h1, h2⟩ := h.each
    have e : assignEach (Expr.Tuple ts k p :: es) X.env = (false, assign (.Tuple ts k p) X.env) :: assignEach es X.env := rfl
    rw [e]
    refine ⟨by simp [h1], ?_⟩
    rw [List.findIdx?_cons, h2]
    rfl
theorem g_nst {es : List Expr} {ps : List Sub} {k : Nat} (hc : X.calm = true) (hN : X.N.Nodup) (h : Subs X pn es ps) : PGp X pn (.Tuple es k pos) (.nst ps) :=
  pgMono (pgOr (pg_tup hc (h.pgs hc hN) h.each.1 h.each.2) (pg_unl hc (h.pgs hc hN) h.each.1 h.each.2)) fun _ _ _ _ => rdG_nst
end

/-! ### iterators -/
structure ItD (K : PySem.W.Frag) (F0 : Hp) (J : It) (ds : List D) : Prop where
  go : ∀ i H, Ex F0 H → i < ds.length → J.go i H
  stop : ∀ H, Ex F0 H → J.stop ds.length H
  yld : ∀ i F H x H' d, Ex F0 F → Ex F H → ds[i]? = some d → J.yld i H x H' → ∃ F', Grow F H F' H' ∧ Di K F' x d
def rdI (K : Kp) (f : DV) : TI := fun σ H R => ∃ F σd, Rl K F σd σ H ∧ ∃ ds σd', f σd = some (ds, σd') ∧
  ∀ F' H' J, Rl K F' σd' σ H' → Go F σd σ H F' σd' σ H' → ItD K F' J ds → R J H'
abbrev PIi (X : Cx) (pn : List (Nat × Addr)) (tg e : Expr) (f : DV) : Prop := PI X tg e (rdI ⟨X.K, pn⟩ f)
section
variable {K : Kp} {F : Hp}
theorem itd_list {a : Addr} {vs : List V} {ds : List D} (hq : SqL K F a vs) (hs : DpAll K F vs ds) : ItD K F (Itl K a) ds := by
  have hl := DpAll.len hs
  refine ⟨fun i H e hi => ⟨vs, vs[i]'(by omega), e.sqL hq, by simp [show i < vs.length by omega]⟩, fun H e => ⟨vs, e.sqL hq, by omega⟩, fun i F1 H x H' d e1 e2 hd y => ?_⟩
  obtain ⟨rfl, y⟩ := y
  obtain ⟨v, h1, h2⟩ := DpAll.get hs hd
  have h3 := y vs ((e1.trans e2).sqL hq)
  rw [h1] at h3; cases h3
  exact ⟨F1, Grow.refl e2, .inl (Dp.mono e1 h2)⟩
theorem itd_tup {a : Addr} {vs : List V} {ds : List D} (hq : SqT K F a vs) (hs : DpAll K F vs ds) : ItD K F (Itt K a) ds := by
  have hl := DpAll.len hs
  refine ⟨fun i H e hi => ⟨vs, vs[i]'(by omega), e.sqT hq, by simp [show i < vs.length by omega]⟩, fun H e => ⟨vs, e.sqT hq, by omega⟩, fun i F1 H x H' d e1 e2 hd y => ?_⟩
  obtain ⟨rfl, y⟩ := y
  obtain ⟨v, h1, h2⟩ := DpAll.get hs hd
  have h3 := y vs ((e1.trans e2).sqT hq)
  rw [h1] at h3; cases h3
  exact ⟨F1, Grow.refl e2, .inl (Dp.mono e1 h2)⟩
/-- the whole numbers of a range -/
def rngs (lo : Int) : Nat → List D
  | 0 => []
  | n + 1 => .int lo :: rngs (lo + 1) n
theorem rngs_len : ∀ (n : Nat) (lo : Int), (rngs lo n).length = n
  | 0, _ => rfl
  | n + 1, lo => by simp [rngs, rngs_len n]
theorem rngs_get : ∀ (n : Nat) (lo : Int) (i : Nat) (d : D), (rngs lo n)[i]? = some d → d = .int (lo + i)
  | 0, _, _, _, h => by simp [rngs] at h
  | n + 1, lo, 0, d, h => by simp [rngs] at h; rw [← h]; simp
  | n + 1, lo, i + 1, d, h => by
    have h' : (rngs (lo + 1) n)[i]? = some d := by simpa [rngs] using h
    rw [rngs_get n _ i d h']
    congr 1
    omega
theorem itd_range {lo : Int} {n : Nat} : ItD K F (Itr lo n) (rngs lo n) := by
  refine ⟨fun i H _ hi => by rw [rngs_len] at hi; exact hi, fun H _ => by rw [rngs_len]; exact Nat.le_refl n, fun i F1 H x H' d e1 e2 hd y => ?_⟩
  obtain ⟨rfl, rfl⟩ := y
  rw [rngs_get n lo i d hd]
  exact ⟨F1, Grow.refl e2, .inl (.int _)⟩
/-- one sign each -/
def signs (x : Str) : List D := x.cps.toList.map fun c => .str ⟨#[c]⟩
theorem itd_str {x : Str} : ItD K F (Its x) (signs x) := by
  refine ⟨fun i H _ hi => (show i < x.cps.size by simpa [signs] using hi), fun H _ => by show x.cps.size ≤ _; simp [signs], fun i F1 H v H' d e1 e2 hd y => ?_⟩
  obtain ⟨rfl, c, hc, rfl⟩ := y
  have : d = .str ⟨#[c]⟩ := by
    simp only [signs, List.getElem?_map, Array.getElem?_toList, hc, Option.map_some] at hd
    exact (Option.some.inj hd).symm
  rw [this]
  exact ⟨F1, Grow.refl e2, .inl (.str _)⟩
/-- pairs -/
def pairs : List D → List D → List D
  | a :: as, b :: bs => .dict [(a, .none), (b, .none)] :: pairs as bs
  | _, _ => []
theorem pairs_len : ∀ (as bs : List D), (pairs as bs).length = min as.length bs.length
  | [], _ => by simp [pairs]
  | _ :: _, [] => by simp [pairs]
  | a :: as, b :: bs => by simp [pairs, pairs_len as bs]
theorem pairs_get : ∀ (as bs : List D) (i : Nat) (d : D), (pairs as bs)[i]? = some d → ∃ a b, as[i]? = some a ∧ bs[i]? = some b ∧ d = wk [a, b]
  | [], _, _, _, h => by simp [pairs] at h
  | _ :: _, [], _, _, h => by simp [pairs] at h
  | a :: as, b :: bs, 0, d, h => by simp [pairs] at h; exact ⟨a, b, rfl, rfl, h.symm⟩
  | a :: as, b :: bs, i + 1, d, h => by
    obtain ⟨x, y, h1, h2, h3⟩ := pairs_get as bs i d (by simpa [pairs] using h)
    exact ⟨x, y, by simpa using h1, by simpa using h2, h3⟩
theorem new_pair {F1 H : Hp} {T : Addr} {x y : V} {a b : D} (e : Ex F1 H) (hT : H T = none) (hx : Dp K F1 x a) (hy : Dp K F1 y b) : ∃ F', Grow F1 H F' (upd H T (.tup [x, y])) ∧ Di K F' (.ref T) (wk [a, b]) := by
  have g : Grow F1 H (upd F1 T (.tup [x, y])) (upd H T (.tup [x, y])) := new_growF e hT
  exact ⟨_, g, .inr ⟨T, [x, y], [a, b], rfl, rfl, Rd.of upd_same, .cons (Dp.mono g.ff hx) (.cons (Dp.mono g.ff hy) .nil)⟩⟩
theorem new_trip {F1 H : Hp} {T : Addr} {x y z : V} {a b c : D} (e : Ex F1 H) (hT : H T = none) (hx : Dp K F1 x a) (hy : Dp K F1 y b) (hz : Dp K F1 z c) : ∃ F', Grow F1 H F' (upd H T (.tup [x, y, z])) ∧ Di K F' (.ref T) (wk [a, b, c]) := by
  have g : Grow F1 H (upd F1 T (.tup [x, y, z])) (upd H T (.tup [x, y, z])) := new_growF e hT
  exact ⟨_, g, .inr ⟨T, [x, y, z], [a, b, c], rfl, rfl, Rd.of upd_same, .cons (Dp.mono g.ff hx) (.cons (Dp.mono g.ff hy) (.cons (Dp.mono g.ff hz) .nil))⟩⟩
def trips : List D → List D → List D → List D
  | a :: as, b :: bs, c :: cs => .dict [(a, .none), (b, .none), (c, .none)] :: trips as bs cs
  | _, _, _ => []
theorem trips_len : ∀ (as bs cs : List D), (trips as bs cs).length = min (min as.length bs.length) cs.length
  | [], _, _ => by simp [trips]
  | _ :: _, [], _ => by simp [trips]
  | _ :: _, _ :: _, [] => by simp [trips]
  | a :: as, b :: bs, c :: cs => by simp [trips, trips_len as bs cs]
theorem trips_get : ∀ (as bs cs : List D) (i : Nat) (d : D), (trips as bs cs)[i]? = some d → ∃ a b c, as[i]? = some a ∧ bs[i]? = some b ∧ cs[i]? = some c ∧ d = wk [a, b, c]
  | [], _, _, _, _, h => by simp [trips] at h
  | _ :: _, [], _, _, _, h => by simp [trips] at h
  | _ :: _, _ :: _, [], _, _, h => by simp [trips] at h
  | a :: as, b :: bs, c :: cs, 0, d, h => by simp [trips] at h; exact ⟨a, b, c, rfl, rfl, rfl, h.symm⟩
  | a :: as, b :: bs, c :: cs, i + 1, d, h => by
    obtain ⟨x, y, z, h1, h2, h3, h4⟩ := trips_get as bs cs i d (by simpa [trips] using h)
    exact ⟨x, y, z, by simpa using h1, by simpa using h2, by simpa using h3, h4⟩
theorem itd_zip3 {a b c : Addr} {us vs ws : List V} {as bs cs : List D} (hq : SqT K F a us) (hs : DpAll K F us as) (hq' : SqT K F b vs) (hs' : DpAll K F vs bs) (hq'' : SqT K F c ws) (hs'' : DpAll K F ws cs) : ItD K F (Itz3 K a b c) (trips as bs cs) := by
  have hl := DpAll.len hs
  have hl' := DpAll.len hs'
  have hl'' := DpAll.len hs''
  refine ⟨fun i H e hi => ?_, fun H e => ⟨us, vs, ws, e.sqT hq, e.sqT hq', e.sqT hq'', by rw [trips_len]; omega⟩, fun i F1 H x H' d e1 e2 hd y => ?_⟩
  · rw [trips_len] at hi
    have h1 : i < us.length := by omega
    have h2 : i < vs.length := by omega
    have h3 : i < ws.length := by omega
    exact ⟨us, vs, ws, us[i], vs[i], ws[i], e.sqT hq, e.sqT hq', e.sqT hq'', by simp [h1], by simp [h2], by simp [h3]⟩
  · obtain ⟨T, u, v, w, rfl, hT, rfl, y1, y2, y3⟩ := y
    obtain ⟨p, q, r, g1, g2, g3, rfl⟩ := trips_get as bs cs i d hd
    obtain ⟨v1, k1, k2⟩ := DpAll.get hs g1
    obtain ⟨v2, k3, k4⟩ := DpAll.get hs' g2
    obtain ⟨v3, k5, k6⟩ := DpAll.get hs'' g3
    have z1 := y1 us ((e1.trans e2).sqT hq)
    have z2 := y2 vs ((e1.trans e2).sqT hq')
    have z3 := y3 ws ((e1.trans e2).sqT hq'')
    rw [k1] at z1; cases z1
    rw [k3] at z2; cases z2
    rw [k5] at z3; cases z3
    exact new_trip e2 hT (Dp.mono e1 k2) (Dp.mono e1 k4) (Dp.mono e1 k6)
/-- a range with the step -1 -/
def rngd (lo : Int) : Nat → List D
  | 0 => []
  | n + 1 => .int lo :: rngd (lo - 1) n
theorem rngd_len : ∀ (n : Nat) (lo : Int), (rngd lo n).length = n
  | 0, _ => rfl
  | n + 1, lo => by simp [rngd, rngd_len n]
theorem rngd_get : ∀ (n : Nat) (lo : Int) (i : Nat) (d : D), (rngd lo n)[i]? = some d → d = .int (lo + (i : Nat) * (-1))
  | 0, _, _, _, h => by simp [rngd] at h
  | n + 1, lo, 0, d, h => by simp [rngd] at h; rw [← h]; simp
  | n + 1, lo, i + 1, d, h => by
    have h' : (rngd (lo - 1) n)[i]? = some d := by simpa [rngd] using h
    rw [rngd_get n _ i d h']
    congr 1
    omega
theorem itd_rangeD {lo : Int} {n : Nat} : ItD K F (Itc lo (-1) n) (rngd lo n) := by
  refine ⟨fun i H _ hi => by rw [rngd_len] at hi; exact hi, fun H _ => by rw [rngd_len]; exact Nat.le_refl n, fun i F1 H x H' d e1 e2 hd y => ?_⟩
  obtain ⟨rfl, rfl⟩ := y
  rw [rngd_get n lo i d hd]
  exact ⟨F1, Grow.refl e2, .inl (.int _)⟩
/-- a range with a step above nought -/
def rngc (lo c : Int) : Nat → List D
  | 0 => []
  | n + 1 => .int lo :: rngc (lo + c) c n
theorem rngc_len : ∀ (n : Nat) (lo c : Int), (rngc lo c n).length = n
  | 0, _, _ => rfl
  | n + 1, lo, c => by simp [rngc, rngc_len n]
theorem rngc_get : ∀ (n : Nat) (lo c : Int) (i : Nat) (d : D), (rngc lo c n)[i]? = some d → d = .int (lo + (i : Nat) * c)
  | 0, _, _, _, _, h => by simp [rngc] at h
  | n + 1, lo, c, 0, d, h => by simp [rngc] at h; rw [← h]; simp
  | n + 1, lo, c, i + 1, d, h => by
    have h' : (rngc (lo + c) c n)[i]? = some d := by simpa [rngc] using h
    rw [rngc_get n _ c i d h']
    congr 1
    have e : ((i + 1 : Nat) : Int) * c = (i : Int) * c + c := by
      rw [Int.natCast_add, Int.add_mul]; simp
    rw [e]; omega
theorem itd_rangeC {lo c : Int} {n : Nat} : ItD K F (Itc lo c n) (rngc lo c n) := by
  refine ⟨fun i H _ hi => by rw [rngc_len] at hi; exact hi, fun H _ => by rw [rngc_len]; exact Nat.le_refl n, fun i F1 H x H' d e1 e2 hd y => ?_⟩
  obtain ⟨rfl, rfl⟩ := y
  rw [rngc_get n lo c i d hd]
  exact ⟨F1, Grow.refl e2, .inl (.int _)⟩
theorem itd_zip {a b : Addr} {vs ws : List V} {as bs : List D} (hq : SqL K F a vs) (hs : DpAll K F vs as) (hq' : SqL K F b ws) (hs' : DpAll K F ws bs) : ItD K F (Itz K a b) (pairs as bs) := by
  have hl := DpAll.len hs
  have hl' := DpAll.len hs'
  refine ⟨fun i H e hi => ?_, fun H e => ⟨vs, ws, e.sqL hq, e.sqL hq', by rw [pairs_len]; omega⟩, fun i F1 H x H' d e1 e2 hd y => ?_⟩
  · rw [pairs_len] at hi
    have h1 : i < vs.length := by omega
    have h2 : i < ws.length := by omega
    exact ⟨vs, ws, vs[i], ws[i], e.sqL hq, e.sqL hq', by simp [h1], by simp [h2]⟩
  · obtain ⟨T, u, w, rfl, hT, rfl, y1, y2⟩ := y
    obtain ⟨p, q, g1, g2, rfl⟩ := pairs_get as bs i d hd
    obtain ⟨v1, k1, k2⟩ := DpAll.get hs g1
    obtain ⟨v2, k3, k4⟩ := DpAll.get hs' g2
    have z1 := y1 vs ((e1.trans e2).sqL hq)
    have z2 := y2 ws ((e1.trans e2).sqL hq')
    rw [k1] at z1; cases z1
    rw [k3] at z2; cases z2
    exact new_pair e2 hT (Dp.mono e1 k2) (Dp.mono e1 k4)
theorem itd_zipT {a b : Addr} {vs ws : List V} {as bs : List D} (hq : SqT K F a vs) (hs : DpAll K F vs as) (hq' : SqT K F b ws) (hs' : DpAll K F ws bs) : ItD K F (RZ.ItzT K a b) (pairs as bs) := by
  have hl := DpAll.len hs
  have hl' := DpAll.len hs'
  refine ⟨fun i H e hi => ?_, fun H e => ⟨vs, ws, e.sqT hq, e.sqT hq', by rw [pairs_len]; omega⟩, fun i F1 H x H' d e1 e2 hd y => ?_⟩
  · rw [pairs_len] at hi
    have h1 : i < vs.length := by omega
    have h2 : i < ws.length := by omega
    exact ⟨vs, ws, vs[i], ws[i], e.sqT hq, e.sqT hq', by simp [h1], by simp [h2]⟩
  · obtain ⟨T, u, w, rfl, hT, rfl, y1, y2⟩ := y
    obtain ⟨p, q, g1, g2, rfl⟩ := pairs_get as bs i d hd
    obtain ⟨v1, k1, k2⟩ := DpAll.get hs g1
    obtain ⟨v2, k3, k4⟩ := DpAll.get hs' g2
    have z1 := y1 vs ((e1.trans e2).sqT hq)
    have z2 := y2 ws ((e1.trans e2).sqT hq')
    rw [k1] at z1; cases z1
    rw [k3] at z2; cases z2
    exact new_pair e2 hT (Dp.mono e1 k2) (Dp.mono e1 k4)
theorem itd_enum {a : Addr} {vs : List V} {as : List D} (hq : SqL K F a vs) (hs : DpAll K F vs as) : ItD K F (Ite K a) (pairs (rngs 0 as.length) as) := by
  have hl := DpAll.len hs
  refine ⟨fun i H e hi => ?_, fun H e => ⟨vs, e.sqL hq, by rw [pairs_len, rngs_len]; omega⟩, fun i F1 H x H' d e1 e2 hd y => ?_⟩
  · rw [pairs_len, rngs_len] at hi
    have h1 : i < vs.length := by omega
    exact ⟨vs, vs[i], e.sqL hq, by simp [h1]⟩
  · obtain ⟨T, u, rfl, hT, rfl, y1⟩ := y
    obtain ⟨p, q, g1, g2, rfl⟩ := pairs_get _ as i d hd
    obtain ⟨v1, k1, k2⟩ := DpAll.get hs g2
    have z1 := y1 vs ((e1.trans e2).sqL hq)
    rw [k1] at z1; cases z1
    rw [rngs_get _ _ i p g1]
    have e0 : (0 : Int) + (i : Int) = ((i : Nat) : Int) := by omega
    rw [e0]
    exact new_pair e2 hT (.int _) (Dp.mono e1 k2)

theorem itd_enumT {a : Addr} {vs : List V} {as : List D} (hq : SqT K F a vs) (hs : DpAll K F vs as) : ItD K F (IteT K a) (pairs (rngs 0 as.length) as) := by
  have hl := DpAll.len hs
  refine ⟨fun i H e hi => ?_, fun H e => ⟨vs, e.sqT hq, by rw [pairs_len, rngs_len]; omega⟩, fun i F1 H x H' d e1 e2 hd y => ?_⟩
  · rw [pairs_len, rngs_len] at hi
    have h1 : i < vs.length := by omega
    exact ⟨vs, vs[i], e.sqT hq, by simp [h1]⟩
  · obtain ⟨T, u, rfl, hT, rfl, y1⟩ := y
    obtain ⟨p, q, g1, g2, rfl⟩ := pairs_get _ as i d hd
    obtain ⟨v1, k1, k2⟩ := DpAll.get hs g2
    have z1 := y1 vs ((e1.trans e2).sqT hq)
    rw [k1] at z1; cases z1
    rw [rngs_get _ _ i p g1]
    have e0 : (0 : Int) + (i : Int) = ((i : Nat) : Int) := by omega
    rw [e0]
    exact new_pair e2 hT (.int _) (Dp.mono e1 k2)

def iSeq (f : DW) : DV := fun σd => match f σd with
  | some (.list ds, σ1) => some (ds, σ1)
  | some (.tuple ds, σ1) => some (ds, σ1)
  | some (.str x, σ1) => some (signs x, σ1)
  | _ => none
def small62 (i : Int) : Bool := decide (-4611686018427387904 ≤ i) && decide (i < 4611686018427387904)
theorem small62_lo {i : Int} (h : small62 i = true) : -(2 ^ 62) ≤ i ∧ i < 2 ^ 62 := by
  unfold small62 at h
  simp only [Bool.and_eq_true, decide_eq_true_eq] at h
  constructor
  · have : (2 : Int) ^ 62 = 4611686018427387904 := by decide
    omega
  · have : (2 : Int) ^ 62 = 4611686018427387904 := by decide
    omega
def iRange (a : DV) : DV := fun σd => match a σd with
  | some ([.int j], σ1) => if small62 j = true then some (rngs 0 j.toNat, σ1) else none
  | some ([.int i, .int j], σ1) => if (small62 i && small62 j) = true then some (rngs i (j - i).toNat, σ1) else none
  | _ => none
def iZip (a : DV) : DV := fun σd => match a σd with
  | some ([.list as, .list bs], σ1) => some (pairs as bs, σ1)
  | some ([.tuple as, .tuple bs], σ1) => some (pairs as bs, σ1)
  | _ => none
def iEnum (a : DV) : DV := fun σd => match a σd with
  | some ([.list as], σ1) => some (pairs (rngs 0 as.length) as, σ1)
  | some ([.tuple as], σ1) => some (pairs (rngs 0 as.length) as, σ1)
  | _ => none
/-- range(i, j, c): down by one, or up in steps -/
def iRange3 (a : DV) : DV := fun σd => match a σd with
  | some ([.int i, .int j, .int c], σ1) => if (small62 i && small62 j && small62 c) = true then (if c = -1 then some (rngd i (i - j).toNat, σ1) else if (decide (0 < c) && decide (c < 1000000) && Builtin.Range.small i j c && decide (0 ≤ Builtin.Range.rangeSize i j c)) = true then some (rngc i c (Builtin.Range.rangeSize i j c).toNat, σ1) else none) else none
  | _ => none
def iZip3 (a : DV) : DV := fun σd => match a σd with
  | some ([.tuple as, .tuple bs, .tuple cs], σ1) => some (trips as bs cs, σ1)
  | _ => none
variable {σ : L2.St} {H : Hp} {R : It → Hp → Prop}
theorem rdI_range3 {a : DV} (h : rdI K (iRange3 a) σ H R) : iRng3 (rdV K a) σ H R := by
  obtain ⟨F, σd, Rr, ds, σd', e, k⟩ := h
  unfold iRange3 at e
  split at e
  · rename_i i j c σ1 e1
    split at e
    · rename_i hb
      simp only [Bool.and_eq_true] at hb
      obtain ⟨⟨b1, b2⟩, b3⟩ := hb
      split at e
      · rename_i hc
        subst hc
        cases e
        refine ⟨F, σd, Rr, _, _, e1, fun F1 H1 vs R1 g1 hd => ?_⟩
        cases hd with
        | cons p q =>
          cases q with
          | cons p2 q2 =>
            cases q2 with
            | cons p3 q3 =>
              cases p; cases p2; cases p3; cases q3
              exact ⟨i, j, -1, (i - j).toNat, rfl, RgC.neg (small62_lo b1).1 (small62_lo b1).2 (small62_lo b2).1 (small62_lo b2).2, k F1 H1 _ R1 g1 itd_rangeD⟩
      · split at e
        · rename_i hc
          simp only [Bool.and_eq_true, decide_eq_true_eq] at hc
          obtain ⟨⟨⟨c1, c2⟩, c3⟩, c4⟩ := hc
          cases e
          refine ⟨F, σd, Rr, _, _, e1, fun F1 H1 vs R1 g1 hd => ?_⟩
          cases hd with
          | cons p q =>
            cases q with
            | cons p2 q2 =>
              cases q2 with
              | cons p3 q3 =>
                cases p; cases p2; cases p3; cases q3
                exact ⟨i, j, c, (Builtin.Range.rangeSize i j c).toNat, rfl, ⟨by omega, by omega, c3, by omega⟩, k F1 H1 _ R1 g1 itd_rangeC⟩
        · cases e
    · cases e
  · cases e
theorem rdI_zip3 {a : DV} (h : rdI K (iZip3 a) σ H R) : iZip3A K (rdV K a) σ H R := by
  obtain ⟨F, σd, Rr, ds, σd', e, k⟩ := h
  unfold iZip3 at e
  split at e
  · rename_i e1
    cases e
    refine ⟨F, σd, Rr, _, _, e1, fun F1 H1 vs R1 g1 hd => ?_⟩
    cases hd with
    | cons p q =>
      cases q with
      | cons p2 q2 =>
        cases q2 with
        | cons p3 q3 =>
        cases q3
        cases p with
        | tup hq hs =>
          cases p2 with
          | tup hq' hs' =>
            cases p3 with
            | tup hq'' hs'' => exact ⟨_, _, _, _, _, _, rfl, (.inl (R1.fh.rd hq.rd)), (.inl (R1.fh.rd hq'.rd)), (.inl (R1.fh.rd hq''.rd)), k F1 H1 _ R1 g1 (itd_zip3 (.inl hq.rd) hs (.inl hq'.rd) hs' (.inl hq''.rd) hs'')⟩
  · cases e
theorem rdI_seq {f : DW} (h : rdI K (iSeq f) σ H R) : (iList K (rdW K f) σ H R ∨ iTup K (rdW K f) σ H R) ∨ iStr (rdW K f) σ H R := by
  obtain ⟨F, σd, Rr, ds, σd', e, k⟩ := h
  unfold iSeq at e
  split at e
  · rename_i e1
    cases e
    refine .inl (.inl ⟨F, σd, Rr, _, _, e1, fun F1 H1 v R1 g1 hd => ?_⟩)
    cases hd with
    | lst hq hs => exact ⟨_, rfl, ⟨_, .inl (R1.fh.rd hq)⟩, k F1 H1 _ R1 g1 (itd_list (.inl hq) hs)⟩
  · rename_i e1
    cases e
    refine .inl (.inr ⟨F, σd, Rr, _, _, e1, fun F1 H1 v R1 g1 hd => ?_⟩)
    cases hd with
    | tup hq hs => exact ⟨_, rfl, ⟨_, .inl (R1.fh.rd hq.rd)⟩, k F1 H1 _ R1 g1 (itd_tup (.inl hq.rd) hs)⟩
  · rename_i x σ1 e1
    cases e
    refine .inr ⟨F, σd, Rr, _, _, e1, fun F1 H1 v R1 g1 hd => ?_⟩
    cases hd
    exact ⟨x, rfl, k F1 H1 _ R1 g1 itd_str⟩
  · cases e
theorem rdI_range1 {a : DV} (h : rdI K (iRange a) σ H R) (h1 : ∀ σd ds σ1, a σd = some (ds, σ1) → ds.length = 1) : iRng1 (rdV K a) σ H R := by
  obtain ⟨F, σd, Rr, ds, σd', e, k⟩ := h
  unfold iRange at e
  split at e
  · rename_i j σ1 e1
    split at e
    · rename_i hb
      cases e
      refine ⟨F, σd, Rr, _, _, e1, fun F1 H1 vs R1 g1 hd => ?_⟩
      cases hd with
      | cons p q =>
        cases p; cases q
        exact ⟨j, rfl, (small62_lo hb).1, (small62_lo hb).2, k F1 H1 _ R1 g1 itd_range⟩
    · cases e
  · rename_i e1
    have := h1 _ _ _ e1
    cases this
  · cases e
theorem rdI_range2 {a : DV} (h : rdI K (iRange a) σ H R) (h1 : ∀ σd ds σ1, a σd = some (ds, σ1) → ds.length = 2) : iRng2 (rdV K a) σ H R := by
  obtain ⟨F, σd, Rr, ds, σd', e, k⟩ := h
  unfold iRange at e
  split at e
  · rename_i e1
    have := h1 _ _ _ e1
    cases this
  · rename_i i j σ1 e1
    split at e
    · rename_i hb
      cases e
      rw [Bool.and_eq_true] at hb
      refine ⟨F, σd, Rr, _, _, e1, fun F1 H1 vs R1 g1 hd => ?_⟩
      cases hd with
      | cons p q =>
        cases q with
        | cons p2 q2 =>
          cases p; cases p2; cases q2
          exact ⟨i, j, rfl, ⟨(small62_lo hb.1).1, (small62_lo hb.1).2, (small62_lo hb.2).1, (small62_lo hb.2).2⟩, k F1 H1 _ R1 g1 itd_range⟩
    · cases e
  · cases e
theorem rdI_zip {a : DV} (h : rdI K (iZip a) σ H R) : RZ.iZipA K (rdV K a) σ H R := by
  obtain ⟨F, σd, Rr, ds, σd', e, k⟩ := h
  unfold iZip at e
  split at e
  · rename_i e1
    cases e
    refine ⟨F, σd, Rr, _, _, e1, fun F1 H1 vs R1 g1 hd => ?_⟩
    cases hd with
    | cons p q =>
      cases q with
      | cons p2 q2 =>
        cases q2
        cases p with
        | lst hq hs =>
          cases p2 with
          | lst hq' hs' => exact ⟨_, _, _, _, rfl, .inl ⟨(.inl (R1.fh.rd hq)), (.inl (R1.fh.rd hq')), k F1 H1 _ R1 g1 (itd_zip (.inl hq) hs (.inl hq') hs')⟩⟩
  · rename_i e1
    cases e
    refine ⟨F, σd, Rr, _, _, e1, fun F1 H1 vs R1 g1 hd => ?_⟩
    cases hd with
    | cons p q =>
      cases q with
      | cons p2 q2 =>
        cases q2
        cases p with
        | tup hq hs =>
          cases p2 with
          | tup hq' hs' => exact ⟨_, _, _, _, rfl, .inr ⟨(.inl (R1.fh.rd hq.rd)), (.inl (R1.fh.rd hq'.rd)), k F1 H1 _ R1 g1 (itd_zipT (.inl hq.rd) hs (.inl hq'.rd) hs')⟩⟩
  · cases e
theorem rdI_enum {a : DV} (h : rdI K (iEnum a) σ H R) : L2.iEnum K (rdV K a) σ H R ∨ iEnumT0 K (rdV K a) σ H R := by
  obtain ⟨F, σd, Rr, ds, σd', e, k⟩ := h
  unfold iEnum at e
  split at e
  · rename_i e1
    cases e
    refine .inl ⟨F, σd, Rr, _, _, e1, fun F1 H1 vs R1 g1 hd => ?_⟩
    cases hd with
    | cons p q =>
      cases q
      cases p with
      | lst hq hs => exact ⟨_, _, rfl, (.inl (R1.fh.rd hq)), k F1 H1 _ R1 g1 (itd_enum (.inl hq) hs)⟩
  · rename_i e1
    cases e
    refine .inr ⟨F, σd, Rr, _, _, e1, fun F1 H1 vs R1 g1 hd => ?_⟩
    cases hd with
    | cons p q =>
      cases q
      cases p with
      | tup hq hs => exact ⟨_, _, rfl, (.inl (R1.fh.rd hq.rd)), k F1 H1 _ R1 g1 (itd_enumT (.inl hq.rd) hs)⟩
  · cases e
end
section
variable {X : Cx} {pn : List (Nat × Addr)} {tg a b e : Expr} {elts : List Expr} {p pos tpos : Pos} {kk : Nat}
theorem i_seq {f : DW} (h : PEw X pn e f) : PIi X pn tg e (iSeq f) := piMono (piOr (piOr (pi_list h) (pi_tup h)) (pi_str h)) fun _ _ _ => rdI_seq
theorem vlen1 {f : DW} {σd : SD} {ds : List D} {σ1 : SD} (h : vCons f vNil σd = some (ds, σ1)) : ds.length = 1 := by
  unfold vCons at h
  split at h
  · split at h
    · rename_i e2; cases h; cases e2; rfl
    · cases h
  · cases h
theorem vlen2 {f g : DW} {σd : SD} {ds : List D} {σ1 : SD} (h : vCons f (vCons g vNil) σd = some (ds, σ1)) : ds.length = 2 := by
  unfold vCons at h
  split at h
  · split at h
    · rename_i e2
      cases h
      simpa using vlen1 e2
    · cases h
  · cases h
theorem i_range1 {f : DW} (hg : Gl X "range") (hm : X.mg "range" = none) (ha : PEw X pn a f) (hs : starEach [a] X.env = (false, eval a X.env) :: starEach [] X.env) : PIi X pn tg (.Call (.Name "range" p) [a] [] pos) (iRange (vCons f vNil)) :=
  piMono (pi_range1 hg hm (pv_cons ha pv_nil hs) hs) fun _ _ _ h => rdI_range1 h fun _ _ _ => vlen1
theorem i_range2 {f g : DW} (hg : Gl X "range") (hm : X.mg "range" = none) (ha : PEw X pn a f) (hb : PEw X pn b g) (hs : starEach [a, b] X.env = (false, eval a X.env) :: starEach [b] X.env) (hs' : starEach [b] X.env = (false, eval b X.env) :: starEach [] X.env) : PIi X pn tg (.Call (.Name "range" p) [a, b] [] pos) (iRange (vCons f (vCons g vNil))) :=
  piMono (pi_range2 hg hm (pv_cons ha (pv_cons hb pv_nil hs') hs) (by rw [hs, hs']; rfl) (by rw [hs']; rfl)) fun _ _ _ h => rdI_range2 h fun _ _ _ => vlen2
theorem i_zip {f g : DW} (hg : Gl X "zip") (hm : X.mg "zip" = none) (ha : PEw X pn a f) (hb : PEw X pn b g) (hs : starEach [a, b] X.env = (false, eval a X.env) :: starEach [b] X.env) (hs' : starEach [b] X.env = (false, eval b X.env) :: starEach [] X.env) : PIi X pn (.Tuple elts kk tpos) (.Call (.Name "zip" p) [a, b] [] pos) (iZip (vCons f (vCons g vNil))) :=
  piMono (RZ.pi_zipA hg hm (pv_cons ha (pv_cons hb pv_nil hs') hs) hs (by rw [hs']; rfl)) fun _ _ _ h => rdI_zip h
theorem i_range3 {c : Expr} {f g h : DW} (hg : Gl X "range") (hm : X.mg "range" = none) (ha : PEw X pn a f) (hb : PEw X pn b g) (hc : PEw X pn c h) (hs : starEach [a, b, c] X.env = (false, eval a X.env) :: starEach [b, c] X.env) (hs' : starEach [b, c] X.env = (false, eval b X.env) :: starEach [c] X.env) (hs'' : starEach [c] X.env = (false, eval c X.env) :: starEach [] X.env) : PIi X pn tg (.Call (.Name "range" p) [a, b, c] [] pos) (iRange3 (vCons f (vCons g (vCons h vNil)))) :=
  piMono (pi_range3 hg hm (pv_cons ha (pv_cons hb (pv_cons hc pv_nil hs'') hs') hs) hs (by rw [hs', hs'']; rfl)) fun _ _ _ h => rdI_range3 h
theorem i_zip3 {c : Expr} {f g h : DW} (hg : Gl X "zip") (hm : X.mg "zip" = none) (ha : PEw X pn a f) (hb : PEw X pn b g) (hc : PEw X pn c h) (hs : starEach [a, b, c] X.env = (false, eval a X.env) :: starEach [b, c] X.env) (hs' : starEach [b, c] X.env = (false, eval b X.env) :: starEach [c] X.env) (hs'' : starEach [c] X.env = (false, eval c X.env) :: starEach [] X.env) : PIi X pn (.Tuple elts kk tpos) (.Call (.Name "zip" p) [a, b, c] [] pos) (iZip3 (vCons f (vCons g (vCons h vNil)))) :=
  piMono (pi_zip3A hg hm (pv_cons ha (pv_cons hb (pv_cons hc pv_nil hs'') hs') hs) hs (by rw [hs', hs'']; rfl)) fun _ _ _ h => rdI_zip3 h
theorem i_enum {f : DW} (hg : Gl X "enumerate") (hm : X.mg "enumerate" = none) (ha : PEw X pn a f) (hs : starEach [a] X.env = (false, eval a X.env) :: starEach [] X.env) : PIi X pn (.Tuple elts kk tpos) (.Call (.Name "enumerate" p) [a] [] pos) (iEnum (vCons f vNil)) :=
  piMono (piOr (pi_enum hg hm (pv_cons ha pv_nil hs) hs) (pi_enumT hg hm (pv_cons ha pv_nil hs) hs)) fun _ _ _ h => rdI_enum h
end
end Ev
end
/-! ## Ev5 -/
section
set_option Elab.async false
set_option linter.all false
set_option maxRecDepth 100000
set_option maxHeartbeats 1000000
/-! Ev5: list comprehensions; statements. -/
namespace Ev
open PySem L2

/-! ### wiped slots -/
def wipeD (σd : SD) : List Nat → SD
  | [] => σd
  | v :: vs => (wipeD σd vs).set v none
def backD (σ0 σd : SD) : List Nat → SD
  | [] => σd
  | v :: vs => (backD σ0 σd vs).set v (match σ0[v]? with | some x => x | none => none)
section
variable {K : Kp} {F : Hp} {σd : SD} {σ : L2.St} {H : Hp}
theorem Rl.wipe (R : Rl K F σd σ H) : ∀ vs : List Nat, (∀ i ∈ vs, K.free i) → Rl K F (wipeD σd vs) (L2.wipe σ vs) H
  | [], _ => R
  | v :: vs, h => (Rl.wipe R vs fun i hi => h i (List.mem_cons_of_mem _ hi)).unset v (h v List.mem_cons_self) none
theorem ownAt_wipe {b : Addr} : ∀ {vs : List Nat}, OwnAt (wipeD σd vs) (L2.wipe σ vs) b → OwnAt σd σ b
  | [], h => h
  | v :: vs, h => ownAt_wipe (vs := vs) (ownAt_set (fun _ z => by cases z) h)
theorem wipe_eq {σ σ' : L2.St} {vs : List Nat} (hl : σ'.length = σ.length) (h : ∀ j, j ∉ vs → σ'[j]? = σ[j]?) : L2.wipe σ' vs = L2.wipe σ vs := by
  refine List.ext_getElem? fun j => ?_
  by_cases hj : j ∈ vs
  · have key : ∀ (τ : L2.St) (ws : List Nat), j ∈ ws → (L2.wipe τ ws)[j]? = if j < τ.length then some none else none := by
      intro τ ws
      induction ws with
      | nil => intro h; cases h
      | cons w ws ih =>
        intro hm
        unfold L2.wipe
        by_cases e : w = j
        · subst e
          by_cases hl : w < (L2.wipe τ ws).length
          · rw [List.getElem?_set_self hl, if_pos (by rw [wipe_length] at hl; exact hl)]
          · rw [List.getElem?_eq_none (by simpa using hl), if_neg (by rw [wipe_length] at hl; exact hl)]
        · rw [List.getElem?_set_ne e]
          exact ih ((List.mem_cons.mp hm).resolve_left fun z => e z.symm)
    rw [key σ' vs hj, key σ vs hj, hl]
  · rw [wipe_out hj, wipe_out hj]
    exact h j hj
theorem wipeD_len : ∀ vs : List Nat, (wipeD σd vs).length = σd.length
  | [] => rfl
  | v :: vs => by unfold wipeD; rw [List.length_set, wipeD_len vs]
theorem backD_len {σ0 : SD} : ∀ vs : List Nat, (backD σ0 σd vs).length = σd.length
  | [] => rfl
  | v :: vs => by unfold backD; rw [List.length_set, backD_len vs]
theorem backD_get {σ0 : SD} {j : Nat} {s : Sl} : ∀ {vs : List Nat}, (backD σ0 σd vs)[j]? = some (some s) → (j ∈ vs ∧ σ0[j]? = some (some s)) ∨ (j ∉ vs ∧ σd[j]? = some (some s))
  | [], h => .inr ⟨by simp, h⟩
  | v :: vs, h => by
    unfold backD at h
    rcases get_set h with ⟨rfl, e, _⟩ | ⟨nj, h⟩
    · left
      refine ⟨List.mem_cons_self, ?_⟩
      split at e
      · rename_i x hx
        rw [hx, ← e]
      · cases e
    · rcases backD_get (vs := vs) h with ⟨h1, h2⟩ | ⟨h1, h2⟩
      · exact .inl ⟨List.mem_cons_of_mem _ h1, h2⟩
      · exact .inr ⟨fun z => (List.mem_cons.mp z).elim nj h1, h2⟩
/-- no slot of these is owned -/
def freeD (σd : SD) : List Nat → Bool
  | [] => true
  | v :: vs => (match σd[v]? with | some (some ⟨true, _⟩) => false | _ => true) && freeD σd vs
theorem freeD_get {j : Nat} {d : D} : ∀ {vs : List Nat}, freeD σd vs = true → j ∈ vs → σd[j]? ≠ some (some ⟨true, d⟩)
  | v :: vs, h, hm => by
    unfold freeD at h
    rw [Bool.and_eq_true] at h
    rcases List.mem_cons.mp hm with rfl | hm
    · intro e
      rw [e] at h
      exact absurd h.1 (by simp)
    · exact freeD_get h.2 hm
/-- behind the block: the slots as they were -/
theorem Rl.back {σ1 : SD} {F1 H1 : Hp} (R1 : Rl K F1 σ1 σ H1) {vs : List Nat} (hf : freeD σ1 vs = true) (ff : Ex F1 F) (R : Rl K F σd (L2.wipe σ vs) H) : Rl K F (backD σ1 σd vs) σ H := by
  have hl := R.len
  have hl1 := R1.len
  rw [wipe_length] at hl
  refine ⟨R.fh, by rw [backD_len]; exact hl, fun j d q => ?_, fun j d q => ?_, fun j k d e b q1 q2 q3 q4 => ?_, R1.pin⟩
  · rcases backD_get q with ⟨_, q⟩ | ⟨hj, q⟩
    · obtain ⟨v, h1, h2⟩ := R1.shr j d q
      exact ⟨v, h1, Dp.mono ff h2⟩
    · obtain ⟨v, h1, h2⟩ := R.shr j d q
      exact ⟨v, by rw [wipe_out hj] at h1; exact h1, h2⟩
  · rcases backD_get q with ⟨hj, q⟩ | ⟨hj, q⟩
    · exact (freeD_get hf hj q).elim
    · obtain ⟨a, o, h1, h2⟩ := R.own j d q
      exact ⟨a, o, by rw [wipe_out hj] at h1; exact h1, h2⟩
  · rcases backD_get q1 with ⟨hj, q1⟩ | ⟨hj, q1⟩
    · exact (freeD_get hf hj q1).elim
    · rcases backD_get q2 with ⟨hk, q2⟩ | ⟨hk, q2⟩
      · exact (freeD_get hf hk q2).elim
      · exact R.sep j k d e b q1 q2 (by rw [wipe_out hj]; exact q3) (by rw [wipe_out hk]; exact q4)
theorem ownAt_back {σ1 : SD} {vs : List Nat} (hf : freeD σ1 vs = true) {b : Addr} (h : OwnAt (backD σ1 σd vs) σ b) : OwnAt σd (L2.wipe σ vs) b := by
  obtain ⟨j, d, h1, h2⟩ := h
  rcases backD_get h1 with ⟨hj, q⟩ | ⟨hj, q⟩
  · exact (freeD_get hf hj q).elim
  · exact ⟨j, d, q, by rw [wipe_out hj]; exact h2⟩
/-- a hidden object changes -/
theorem Rl.hid (R : Rl K F σd σ H) {A : Addr} {o : HO} (hf : F A = none) (hn : ¬ OwnAt σd σ A) : Rl K F σd σ (upd H A o) := by
  refine ⟨fun b u q => ?_, R.len, R.shr, fun i d q => ?_, R.sep, R.pin⟩
  · rw [upd_ne (ne_of_none q hf)]
    exact R.fh b u q
  · obtain ⟨a, o', h1, h2, h3, h4⟩ := R.own i d q
    refine ⟨a, o', h1, h2, ?_, h4⟩
    rw [upd_ne fun z => hn ⟨i, d, q, by rw [← z]; exact h1⟩]
    exact h3
theorem Go.hid {F0 : Hp} {σd0 : SD} {σ0 : L2.St} {H0 : Hp} (g : Go F0 σd0 σ0 H0 F σd σ H) {A : Addr} {o : HO} (h0 : H0 A = none) : Go F0 σd0 σ0 H0 F σd σ (upd H A o) := by
  have ne : ∀ b u, H0 b = some u → b ≠ A := fun b u q => ne_of_none q h0
  refine ⟨g.ff, fun b u q n => ?_, g.fnew, g.own, fun b u q => ?_⟩
  · rw [upd_ne (ne b u q)]; exact g.keep b u q n
  · rw [upd_ne (ne b u q)]; exact g.there b u q
end

/-! ### [elt for p in it if c] -/
def lcLoop (p : Pat) (c : DT) (elt : DW) (own : List Nat) : List D → SD → Option (List D × SD)
  | [], σ => some ([], σ)
  | d :: ds, σ => match bindP p d σ with
    | some σ1 => match c σ1 with
      | some (true, σ2) => match elt σ2 with
        | some (e, σ3) => match lcLoop p c elt own ds (wipeD σ3 own) with
          | some (es, σ4) => some (e :: es, σ4)
          | none => none
        | none => none
      | some (false, σ2) => lcLoop p c elt own ds (wipeD σ2 own)
      | none => none
    | none => none
def fLc (it : DV) (p : Pat) (c : DT) (elt : DW) (own : List Nat) : DE := fun σd => match it σd with
  | some (ds, σ1) => if (freeD σ1 own && okLen ds.length) = true then
      match lcLoop p c elt own ds (wipeD σ1 own) with
      | some (es, σ2) => some (true, .list es, backD σ1 σ2 own)
      | none => none
    else none
  | none => none
def tYesD : DT := fun σd => some (true, σd)
section
variable {K : Kp} {σ : L2.St} {H : Hp}
theorem rdT_yes {Q : Bool → Hp → Prop} (h : rdT K tYesD σ H Q) : tYes σ H Q := by
  obtain ⟨F, σd, R, b, σd', e, k⟩ := h
  cases e
  exact k F H R (Go.refl _ _ _ _)
theorem rd_lc {it : DV} {p : Pat} {c : DT} {elt : DW} {own : List Nat} (hp : ∀ j ∈ p.slots, j ∈ own) (hfr : ∀ i ∈ own, K.free i) {Q : VK} (h : rdE K (fLc it p c elt own) σ H Q) :
    tLc (rdI K it) (rdG K p) (rdT K c) (rdW K elt) own σ H Q := by
  obtain ⟨F, σd, R, fr, d, σd', e, k⟩ := h
  unfold fLc at e
  split at e
  · rename_i ds σ1 e1
    split at e
    · rename_i hb
      rw [Bool.and_eq_true] at hb
      split at e
      · rename_i es σ2 e2
        cases e
        refine ⟨F, σd, R, ds, σ1, e1, fun F1 H1 J R1 g1 itd D hD => ?_⟩
        have RW0 := R1.wipe own hfr
        have hF1D : F1 D = none := R1.fh.none hD
        have nOwn1 : ¬ OwnAt σ1 σ D := fun ⟨i, d', q1, q2⟩ => by
          obtain ⟨a, o, h1, _, h3, _⟩ := R1.own i d' q1
          rw [q2] at h1; cases h1
          rw [hD] at h3; cases h3
        let st (Fc : Hp) (σc : SD) (Hc : Hp) : Prop := Rl K Fc σc (L2.wipe σ own) Hc ∧ Go F1 (wipeD σ1 own) (L2.wipe σ own) H1 Fc σc (L2.wipe σ own) Hc ∧ Fc D = none ∧ ¬ OwnAt σc (L2.wipe σ own) D
        refine ⟨fun i m Hc => m = ds.length - i ∧ i ≤ ds.length ∧ ∃ Fc σc accV accD rest, st Fc σc Hc ∧ Hc D = some (.lst accV) ∧ DpAll K Fc accV accD ∧ accV.length ≤ i ∧ lcLoop p c elt own (ds.drop i) σc = some (rest, σ2) ∧ accD ++ rest = es, ⟨ds.length, by omega, Nat.zero_le _, F1, wipeD σ1 own, [], [], es, ?_, upd_same, .nil, Nat.le_refl _, by simpa using e2, rfl⟩, ?_⟩
        · refine ⟨RW0.hid hF1D fun q => nOwn1 (ownAt_wipe q), (Go.refl _ _ _ _).hid hD, hF1D, fun q => nOwn1 (ownAt_wipe q)⟩
        · rintro i m Hc ⟨rfl, hi, Fc, σc, accV, accD, rest, ⟨Rc, gc, hFD, nO⟩, hHD, hacc, hlen, hloop, hes⟩
          have eF1 : Ex F1 Hc := gc.ff.trans Rc.fh
          by_cases hlt : i < ds.length
          · refine .inr ⟨itd.go i Hc eF1 hlt, _, fun H' N => ⟨ds.length - (i + 1), by omega, rfl, hlt, N⟩, fun x H' y => ?_⟩
            have hd : ds[i]? = some ds[i] := by simp [hlt]
            obtain ⟨F2, gr, hx⟩ := itd.yld i Fc Hc x H' _ gc.ff Rc.fh hd y
            have R2 := gr.rl Rc
            have g2 : Go F1 (wipeD σ1 own) (L2.wipe σ own) H1 F2 σc (L2.wipe σ own) H' := gc.trans gr.go
            have hF2D : F2 D = none := by
              cases q : F2 D with
              | none => rfl
              | some u =>
                rcases gr.fnew D u q with q | q
                · rw [hFD] at q; cases q
                · rw [hHD] at q; cases q
            have hH2D : H' D = some (.lst accV) := gr.hh D _ hHD
            rw [List.drop_eq_getElem_cons hlt] at hloop
            unfold lcLoop at hloop
            split at hloop
            · rename_i σb eb
              -- the rest of a turn: from a state behind the store, the list not grown
              have after : ∀ (τ : L2.St) (Fx : Hp) (σx : SD) (Hx : Hp), L2.wipe τ own = L2.wipe σ own → Rl K Fx σx τ Hx → Go F2 σc (L2.wipe σ own) H' Fx σx τ Hx →
                  st Fx (wipeD σx own) Hx ∧ Hx D = some (.lst accV) ∧ Ex F2 Fx := fun τ Fx σx Hx hw Rx gx => by
                have Rw := Rx.wipe own hfr
                have gw : Go Fx σx τ Hx Fx (wipeD σx own) (L2.wipe τ own) Hx := go_slots fun b q => ownAt_wipe q
                rw [hw] at Rw gw
                have gt := (g2.trans gx).trans gw
                refine ⟨⟨Rw, gt, ?_, fun q => ?_⟩, gx.keep D _ hH2D fun q => nO q, gx.ff⟩
                · cases q : Fx D with
                  | none => rfl
                  | some u =>
                    rcases gx.fnew D u q with q | q | q
                    · rw [hF2D] at q; cases q
                    · rw [hH2D] at q; cases q
                    · exact (nO q).elim
                · rcases (gx.trans gw).own D q with q | q
                  · exact nO q
                  · rw [hH2D] at q; cases q
              refine ⟨F2, σc, _, R2, hx, σb, eb, fun τ Rb gb hτl hτ => ⟨wipe_eq_of hτl hτ hp, ?_⟩⟩
              have hw : L2.wipe τ own = L2.wipe σ own := wipe_eq_of hτl hτ hp
              split at hloop
              · rename_i σt et
                split at hloop
                · rename_i en σn een
                  split at hloop
                  · rename_i rest' σr er
                    cases hloop
                    refine ⟨F2, σb, Rb, true, _, et, fun F3 H3 R3 g3 => ?_⟩
                    refine PyProof.Rows.ite_tt ?_
                    refine ⟨F3, σt, R3, en, _, een, fun F4 H4 yv R4 g4 hy => ?_⟩
                    obtain ⟨⟨Rw, gw, hF4, nO4⟩, hH4, ff4⟩ := after τ F4 σn H4 hw R4 ((gb.trans g3).trans g4)
                    refine ⟨accV, hH4, ?_, F4, _, accV ++ [yv], accD ++ [en], rest', ⟨Rw.hid hF4 nO4, gw.hid hD, hF4, nO4⟩, upd_same, DpAll.append (DpAll.mono ff4 (DpAll.mono gr.ff hacc)) (.cons hy .nil), ?_, er, by rw [← hes]; simp⟩
                    · have := Nat.le_of_ble_eq_true hb.2
                      exact Nat.lt_of_le_of_lt (show accV.length ≤ 1000000 by omega) (by decide)
                    · simp; omega
                  · cases hloop
                · cases hloop
              · rename_i σt et
                refine ⟨F2, σb, Rb, false, _, et, fun F3 H3 R3 g3 => ?_⟩
                refine PyProof.Rows.ite_ff ?_
                obtain ⟨⟨Rw, gw, hF4, nO4⟩, hH4, ff4⟩ := after τ F3 σt H3 hw R3 (gb.trans g3)
                exact ⟨F3, _, accV, accD, rest, ⟨Rw, gw, hF4, nO4⟩, hH4, DpAll.mono ff4 (DpAll.mono gr.ff hacc), by omega, hloop, hes⟩
              · cases hloop
            · cases hloop
          · have ei : i = ds.length := by omega
            subst ei
            rw [List.drop_length] at hloop
            cases hloop
            refine .inl ⟨itd.stop Hc eF1, ?_⟩
            rw [List.append_nil] at hes
            subst hes
            have gB : Go F1 σ1 σ H1 Fc (backD σ1 σ2 own) σ Hc := by
              refine ⟨gc.ff, fun b u q n => gc.keep b u q fun z => n (ownAt_wipe z), fun b u q => ?_, fun b q => ?_, gc.there⟩
              · rcases gc.fnew b u q with z | z | z
                · exact .inl z
                · exact .inr (.inl z)
                · exact .inr (.inr (ownAt_wipe z))
              · rcases gc.own b (ownAt_back hb.1 q) with z | z
                · exact .inl (ownAt_wipe z)
                · exact .inr z
            exact k Fc Hc (.ref D) (Rl.back R1 hb.1 gc.ff Rc) (g1.trans gB) ⟨D, _, rfl, g1.back hD, hFD, hHD, hacc, fun q => nO (ownAt_back hb.1 q)⟩
      · cases e
    · cases e
  · cases e
where
  wipe_eq_of {σ τ : L2.St} {own : List Nat} {p : Pat} (hl : τ.length = (L2.wipe σ own).length) (h : ∀ j, j ∉ p.slots → τ[j]? = (L2.wipe σ own)[j]?) (hp : ∀ j ∈ p.slots, j ∈ own) : L2.wipe τ own = L2.wipe σ own := by
    refine wipe_eq (by rw [hl, wipe_length]) fun j hj => ?_
    rw [h j fun z => hj (hp j z), wipe_out hj]
end
abbrev PTst (X : Cx) (pn : List (Nat × Addr)) (ifs : List Expr) (f : DT) : Prop := PTs X ifs (rdT ⟨X.K, pn⟩ f)
section
variable {X : Cx} {pn : List (Nat × Addr)} {elt tg iter c : Expr} {ifs : List Expr} {scope : Scope} {own : List (Str × Nat)} {pos : Pos}
theorem ptsMono {t t' : TT} (h : PTs X ifs t) (m : ∀ σ H Q, t' σ H Q → t σ H Q) : PTs X ifs t' := ⟨fun pins s σ H Q I q => h.run pins s σ H Q I (m σ H Q q)⟩
theorem ts_nil : PTst X pn [] tYesD := ptsMono pts_nil fun _ _ _ => rdT_yes
theorem ts_one {t : DT} (h : PTt X pn c t) : PTst X pn [c] t := pts_one h
theorem e_lc {it : DV} {p : Pat} {ct : DT} {fe : DW} (hc : X.calm = true) (hN : X.N.Nodup) (hi : PIi X pn tg iter it) (ok : BlkOk X.N X.env.scope scope own) (hp : ∀ j ∈ p.slots, j ∈ own.map (·.2)) (hfr : ∀ i ∈ own.map (·.2), Kp.free ⟨X.K, pn⟩ i)
    (hg : ∀ (s : Shared) (H : Hp) (C : Addr) (cl : List (Str × Addr)) (fp : List Addr), PGp (X.blk s H scope (compEnvC scope cl C X.env) fp) pn tg p)
    (ht : ∀ (s : Shared) (H : Hp) (C : Addr) (cl : List (Str × Addr)) (fp : List Addr), PTst (X.blk s H scope (compEnvC scope cl C X.env) fp) pn ifs ct)
    (he : ∀ (s : Shared) (H : Hp) (C : Addr) (cl : List (Str × Addr)) (fp : List Addr), PEw (X.blk s H scope (compEnvC scope cl C X.env) fp) pn elt fe) (hs : ∀ x, foldedSetIterable iter X.env x = pure x) :
    PEe X pn (.ListComp elt [⟨tg, iter, ifs, 0⟩] scope pos) (fLc it p ct fe (own.map (·.2))) :=
  peMono (pe_lc hc hN hi ok hg ht he hs) fun _ _ _ => rd_lc hp hfr
end
end Ev
end
/-! ## Ev6 -/
section
set_option Elab.async false
set_option linter.all false
set_option maxRecDepth 100000
set_option maxHeartbeats 1000000
/-! Ev6: statements. -/
namespace Ev
open PySem L2

inductive Fl where
  | next | brk | cont
  | ret (fr : Bool) (d : D)
abbrev DS := SD → Option (Fl × SD)
/-- what is returned: new since H, or owned there -/
def RetR (K : PySem.W.Frag) (σd : SD) (σ : L2.St) (H F' : Hp) (σd' : SD) (σ' : L2.St) (H' : Hp) (fr : Bool) (d : D) (v : V) : Prop :=
  match fr with
  | false => Dp K F' v d
  | true => ∃ a o, v = .ref a ∧ (H a = none ∨ OwnAt σd σ a) ∧ F' a = none ∧ H' a = some o ∧ Hold K F' o d ∧ ¬ OwnAt σd' σ' a
def Post (K : Kp) (F : Hp) (σd : SD) (σ : L2.St) (H : Hp) (De : Ends) (fl : Fl) (σd' : SD) : Prop :=
  match fl with
  | .next => ∀ F' σ' H', Rl K F' σd' σ' H' → Go F σd σ H F' σd' σ' H' → De.nx σ' H'
  | .brk => ∀ F' σ' H', Rl K F' σd' σ' H' → Go F σd σ H F' σd' σ' H' → De.bk σ' H'
  | .cont => ∀ F' σ' H', Rl K F' σd' σ' H' → Go F σd σ H F' σd' σ' H' → De.ct σ' H'
  | .ret fr d => ∀ F' σ' H' v, Rl K F' σd' σ' H' → Go F σd σ H F' σd' σ' H' → RetR K σd σ H F' σd' σ' H' fr d v → De.rt v H'
def rdS (K : Kp) (f : DS) : TS := fun De σ H => ∃ F σd, Rl K F σd σ H ∧ ∃ fl σd', f σd = some (fl, σd') ∧ Post K F σd σ H De fl σd'
abbrev PSd (X : Cx) (pn : List (Nat × Addr)) (s : Stmt) (f : DS) : Prop := PS X s (rdS ⟨X.K, pn⟩ f)
abbrev PSsd (X : Cx) (pn : List (Nat × Addr)) (s : List Stmt) (f : DS) : Prop := PSs X s (rdS ⟨X.K, pn⟩ f)
section
variable {K : Kp} {σ : L2.St} {H : Hp} {De : Ends}
theorem Post.go {F : Hp} {σd : SD} {F1 : Hp} {σd1 : SD} {σ1 : L2.St} {H1 : Hp} {fl : Fl} {σd' : SD} (g : Go F σd σ H F1 σd1 σ1 H1) (h : Post K F σd σ H De fl σd') : Post K F1 σd1 σ1 H1 De fl σd' := by
  cases fl with
  | next => exact fun F' σ' H' R q => h F' σ' H' R (g.trans q)
  | brk => exact fun F' σ' H' R q => h F' σ' H' R (g.trans q)
  | cont => exact fun F' σ' H' R q => h F' σ' H' R (g.trans q)
  | ret fr d =>
    intro F' σ' H' v R q r
    refine h F' σ' H' v R (g.trans q) ?_
    cases fr with
    | false => exact r
    | true =>
      obtain ⟨a, o, e, h0, h1⟩ := r
      refine ⟨a, o, e, ?_, h1⟩
      rcases h0 with h0 | h0
      · exact .inl (g.back h0)
      · exact (g.own a h0).symm
def fNext : DS := fun σd => some (.next, σd)
def fBrk : DS := fun σd => some (.brk, σd)
def fCont : DS := fun σd => some (.cont, σd)
theorem rd_next (h : rdS K fNext De σ H) : tNext De σ H := by
  obtain ⟨F, σd, R, fl, σd', e, k⟩ := h
  cases e
  exact k F σ H R (Go.refl _ _ _ _)
theorem rd_brk (h : rdS K fBrk De σ H) : tBreak De σ H := by
  obtain ⟨F, σd, R, fl, σd', e, k⟩ := h
  cases e
  exact k F σ H R (Go.refl _ _ _ _)
theorem rd_cont (h : rdS K fCont De σ H) : tCont De σ H := by
  obtain ⟨F, σd, R, fl, σd', e, k⟩ := h
  cases e
  exact k F σ H R (Go.refl _ _ _ _)
def fStuck : DS := fun _ => none
theorem rd_stuck (h : rdS K fStuck De σ H) : tNever De σ H := by
  obtain ⟨F, σd, R, fl, σd', e, k⟩ := h
  cases e
def fSeq (f g : DS) : DS := fun σd => match f σd with
  | some (.next, σ1) => g σ1
  | r => r
theorem rd_seq {f g : DS} (h : rdS K (fSeq f g) De σ H) : tSeq (rdS K f) (rdS K g) De σ H := by
  obtain ⟨F, σd, R, fl, σd', e, k⟩ := h
  unfold fSeq at e
  split at e
  · rename_i σ1 e1
    exact ⟨F, σd, R, .next, σ1, e1, fun F1 σ1' H1 R1 g1 => ⟨F1, σ1, R1, fl, σd', e, k.go g1⟩⟩
  · rename_i n1
    refine ⟨F, σd, R, fl, σd', e, ?_⟩
    cases fl with
    | next => exact (n1 _ e).elim
    | brk => exact k
    | cont => exact k
    | ret fr d => exact k
def fDrop (f : DE) : DS := fun σd => match f σd with
  | some (_, _, σ1) => some (.next, σ1)
  | none => none
theorem rd_drop {f : DE} (h : rdS K (fDrop f) De σ H) : tDrop (rdE K f) De σ H := by
  obtain ⟨F, σd, R, fl, σd', e, k⟩ := h
  unfold fDrop at e
  split at e
  · rename_i fr d σ1 e1
    cases e
    exact ⟨F, σd, R, fr, d, _, e1, fun F1 H1 v R1 g1 _ => k F1 σ H1 R1 g1⟩
  · cases e
/-- return e, e no name -/
def fRet (f : DE) : DS := fun σd => match f σd with
  | some (fr, d, σ1) => some (.ret fr d, σ1)
  | none => none
theorem rd_ret {f : DE} (h : rdS K (fRet f) De σ H) : tRet (rdE K f) De σ H := by
  obtain ⟨F, σd, R, fl, σd', e, k⟩ := h
  unfold fRet at e
  split at e
  · rename_i fr d σ1 e1
    cases e
    refine ⟨F, σd, R, fr, d, _, e1, fun F1 H1 v R1 g1 r => k F1 σ H1 v R1 g1 ?_⟩
    cases fr with
    | false => exact r
    | true =>
      obtain ⟨a, o, e, h0, hf, hh, ho, hn⟩ := r
      exact ⟨a, o, e, .inl h0, hf, hh, ho, hn⟩
  · cases e
/-- a slot is forgotten -/
theorem Rl.lose {F : Hp} {σd : SD} (R : Rl K F σd σ H) (i : Nat) : Rl K F (σd.set i none) σ H := by
  refine ⟨R.fh, by simpa using R.len, fun j e q => ?_, fun j e q => ?_, fun j k e e' b q1 q2 q3 q4 => ?_, R.pin⟩
  · rcases get_set q with ⟨rfl, e1, hi⟩ | ⟨nj, q⟩
    · cases e1
    · exact R.shr j e q
  · rcases get_set q with ⟨rfl, e1, hi⟩ | ⟨nj, q⟩
    · cases e1
    · exact R.own j e q
  · rcases get_set q1 with ⟨rfl, e1, hi⟩ | ⟨nj, q1⟩
    · cases e1
    · rcases get_set q2 with ⟨rfl, e1, hi⟩ | ⟨nk, q2⟩
      · cases e1
      · exact R.sep j k e e' b q1 q2 q3 q4
/-- return x: what the slot owns goes out -/
def fRetN (i : Nat) : DS := fun σ1 => match σ1[i]? with
    | some (some ⟨false, d⟩) => some (.ret false d, σ1)
    | some (some ⟨true, d⟩) => some (.ret true d, σ1.set i none)
    | _ => none
theorem rd_retN {i : Nat} (h : rdS K (fRetN i) De σ H) : tRet (tVar i) De σ H := by
  obtain ⟨F1, σ1, R1, fl, σd', e, k⟩ := h
  unfold fRetN at e
  split at e
  · rename_i d e2
    cases e
    obtain ⟨v, h1, h2⟩ := R1.shr i d e2
    exact ⟨v, h1, k F1 σ H v R1 (Go.refl _ _ _ _) h2⟩
  · rename_i d e2
    cases e
    obtain ⟨a, o, ok, h2, h3, h4⟩ := R1.own i d e2
    have own1 : OwnAt σ1 σ a := ⟨i, d, e2, ok⟩
    have R2 : Rl K F1 (σ1.set i none) σ H := R1.lose i
    have sub : ∀ b, OwnAt (σ1.set i none) σ b → OwnAt σ1 σ b ∧ b ≠ a := fun b ⟨j, d', q1, q2⟩ => by
      rcases get_set q1 with ⟨rfl, e, _⟩ | ⟨nj, q1⟩
      · cases e
      · refine ⟨⟨j, d', q1, q2⟩, ?_⟩
        rintro rfl
        exact nj (R1.sep j i d' d b q1 e2 q2 ok)
    exact ⟨_, ok, k F1 σ H _ R2 (go_slots fun b q => (sub b q).1) ⟨a, o, rfl, .inr own1, h2, h3, h4, fun q => (sub a q).2 rfl⟩⟩
  · cases e
def fRet0 : DS := fun σd => some (.ret false .none, σd)
theorem rd_ret0 (h : rdS K fRet0 De σ H) : tRetN De σ H := by
  obtain ⟨F, σd, R, fl, σd', e, k⟩ := h
  cases e
  exact k F σ H .non R (Go.refl _ _ _ _) .non
def fIfS (t : DT) (f g : DS) : DS := fun σd => match t σd with
  | some (true, σ1) => f σ1
  | some (false, σ1) => g σ1
  | none => none
theorem rd_ifS {t : DT} {f g : DS} (h : rdS K (fIfS t f g) De σ H) : tIfS (rdT K t) (rdS K f) (rdS K g) De σ H := by
  obtain ⟨F, σd, R, fl, σd', e, k⟩ := h
  unfold fIfS at e
  split at e
  · rename_i σ1 e1
    refine ⟨F, σd, R, true, _, e1, fun F1 H1 R1 g1 => PyProof.Rows.ite_tt ?_⟩
    exact ⟨F1, σ1, R1, fl, σd', e, k.go g1⟩
  · rename_i σ1 e1
    refine ⟨F, σd, R, false, _, e1, fun F1 H1 R1 g1 => PyProof.Rows.ite_ff ?_⟩
    exact ⟨F1, σ1, R1, fl, σd', e, k.go g1⟩
  · cases e
/-- x = e -/
def fAsg (i : Nat) (f : DE) : DS := fun σd => match f σd with
  | some (fr, d, σ1) => some (.next, σ1.set i (some ⟨fr, d⟩))
  | none => none
theorem rd_asg {i : Nat} {f : DE} (hfr : K.free i) (h : rdS K (fAsg i f) De σ H) : tAsg (rdE K f) (gName i) De σ H := by
  obtain ⟨F, σd, R, fl, σd', e, k⟩ := h
  unfold fAsg at e
  split at e
  · rename_i fr d σ1 e1
    cases e
    refine ⟨F, σd, R, fr, d, σ1, e1, fun F1 H1 v R1 g1 r => ?_⟩
    cases fr with
    | false => exact k F1 _ H1 (R1.set i hfr r) (g1.trans (go_slots fun b q => ownAt_set (fun _ z => by cases z) q))
    | true =>
      obtain ⟨a, o, rfl, h0, hf, hh, ho, hn⟩ := r
      refine k F1 _ H1 (R1.setOwn i hfr hf hh ho hn) ⟨g1.ff, g1.keep, g1.fnew, fun b q => ?_, g1.there⟩
      rcases ownAt_setOwn q with q | rfl
      · exact g1.own b q
      · exact .inr h0
  · cases e
/-- (a, b) = e -/
def fUnp (p : Pat) (f : DW) : DS := fun σd => match f σd with
  | some (d, σ1) => match bindP p d σ1 with
    | some σ2 => some (.next, σ2)
    | none => none
  | none => none
theorem rd_unp {p : Pat} {f : DW} (h : rdS K (fUnp p f) De σ H) : tAsg (rdW K f) (rdG K p) De σ H := by
  obtain ⟨F, σd, R, fl, σd', e, k⟩ := h
  unfold fUnp at e
  split at e
  · rename_i d σ1 e1
    split at e
    · rename_i σ2 e2
      cases e
      exact ⟨F, σd, R, d, σ1, e1, fun F1 H1 v R1 g1 hd => ⟨F1, σ1, d, R1, .inl hd, _, e2, fun σ' R2 g2 _ _ => k F1 σ' H1 R2 (g1.trans g2)⟩⟩
    · cases e
  · cases e
/-- a, b = x, y -/
def fPar (i j : Nat) (f : DE) (g : DE) : DS := fun σd => match f σd with
  | some (fr, d, σ1) => match g σ1 with
    | some (fr', d', σ2) => some (.next, (σ2.set i (some ⟨fr, d⟩)).set j (some ⟨fr', d'⟩))
    | none => none
  | none => none
theorem rd_par {i j : Nat} {f g : DE} (hfi : K.free i) (hfj : K.free j) (hij : i ≠ j) (h : rdS K (fPar i j f g) De σ H) : tPar i j (tCons (rdE K f) (tCons (rdE K g) tNil)) De σ H := by
  obtain ⟨F, σd, R, fl, σd', e, k⟩ := h
  unfold fPar at e
  split at e
  · rename_i fr d σ1 e1
    split at e
    · rename_i fr' d' σ2 e2
      cases e
      refine ⟨F, σd, R, fr, d, σ1, e1, fun F1 H1 v R1 g1 r1 => ⟨F1, σ1, R1, fr', d', σ2, e2, fun F2 H2 w R2 g2 r2 => ⟨v, w, rfl, ?_⟩⟩⟩
      have G := g1.trans g2
      -- the first value at the end
      have h1 : (fr = false ∧ Dp K F2 v d) ∨ (fr = true ∧ ∃ a o, v = .ref a ∧ H a = none ∧ F2 a = none ∧ H2 a = some o ∧ Hold K F2 o d ∧ ¬ OwnAt σ2 σ a ∧ H1 a = some o) := by
        cases fr with
        | false => exact .inl ⟨rfl, Dp.mono g2.ff r1⟩
        | true =>
          obtain ⟨a, o, rfl, h0, hf, hh, ho, hn⟩ := r1
          obtain ⟨a', o', ea, hf', hh', ho', hn'⟩ := OpdOk.go (o := .tmp d) g2 ⟨a, o, rfl, hf, hh, ho, hn⟩
          cases ea
          exact .inr ⟨rfl, a, o', rfl, h0, hf', hh', ho', hn', by rw [g2.keep a o hh hn] at hh'; rw [hh]; exact hh'⟩
      rcases h1 with ⟨rfl, h1⟩ | ⟨rfl, a, o, rfl, h0, hf, hh, ho, hn, hH1⟩
      · have R3 := R2.set i hfi h1
        cases fr' with
        | false => exact k F2 _ H2 (R3.set j hfj r2) (G.trans (go_slots fun b q => ownAt_set (fun _ z => by cases z) (ownAt_set (fun _ z => by cases z) q)))
        | true =>
          obtain ⟨a, o, rfl, h0, hf, hh, ho, hn⟩ := r2
          refine k F2 _ H2 (R3.setOwn j hfj hf hh ho fun q => hn (ownAt_set (fun _ z => by cases z) q)) ⟨G.ff, G.keep, G.fnew, fun b q => ?_, G.there⟩
          rcases ownAt_setOwn q with q | rfl
          · exact G.own b (ownAt_set (fun _ z => by cases z) q)
          · exact .inr (g1.back h0)
      · have R3 := R2.setOwn i hfi hf hh ho hn
        cases fr' with
        | false =>
          refine k F2 _ H2 (R3.set j hfj r2) ⟨G.ff, G.keep, G.fnew, fun b q => ?_, G.there⟩
          rcases ownAt_setOwn (ownAt_set (fun _ z => by cases z) q) with q | rfl
          · exact G.own b q
          · exact .inr h0
        | true =>
          obtain ⟨a', o', rfl, h0', hf', hh', ho', hn'⟩ := r2
          have ne : a' ≠ a := by
            rintro rfl
            rw [hH1] at h0'; cases h0'
          refine k F2 _ H2 (R3.setOwn j hfj hf' hh' ho' fun q => ?_) ⟨G.ff, G.keep, G.fnew, fun b q => ?_, G.there⟩
          · rcases ownAt_setOwn q with q | q
            · exact hn' q
            · exact ne q
          · rcases ownAt_setOwn q with q | rfl
            · rcases ownAt_setOwn q with q | rfl
              · exact G.own b q
              · exact .inr h0
            · exact .inr (g1.back h0')
    · cases e
  · cases e
/-! ### loops -/
def forLoop (p : Pat) (body : DS) : List D → SD → Option (Fl × SD)
  | [], σ => some (.next, σ)
  | d :: ds, σ => match bindP p d σ with
    | some σ1 => match body σ1 with
      | some (.next, σ2) => forLoop p body ds σ2
      | some (.cont, σ2) => forLoop p body ds σ2
      | some (.brk, σ2) => some (.next, σ2)
      | some (.ret fr d, σ2) => some (.ret fr d, σ2)
      | none => none
    | none => none
def fFor (it : DV) (p : Pat) (body : DS) : DS := fun σd => match it σd with
  | some (ds, σ1) => forLoop p body ds σ1
  | none => none
theorem rd_for {it : DV} {p : Pat} {body : DS} (h : rdS K (fFor it p body) De σ H) : tFor (rdI K it) (rdG K p) (rdS K body) De σ H := by
  obtain ⟨F, σd, R, fl, σd', e, k⟩ := h
  unfold fFor at e
  split at e
  · rename_i ds σ1 e1
    refine ⟨F, σd, R, ds, σ1, e1, fun F1 H1 J R1 g1 itd => ?_⟩
    refine ⟨fun i m τ Hc => m = ds.length - i ∧ i ≤ ds.length ∧ ∃ Fc σc, Rl K Fc σc τ Hc ∧ Go F1 σ1 σ H1 Fc σc τ Hc ∧ forLoop p body (ds.drop i) σc = some (fl, σd'), ⟨ds.length, by omega, Nat.zero_le _, F1, σ1, R1, Go.refl _ _ _ _, by simpa using e⟩, ?_⟩
    rintro i m τ Hc ⟨rfl, hi, Fc, σc, Rc, gc, hl⟩
    have eF1 : Ex F1 Hc := gc.ff.trans Rc.fh
    by_cases hlt : i < ds.length
    · refine .inr ⟨itd.go i Hc eF1 hlt, _, fun σ' H' N => ⟨ds.length - (i + 1), by omega, rfl, hlt, N⟩, fun x H' y => ?_⟩
      have hd : ds[i]? = some ds[i] := by simp [hlt]
      obtain ⟨F2, gr, hx⟩ := itd.yld i Fc Hc x H' _ gc.ff Rc.fh hd y
      have R2 := gr.rl Rc
      have g2 : Go F1 σ1 σ H1 F2 σc τ H' := gc.trans gr.go
      rw [List.drop_eq_getElem_cons hlt] at hl
      unfold forLoop at hl
      split at hl
      · rename_i σb eb
        refine ⟨F2, σc, _, R2, hx, σb, eb, fun τ' Rb gb _ _ => ?_⟩
        have g3 := g2.trans gb
        split at hl
        · rename_i σn en
          exact ⟨F2, σb, Rb, .next, σn, en, fun F4 σ4 H4 R4 g4 => ⟨F4, σn, R4, g3.trans g4, hl⟩⟩
        · rename_i σn en
          exact ⟨F2, σb, Rb, .cont, σn, en, fun F4 σ4 H4 R4 g4 => ⟨F4, σn, R4, g3.trans g4, hl⟩⟩
        · rename_i σn en
          cases hl
          exact ⟨F2, σb, Rb, .brk, _, en, fun F4 σ4 H4 R4 g4 => k F4 σ4 H4 R4 ((g1.trans g3).trans g4)⟩
        · rename_i fr dd σn en
          cases hl
          exact ⟨F2, σb, Rb, .ret fr dd, _, en, k.go (g1.trans g3)⟩
        · cases hl
      · cases hl
    · have ei : i = ds.length := by omega
      subst ei
      rw [List.drop_length] at hl
      cases hl
      exact .inl ⟨itd.stop Hc eF1, k Fc τ Hc Rc (g1.trans gc)⟩
  · cases e
def fWhile (t : DT) (body : DS) : Nat → DS
  | 0, _ => none
  | n + 1, σd => match t σd with
    | some (true, σ1) => match body σ1 with
      | some (.next, σ2) => fWhile t body n σ2
      | some (.cont, σ2) => fWhile t body n σ2
      | some (.brk, σ2) => some (.next, σ2)
      | some (.ret fr d, σ2) => some (.ret fr d, σ2)
      | none => none
    | some (false, σ1) => some (.next, σ1)
    | none => none
theorem rd_while {t : DT} {body : DS} {n : Nat} (h : rdS K (fWhile t body n) De σ H) : tWhile (rdT K t) (rdS K body) De σ H := by
  obtain ⟨F, σd, R, fl, σd', e, k⟩ := h
  refine ⟨fun m τ Hc => ∃ Fc σc, Rl K Fc σc τ Hc ∧ Go F σd σ H Fc σc τ Hc ∧ fWhile t body m σc = some (fl, σd'), ⟨n, F, σd, R, Go.refl _ _ _ _, e⟩, ?_⟩
  rintro m τ Hc ⟨Fc, σc, Rc, gc, hl⟩
  cases m with
  | zero => cases hl
  | succ m =>
    unfold fWhile at hl
    split at hl
    · rename_i σb eb
      refine ⟨Fc, σc, Rc, true, σb, eb, fun F1 H1 R1 g1 => PyProof.Rows.ite_tt ⟨_, fun σ' H' N => ⟨m, Nat.lt_succ_self m, N⟩, ?_⟩⟩
      have g3 := gc.trans g1
      split at hl
      · rename_i σn en
        exact ⟨F1, σb, R1, .next, σn, en, fun F4 σ4 H4 R4 g4 => ⟨F4, σn, R4, g3.trans g4, hl⟩⟩
      · rename_i σn en
        exact ⟨F1, σb, R1, .cont, σn, en, fun F4 σ4 H4 R4 g4 => ⟨F4, σn, R4, g3.trans g4, hl⟩⟩
      · rename_i σn en
        cases hl
        exact ⟨F1, σb, R1, .brk, _, en, fun F4 σ4 H4 R4 g4 => k F4 σ4 H4 R4 (g3.trans g4)⟩
      · rename_i fr dd σn en
        cases hl
        exact ⟨F1, σb, R1, .ret fr dd, _, en, k.go g3⟩
      · cases hl
    · rename_i σb eb
      cases hl
      exact ⟨Fc, σc, Rc, false, _, eb, fun F1 H1 R1 g1 => PyProof.Rows.ite_ff (k F1 τ H1 R1 (gc.trans g1))⟩
    · cases hl
/-! ### x[i] = e; x.append(e) -/
/-- an owned object at a slot is changed -/
theorem Rl.wr {F : Hp} {σd : SD} (R : Rl K F σd σ H) {i : Nat} {d d' : D} {a : Addr} {o' : HO} (e : σd[i]? = some (some ⟨true, d⟩)) (ea : σ[i]? = some (some (.ref a))) (ho : Hold K F o' d') : Rl K F (σd.set i (some ⟨true, d'⟩)) σ (upd H a o') := by
  obtain ⟨a1, o1, h1, h2, h3, h4⟩ := R.own i d e
  rw [ea] at h1; cases h1
  have hi : i < σd.length := by
    by_cases hl : i < σd.length
    · exact hl
    · rw [List.getElem?_eq_none (by simpa using hl)] at e; cases e
  have key : ∀ (j : Nat) (x : D), (σd.set i (some ⟨true, d'⟩))[j]? = some (some (Sl.mk true x)) → ∃ y, σd[j]? = some (some (Sl.mk true y)) := fun j x q => by
    rcases get_set q with ⟨rfl, _, _⟩ | ⟨_, q⟩
    · exact ⟨d, e⟩
    · exact ⟨x, q⟩
  refine ⟨fun b u q => ?_, by simpa using R.len, fun j x q => ?_, fun j x q => ?_, fun j k x y b q1 q2 q3 q4 => ?_, R.pin⟩
  · rw [upd_ne (ne_of_none q h2)]
    exact R.fh b u q
  · rcases get_set q with ⟨rfl, e1, _⟩ | ⟨_, q⟩
    · cases e1
    · exact R.shr j x q
  · rcases get_set q with ⟨rfl, e1, _⟩ | ⟨nj, q⟩
    · cases e1
      exact ⟨a, o', ea, h2, upd_same, ho⟩
    · obtain ⟨b, u, q1, q2, q3, q4⟩ := R.own j x q
      refine ⟨b, u, q1, q2, ?_, q4⟩
      rw [upd_ne ?_]
      · exact q3
      · rintro rfl
        exact nj (R.sep j i x d b q e q1 ea)
  · obtain ⟨x', q1⟩ := key j x q1
    obtain ⟨y', q2⟩ := key k y q2
    exact R.sep j k x' y' b q1 q2 q3 q4
theorem ownAt_wr {σd : SD} {i : Nat} {d d' : D} (e : σd[i]? = some (some (Sl.mk true d))) {b : Addr} (h : OwnAt (σd.set i (some ⟨true, d'⟩)) σ b) : OwnAt σd σ b := by
  obtain ⟨j, x, h1, h2⟩ := h
  rcases get_set h1 with ⟨rfl, _, _⟩ | ⟨_, h1⟩
  · exact ⟨j, d, e, h2⟩
  · exact ⟨j, x, h1, h2⟩
theorem go_wr {F : Hp} {σd : SD} {i : Nat} {d d' : D} {a : Addr} {o' : HO} (e : σd[i]? = some (some (Sl.mk true d))) (ea : σ[i]? = some (some (.ref a))) : Go F σd σ H F (σd.set i (some ⟨true, d'⟩)) σ (upd H a o') := by
  refine ⟨Ex.refl _, fun b u q n => ?_, fun b u q => .inl q, fun b q => .inl (ownAt_wr e q), fun b u q => ?_⟩
  · rw [upd_ne ?_]
    · exact q
    · rintro rfl
      exact n ⟨i, d, e, ea⟩
  · by_cases z : b = a
    · subst z; exact ⟨o', upd_same⟩
    · rw [upd_ne z]; exact ⟨u, q⟩
/-- x[k] = e (a list) -/
def fSetIx (i : Nat) (ix : DW) (f : DW) : DS := fun σd => match f σd with
  | some (d, σ1) => match oSlot i σ1 with
    | some _ => match ix σ1 with
      | some (.int k, σ2) => match σ2[i]? with
        | some (some ⟨true, .list ds⟩) => match ixN ds.length k with
          | some j => some (.next, σ2.set i (some ⟨true, .list (ds.set j d)⟩))
          | none => none
        | _ => none
      | _ => none
    | none => none
  | none => none
theorem oSlot_some {F : Hp} {σd : SD} (R : Rl K F σd σ H) {i : Nat} {x : Opd × SD} (h : oSlot i σd = some x) : ∃ v, σ[i]? = some (some v) := by
  unfold oSlot at h
  split at h
  · rename_i s e1
    obtain ⟨ow, d⟩ := s
    cases ow with
    | false => obtain ⟨v, h1, _⟩ := R.shr i _ e1; exact ⟨v, h1⟩
    | true => obtain ⟨a, o, h1, _⟩ := R.own i _ e1; exact ⟨_, h1⟩
  · cases h
theorem rd_setIx {i : Nat} {ix f : DW} (h : rdS K (fSetIx i ix f) De σ H) : tAsg (rdW K f) (gSub (tVar i) (rdW K ix) rSetL) De σ H := by
  obtain ⟨F, σd, R, fl, σd', e, k⟩ := h
  unfold fSetIx at e
  split at e
  · rename_i d σ1 e1
    split at e
    · rename_i x0 e0
      split at e
      · rename_i kk σ2 e2
        split at e
        · rename_i ds e3
          split at e
          · rename_i j e4
            cases e
            refine ⟨F, σd, R, d, σ1, e1, fun F1 H1 v R1 g1 hd => ?_⟩
            obtain ⟨vo, hvo⟩ := oSlot_some R1 e0
            refine ⟨vo, hvo, F1, σ1, R1, _, σ2, e2, fun F2 H2 vi R2 g2 hi => ?_⟩
            cases hi
            obtain ⟨a, o, h1, h2, h3, h4⟩ := R2.own i _ e3
            obtain ⟨vs, rfl, hs⟩ := h4.list
            rw [hvo] at h1; cases h1
            refine ⟨a, vs, kk, j, rfl, rfl, h3, by rw [DpAll.len hs]; exact e4, ?_⟩
            exact k F2 σ _ (R2.wr e3 hvo (show Hold K F2 (.lst (vs.set j v)) (.list (ds.set j d)) from DpAll.set (Dp.mono g2.ff hd) j hs)) ((g1.trans g2).trans (go_wr e3 hvo))
          · cases e
        · cases e
      · cases e
    · cases e
  · cases e
/-- x.append(e) as an expression -/
def fApp (i : Nat) (f : DW) : DE := fun σd => match σd[i]? with
  | some (some ⟨true, .list _⟩) => match f σd with
    | some (d, σ1) => match σ1[i]? with
      | some (some ⟨true, .list ds⟩) => if okLen ds.length = true then some (false, .none, σ1.set i (some ⟨true, .list (ds ++ [d])⟩)) else none
      | _ => none
    | none => none
  | _ => none
theorem rd_app {i : Nat} {f : DW} {Q : VK} (h : rdE K (fApp i f) σ H Q) : tBM K "list" rAppend (tVar i) (tCons (rdW K f) tNil) σ H Q := by
  obtain ⟨F, σd, R, fr, d, σd', e, k⟩ := h
  unfold fApp at e
  split at e
  · rename_i ds0 e0
    split at e
    · rename_i d1 σ1 e1
      split at e
      · rename_i ds e3
        split at e
        · rename_i hl
          cases e
          obtain ⟨a0, o0, h01, h02, h03, h04⟩ := R.own i _ e0
          obtain ⟨vs0, rfl, hs0⟩ := h04.list
          refine ⟨.ref a0, h01, .inl ⟨rfl, vs0, SqL.of h03⟩, F, σd, R, d1, σ1, e1, fun F1 H1 v R1 g1 hd => ?_⟩
          obtain ⟨a, o, h1, h2, h3, h4⟩ := R1.own i _ e3
          obtain ⟨vs, rfl, hs⟩ := h4.list
          rw [h01] at h1; cases h1
          refine ⟨a0, vs, v, rfl, rfl, h3, by rw [DpAll.len hs]; exact okLen_lt hl, ?_⟩
          exact k F1 _ .non (R1.wr e3 h01 (show Hold K F1 (.lst (vs ++ [v])) (.list (ds ++ [d1])) from DpAll.append hs (.cons hd .nil))) (g1.trans (go_wr e3 h01)) .non
        · cases e
      · cases e
    · cases e
  · cases e
end
section
variable {X : Cx} {pn : List (Nat × Addr)} {c e i tg iter : Expr} {st : Stmt} {rest body a b : List Stmt} {pos p1 p2 p3 : Pos}
theorem s_pass : PSd X pn (.Pass pos) fNext := psMono ps_pass fun _ _ _ => rd_next
theorem s_brk : PSd X pn (.Break pos) fBrk := psMono ps_break fun _ _ _ => rd_brk
theorem s_cont : PSd X pn (.Continue pos) fCont := psMono ps_continue fun _ _ _ => rd_cont
theorem s_stuck : PSd X pn st fStuck := psMono ps_never fun _ _ _ => rd_stuck
theorem ss_nil : PSsd X pn [] fNext := pssMono pss_nil fun _ _ _ => rd_next
theorem ss_cons {f g : DS} (h : PSd X pn st f) (h' : PSsd X pn rest g) : PSsd X pn (st :: rest) (fSeq f g) := pssMono (pss_cons h h') fun _ _ _ => rd_seq
theorem s_expr {f : DE} (h : PEe X pn e f) (hs : swapsWith e none pos.line X.env = pure false) : PSd X pn (.Expr e pos) (fDrop f) := psMono (ps_expr h hs) fun _ _ _ => rd_drop
theorem s_ret {f : DE} (h : PEe X pn e f) : PSd X pn (.Return (some e) pos) (fRet f) := psMono (ps_ret h) fun _ _ _ => rd_ret
theorem s_retN {k : Nat} {x : Str} (hN : X.N[k]? = some x) (hv : Vis X.env.scope x) (hd : (x == ("__debug__" : Str)) = false) (hcd : (x == ("__classdict__" : Str)) = false) : PSd X pn (.Return (some (.Name x p1)) pos) (fRetN k) := psMono (ps_ret (pe_var hN hv hd hcd)) fun _ _ _ => rd_retN
theorem s_ret0 : PSd X pn (.Return none pos) fRet0 := psMono ps_retN fun _ _ _ => rd_ret0
theorem s_if {t : DT} {f g : DS} (hc : PTt X pn c t) (ha : PSsd X pn a f) (hb : PSsd X pn b g) : PSd X pn (.If c a b pos) (fIfS t f g) := psMono (ps_if hc ha hb) fun _ _ _ => rd_ifS
theorem s_set {k : Nat} {x : Str} {f : DE} (hfr : Kp.free ⟨X.K, pn⟩ k) (hN : X.N.Nodup) (hi : X.N[k]? = some x) (hx : Loc X.env.scope x) (he : PEe X pn e f) (hs : swapsWith e (some (.Name x p1)) pos.line X.env = pure false) (hf : X.fn x = true ∨ X.env.scope.names.lookup x = some .local) :
    PSd X pn (.Assign [.Name x p1] e pos) (fAsg k f) := psMono (ps_set hN hi hx he hs hf) fun _ _ _ => rd_asg hfr
theorem s_unp {p : Pat} {f : DW} (he : PEw X pn e f) (hg : PGp X pn tg p) (hs : swapsWithSole [tg] e pos.line X.env = pure false) (hw : swappedStores [tg] e X.env = pure none)
    (h1 : (assignEach [tg] X.env).map (·.2) = [assign tg X.env]) : PSd X pn (.Assign [tg] e pos) (fUnp p f) := psMono (ps_asg he hg hs hw h1) fun _ _ _ => rd_unp
theorem s_par {k j : Nat} {x y : Str} {ea eb : Expr} {f g : DE} {kt k2 : Nat} {pt pt2 : Pos} (hfi : Kp.free ⟨X.K, pn⟩ k) (hfj : Kp.free ⟨X.K, pn⟩ j) (hc : X.calm = true) (hN : X.N.Nodup) (hi : X.N[k]? = some x) (hj : X.N[j]? = some y) (hij : k ≠ j)
    (hx : X.env.scope.names.lookup x = some .local) (hy : X.env.scope.names.lookup y = some .local) (ha : PEe X pn ea f) (hb : PEe X pn eb g) (hs1 : starEach [ea, eb] X.env = (false, eval ea X.env) :: starEach [eb] X.env) (hs2 : starEach [eb] X.env = (false, eval eb X.env) :: starEach [] X.env)
    (hw : swappedStores [.Tuple [.Name x p1, .Name y p2] kt pt] (.Tuple [ea, eb] k2 pt2) X.env = pure (some [x, y])) :
    PSd X pn (.Assign [.Tuple [.Name x p1, .Name y p2] kt pt] (.Tuple [ea, eb] k2 pt2) pos) (fPar k j f g) :=
  psMono (ps_par hc hN hi hj hij hx hy (pa_cons ha (pa_cons hb pa_nil hs2) hs1) hw rfl) fun _ _ _ => rd_par hfi hfj hij
theorem s_for {it : DV} {p : Pat} {f : DS} (hp : PassesOwn (model X.prog X.w) X.A X.env X.xe) (hc : X.calm = true) (hi : PIi X pn tg iter it) (hg : PGp X pn tg p) (hb : PSsd X pn body f) (hs : ∀ x, foldedSetIterable iter X.env x = pure x) :
    PSd X pn (.For tg iter body [] pos) (fFor it p f) := psMono (ps_for hp hc hi hg hb hs) fun _ _ _ => rd_for
theorem s_while {t : DT} {f : DS} (n : Nat) (hp : PassesOwn (model X.prog X.w) X.A X.env X.xe) (hc : PTt X pn c t) (hb : PSsd X pn body f) : PSd X pn (.While c body [] pos) (fWhile t f n) := psMono (ps_while hp hc hb) fun _ _ _ => rd_while
theorem s_setIx {k : Nat} {x : Str} {ix f : DW} (hN : X.N[k]? = some x) (hv : Vis X.env.scope x) (hd : (x == ("__debug__" : Str)) = false) (hcd : (x == ("__classdict__" : Str)) = false) (hi : PEw X pn i ix) (he : PEw X pn e f)
    (ha : ∀ v, assign (.Subscript (.Name x p1) i p2) X.env v = (do
      let ov ← holding [v] (eval (.Name x p1) X.env)
      let iv ← holding [v, ov] (eval i X.env)
      standAt p2
      holding [v, ov, iv] (setItem ov iv v)
      release [v, ov, iv] [])) (hs : swapsWithSole [.Subscript (.Name x p1) i p2] e pos.line X.env = pure false) (hw : swappedStores [.Subscript (.Name x p1) i p2] e X.env = pure none)
    (h1 : (assignEach [.Subscript (.Name x p1) i p2] X.env).map (·.2) = [assign (.Subscript (.Name x p1) i p2) X.env]) : PSd X pn (.Assign [.Subscript (.Name x p1) i p2] e pos) (fSetIx k ix f) :=
  psMono (ps_asg he (pg_sub (pe_var hN hv hd hcd) hi set_list ha) hs hw h1) fun _ _ _ => rd_setIx
theorem e_app {k : Nat} {x : Str} {f : DW} (hN : X.N[k]? = some x) (hv : Vis X.env.scope x) (hd : (x == ("__debug__" : Str)) = false) (hcd : (x == ("__classdict__" : Str)) = false) (he : PEw X pn e f)
    (hs : starEach [e] X.env = (false, eval e X.env) :: starEach [] X.env) (hline : (p2.endLine == pos.line) = true) : PEe X pn (.Call (.Attribute (.Name x p1) "append" p2) [e] [] pos) (fApp k f) :=
  peMono (pe_bm PySem.F.plainAttrs_list PySem.F.slot_list_append PySem.F.type_list_append mt_append (pe_var hN hv hd hcd) (pa_cons he pa_nil hs) rfl (by rw [hs]; rfl) hline hs rfl) fun _ _ _ => rd_app
end
end Ev
end
/-! ## Ev7 -/
section
set_option Elab.async false
set_option linter.all false
set_option maxRecDepth 100000
set_option maxHeartbeats 1000000
/-! Ev7: calls of defs. -/
namespace Ev
open PySem L2

/-- a def on data: its arguments (owned ones go in and out), what it returns (new or not), what it leaves in the owned ones -/
abbrev CallD := List Sl → Option (Bool × D × List D)
inductive Arg where
  | val (f : DW)
  | slot (i : Nat)
  | tmp (f : DE)
def argEv : Arg → SD → Option (Opd × SD)
  | .val f, σd => match f σd with
    | some (d, σ1) => some (.val d, σ1)
    | none => none
  | .slot i, σd => oSlot i σd
  | .tmp f, σd => match f σd with
    | some (true, d, σ1) => some (.tmp d, σ1)
    | _ => none
def argsEv : List Arg → SD → Option (List Opd × SD)
  | [], σd => some ([], σd)
  | a :: as, σd => match argEv a σd with
    | some (o, σ1) => match argsEv as σ1 with
      | some (os, σ2) => some (o :: os, σ2)
      | none => none
    | none => none
def ArgOk (K : PySem.W.Frag) (H0 F : Hp) (σd : SD) (σ : L2.St) (H : Hp) (o : Opd) (v : V) : Prop := OpdOk K F σd σ H o v ∧ ∀ d, o = .tmp d → ∃ a, v = .ref a ∧ H0 a = none
def rdArg (K : Kp) : Arg → TE
  | .val f => rdW K f
  | .slot i => tVar i
  | .tmp f => rdE K f
def rdB (K : Kp) (as : List Arg) : TA := fun σ H Q => ∃ F σd, Rl K F σd σ H ∧ ∃ os σd', argsEv as σd = some (os, σd') ∧
  ∀ F' H' vs, Rl K F' σd' σ H' → Go F σd σ H F' σd' σ H' → All2 (fun v o => ArgOk K H F' σd' σ H' o v) vs os → Q vs H'
section
variable {K : Kp} {σ : L2.St} {H : Hp}
theorem rdB_nil {Q : List V → Hp → Prop} (h : rdB K [] σ H Q) : tNil σ H Q := by
  obtain ⟨F, σd, R, os, σd', e, k⟩ := h
  cases e
  exact k F H [] R (Go.refl _ _ _ _) .nil
theorem rdB_cons {a : Arg} {as : List Arg} {Q : List V → Hp → Prop} (h : rdB K (a :: as) σ H Q) : tCons (rdArg K a) (rdB K as) σ H Q := by
  obtain ⟨F, σd, R, os, σd', e, k⟩ := h
  unfold argsEv at e
  split at e
  · rename_i o σ1 e1
    split at e
    · rename_i os' σ2 e2
      cases e
      have go : ∀ F1 H1 v, Rl K F1 σ1 σ H1 → Go F σd σ H F1 σ1 σ H1 → ArgOk K H F1 σ1 σ H1 o v → rdB K as σ H1 fun vs H2 => Q (v :: vs) H2 := fun F1 H1 v R1 g1 ok1 => by
        refine ⟨F1, σ1, R1, os', _, e2, fun F2 H2 vs R2 g2 ok2 => k F2 H2 (v :: vs) R2 (g1.trans g2) (.cons ⟨ok1.1.go g2, ok1.2⟩ (ok2.imp fun v o h => ⟨h.1, fun d ed => ?_⟩))⟩
        obtain ⟨a, ea, h0⟩ := h.2 d ed
        exact ⟨a, ea, g1.back h0⟩
      cases a with
      | val f =>
        have e1 : (match f σd with | some (d, σ1) => some (Opd.val d, σ1) | none => none) = some (o, σ1) := e1
        split at e1
        · rename_i d1 σ1' e3
          cases e1
          exact ⟨F, σd, R, _, _, e3, fun F1 H1 v R1 g1 hd => go F1 H1 v R1 g1 ⟨hd, fun d z => by cases z⟩⟩
        · cases e1
      | slot i =>
        have e1' : oSlot i σd = some (o, σ1) := e1
        obtain ⟨v, hv⟩ := oSlot_some R e1'
        unfold oSlot at e1'
        split at e1'
        · cases e1'
          exact ⟨v, hv, go F H v R (Go.refl _ _ _ _) ⟨hv, fun d z => by cases z⟩⟩
        · cases e1'
      | tmp f =>
        have e1 : (match f σd with | some (true, d, σ1) => some (Opd.tmp d, σ1) | _ => none) = some (o, σ1) := e1
        split at e1
        · rename_i d1 σ1' e3
          cases e1
          refine ⟨F, σd, R, true, _, _, e3, fun F1 H1 v R1 g1 r => ?_⟩
          obtain ⟨a, o, rfl, h0, hf, hh, ho, hn⟩ := r
          exact go F1 H1 _ R1 g1 ⟨⟨a, o, rfl, hf, hh, ho, hn⟩, fun d _ => ⟨a, rfl, h0⟩⟩
        · cases e1
    · cases e
  · cases e
end

/-! ### what a def promises -/
def SlOk (K : PySem.W.Frag) (F H : Hp) (v : V) (s : Sl) : Prop :=
  match s.own with
  | false => Dp K F v s.d
  | true => ∃ a o, v = .ref a ∧ F a = none ∧ H a = some o ∧ Hold K F o s.d
/-- the addresses of the owned arguments -/
def ioA : List V → List Sl → List Addr
  | .ref a :: vs, ⟨true, _⟩ :: ss => a :: ioA vs ss
  | _ :: vs, _ :: ss => ioA vs ss
  | _, _ => []
structure Aft (K : PySem.W.Frag) (F H : Hp) (as : List Addr) (outs : List D) (fr : Bool) (d : D) (F' H' : Hp) (v : V) : Prop where
  ff : Ex F F'
  fh : Ex F' H'
  keep : ∀ b o, H b = some o → b ∉ as → H' b = some o
  fnew : ∀ b o, F' b = some o → F b = some o ∨ H b = none
  there : ∀ b o, H b = some o → ∃ o', H' b = some o'
  outs : All2 (fun a x => ∃ o, H' a = some o ∧ F' a = none ∧ Hold K F' o x) as outs
  res : NewRes K H F' H' fr d v
def spD (K : PySem.W.Frag) (n : Nat) (φ : CallD) : Sp := fun vs H Q _ => vs.length = n ∧ ∃ F sls, Ex F H ∧ All2 (SlOk K F H) vs sls ∧ (ioA vs sls).Nodup ∧ ∃ fr d outs, φ sls = some (fr, d, outs) ∧
  ∀ F' H' v, Aft K F H (ioA vs sls) outs fr d F' H' v → Q v H'

/-! ### the caller -/
/-- the slots of the arguments: io tells which are owned -/
def slsOf (σd : SD) : List Bool → List Opd → Option (List Sl)
  | [], [] => some []
  | false :: io, .val d :: os => match slsOf σd io os with
    | some ss => some (⟨false, d⟩ :: ss)
    | none => none
  | true :: io, .slot i :: os => match σd[i]? with
    | some (some ⟨true, d⟩) => match slsOf σd io os with
      | some ss => some (⟨true, d⟩ :: ss)
      | none => none
    | _ => none
  | true :: io, .tmp d :: os => match slsOf σd io os with
    | some ss => some (⟨true, d⟩ :: ss)
    | none => none
  | _, _ => none
/-- the owned slots among the operands differ, and one new object at most -/
def slotsIn : List Opd → List Nat
  | [] => []
  | .slot i :: os => i :: slotsIn os
  | _ :: os => slotsIn os
def tmpsIn : List Opd → Nat
  | [] => 0
  | .tmp _ :: os => tmpsIn os + 1
  | _ :: os => tmpsIn os
def diffs : List Nat → Bool
  | [] => true
  | i :: is => !(is.contains i) && diffs is
def writeB : List Opd → List D → SD → SD
  | .slot i :: os, x :: xs, σd => writeB os xs (σd.set i (some ⟨true, x⟩))
  | .tmp _ :: os, _ :: xs, σd => writeB os xs σd
  | .val _ :: os, xs, σd => writeB os xs σd
  | _, _, σd => σd
def fCall (φ : CallD) (io : List Bool) (as : List Arg) : DE := fun σd => match argsEv as σd with
  | some (os, σ1) => match slsOf σ1 io os with
    | some sls => if (diffs (slotsIn os) && Nat.ble (tmpsIn os) 1) = true then
        match φ sls with
        | some (fr, d, outs) => some (fr, d, writeB os outs σ1)
        | none => none
      else none
    | none => none
  | none => none
section
variable {K : Kp} {σ : L2.St} {H : Hp}
theorem diffs_nodup : ∀ {is : List Nat}, diffs is = true → is.Nodup
  | [], _ => List.nodup_nil
  | i :: is, h => by
    unfold diffs at h
    rw [Bool.and_eq_true] at h
    refine List.nodup_cons.mpr ⟨fun hm => ?_, diffs_nodup h.2⟩
    have : is.contains i = true := List.contains_iff_mem.mpr hm
    rw [this] at h
    exact absurd h.1 (by decide)
theorem slOk_of {F : Hp} {σ1 : SD} {H1 H0 : Hp} (R : Rl K F σ1 σ H1) : ∀ {io : List Bool} {vs : List V} {os : List Opd} {sls : List Sl}, All2 (fun v o => ArgOk K H0 F σ1 σ H1 o v) vs os → slsOf σ1 io os = some sls → All2 (SlOk K F H1) vs sls
  | io, _, _, sls, .nil, e => by
    cases io with
    | nil => cases e; exact .nil
    | cons b io => cases b <;> cases e
  | io, _, _, sls, .cons (a := v) (b := o) (as := vs) (bs := os) h t, e => by
    cases io with
    | nil => cases o <;> cases e
    | cons b io =>
      cases b with
      | false =>
        cases o with
        | val d =>
          have e : (match slsOf σ1 io os with | some ss => some ((⟨false, d⟩ : Sl) :: ss) | none => none) = some sls := e
          split at e
          · rename_i ss es
            cases e
            exact .cons h.1 (slOk_of R t es)
          · cases e
        | tmp d => cases e
        | slot i => cases e
      | true =>
        cases o with
        | val d => cases e
        | tmp d =>
          have e : (match slsOf σ1 io os with | some ss => some ((⟨true, d⟩ : Sl) :: ss) | none => none) = some sls := e
          split at e
          · rename_i ss es
            cases e
            obtain ⟨a, o, ev, hf, hh, ho, hn⟩ := h.1
            exact .cons ⟨a, o, ev, hf, hh, ho⟩ (slOk_of R t es)
          · cases e
        | slot i =>
          have e : (match σ1[i]? with | some (some ⟨true, d⟩) => (match slsOf σ1 io os with | some ss => some ((⟨true, d⟩ : Sl) :: ss) | none => none) | _ => none) = some sls := e
          split at e
          · rename_i d ed
            split at e
            · rename_i ss es
              cases e
              obtain ⟨a, o, h1, h2, h3, h4⟩ := R.own i d ed
              have hv : σ[i]? = some (some v) := h.1
              rw [hv] at h1; cases h1
              exact .cons ⟨a, o, rfl, h2, h3, h4⟩ (slOk_of R t es)
            · cases e
          · cases e
/-- where the owned arguments come from -/
theorem ioA_from {F : Hp} {σ1 : SD} {H1 H0 : Hp} (R : Rl K F σ1 σ H1) : ∀ {io : List Bool} {vs : List V} {os : List Opd} {sls : List Sl}, All2 (fun v o => ArgOk K H0 F σ1 σ H1 o v) vs os → slsOf σ1 io os = some sls →
    ∀ b ∈ ioA vs sls, (∃ i d, i ∈ slotsIn os ∧ σ1[i]? = some (some (Sl.mk true d)) ∧ σ[i]? = some (some (.ref b))) ∨ (0 < tmpsIn os ∧ ¬ OwnAt σ1 σ b ∧ H0 b = none ∧ ∃ o, H1 b = some o)
  | io, _, _, sls, .nil, e, b, hb => by
    cases io with
    | nil => cases e; cases hb
    | cons b io => cases b <;> cases e
  | io, _, _, sls, .cons (a := v) (b := o) (as := vs) (bs := os) h t, e, b, hb => by
    cases io with
    | nil => cases o <;> cases e
    | cons f io =>
      cases f with
      | false =>
        cases o with
        | val d =>
          have e : (match slsOf σ1 io os with | some ss => some ((⟨false, d⟩ : Sl) :: ss) | none => none) = some sls := e
          split at e
          · rename_i ss es
            cases e
            have hb' : b ∈ ioA vs ss := by cases v <;> exact hb
            exact ioA_from R t es b hb'
          · cases e
        | tmp d => cases e
        | slot i => cases e
      | true =>
        cases o with
        | val d => cases e
        | tmp d =>
          have e : (match slsOf σ1 io os with | some ss => some ((⟨true, d⟩ : Sl) :: ss) | none => none) = some sls := e
          split at e
          · rename_i ss es
            cases e
            obtain ⟨a, o, rfl, hf, hh, ho, hn⟩ := h.1
            obtain ⟨a', ea, h0⟩ := h.2 d rfl
            cases ea
            rcases List.mem_cons.mp (show b ∈ a :: ioA vs ss from hb) with rfl | hb
            · exact .inr ⟨Nat.succ_pos _, hn, h0, o, hh⟩
            · rcases ioA_from R t es b hb with q | q
              · exact .inl q
              · exact .inr ⟨Nat.succ_pos _, q.2⟩
          · cases e
        | slot i =>
          have e : (match σ1[i]? with | some (some ⟨true, d⟩) => (match slsOf σ1 io os with | some ss => some ((⟨true, d⟩ : Sl) :: ss) | none => none) | _ => none) = some sls := e
          split at e
          · rename_i d ed
            split at e
            · rename_i ss es
              cases e
              have hv : σ[i]? = some (some v) := h.1
              obtain ⟨a, o, h1, _⟩ := R.own i d ed
              rw [hv] at h1; cases h1
              rcases List.mem_cons.mp (show b ∈ a :: ioA vs ss from hb) with rfl | hb
              · exact .inl ⟨i, d, List.mem_cons_self, ed, hv⟩
              · rcases ioA_from R t es b hb with ⟨j, d', q1, q2⟩ | q
                · exact .inl ⟨j, d', List.mem_cons_of_mem _ q1, q2⟩
                · exact .inr q
            · cases e
          · cases e
theorem ioA_nodup {F : Hp} {σ1 : SD} {H1 H0 : Hp} (R : Rl K F σ1 σ H1) : ∀ {io : List Bool} {vs : List V} {os : List Opd} {sls : List Sl}, All2 (fun v o => ArgOk K H0 F σ1 σ H1 o v) vs os → slsOf σ1 io os = some sls → (slotsIn os).Nodup → tmpsIn os ≤ 1 → (ioA vs sls).Nodup
  | io, _, _, sls, .nil, e, _, _ => by
    cases io with
    | nil => cases e; exact List.nodup_nil
    | cons b io => cases b <;> cases e
  | io, _, _, sls, .cons (a := v) (b := o) (as := vs) (bs := os) h t, e, nd, tm => by
    cases io with
    | nil => cases o <;> cases e
    | cons f io =>
      cases f with
      | false =>
        cases o with
        | val d =>
          have e : (match slsOf σ1 io os with | some ss => some ((⟨false, d⟩ : Sl) :: ss) | none => none) = some sls := e
          split at e
          · rename_i ss es
            cases e
            have : ioA (v :: vs) (⟨false, d⟩ :: ss) = ioA vs ss := by cases v <;> rfl
            rw [this]
            exact ioA_nodup R t es nd tm
          · cases e
        | tmp d => cases e
        | slot i => cases e
      | true =>
        cases o with
        | val d => cases e
        | tmp d =>
          have e : (match slsOf σ1 io os with | some ss => some ((⟨true, d⟩ : Sl) :: ss) | none => none) = some sls := e
          split at e
          · rename_i ss es
            cases e
            obtain ⟨a, o, rfl, hf, hh, ho, hn⟩ := h.1
            have tm' : tmpsIn os + 1 ≤ 1 := tm
            refine List.nodup_cons.mpr ⟨fun hm => ?_, ioA_nodup R t es nd (by omega)⟩
            rcases ioA_from R t es a hm with ⟨j, d', q1, q2, q3⟩ | ⟨q, _⟩
            · exact hn ⟨j, d', q2, q3⟩
            · omega
          · cases e
        | slot i =>
          have e : (match σ1[i]? with | some (some ⟨true, d⟩) => (match slsOf σ1 io os with | some ss => some ((⟨true, d⟩ : Sl) :: ss) | none => none) | _ => none) = some sls := e
          split at e
          · rename_i d ed
            split at e
            · rename_i ss es
              cases e
              have hv : σ[i]? = some (some v) := h.1
              have nd' := List.nodup_cons.mp (show (i :: slotsIn os).Nodup from nd)
              obtain ⟨a, o, h1, _⟩ := R.own i d ed
              rw [hv] at h1; cases h1
              refine List.nodup_cons.mpr ⟨fun hm => ?_, ioA_nodup R t es nd'.2 tm⟩
              rcases ioA_from R t es a hm with ⟨j, d', q1, q2, q3⟩ | ⟨_, q, _⟩
              · have := R.sep i j d d' a ed q2 hv q3
                subst this
                exact nd'.1 q1
              · exact q ⟨i, d, ed, hv⟩
            · cases e
          · cases e
/-- what is written back -/
theorem writeB_get {F : Hp} {σ1 : SD} {H1 H0 : Hp} (R : Rl K F σ1 σ H1) {P : Addr → D → Prop} : ∀ {io : List Bool} {vs : List V} {os : List Opd} {sls : List Sl} {outs : List D} {τ : SD}, All2 (fun v o => ArgOk K H0 F σ1 σ H1 o v) vs os → slsOf σ1 io os = some sls → All2 P (ioA vs sls) outs → (slotsIn os).Nodup →
    (writeB os outs τ).length = τ.length ∧ (∀ j, j ∉ slotsIn os → (writeB os outs τ)[j]? = τ[j]?) ∧
    ∀ i ∈ slotsIn os, i < τ.length → ∃ x a, (writeB os outs τ)[i]? = some (some (Sl.mk true x)) ∧ σ[i]? = some (some (.ref a)) ∧ P a x
  | io, _, _, sls, outs, τ, .nil, e, p, _ => by
    refine ⟨by cases outs <;> rfl, fun j _ => by cases outs <;> rfl, fun i hi => by cases hi⟩
  | io, _, _, sls, outs, τ, .cons (a := v) (b := o) (as := vs) (bs := os) h t, e, p, nd => by
    cases io with
    | nil => cases o <;> cases e
    | cons f io =>
      cases f with
      | false =>
        cases o with
        | val d =>
          have e : (match slsOf σ1 io os with | some ss => some ((⟨false, d⟩ : Sl) :: ss) | none => none) = some sls := e
          split at e
          · rename_i ss es
            cases e
            have e1 : ioA (v :: vs) (⟨false, d⟩ :: ss) = ioA vs ss := by cases v <;> rfl
            rw [e1] at p
            have e2 : writeB (.val d :: os) outs τ = writeB os outs τ := by cases outs <;> rfl
            rw [e2]
            exact writeB_get R t es p nd
          · cases e
        | tmp d => cases e
        | slot i => cases e
      | true =>
        cases o with
        | val d => cases e
        | tmp d =>
          have e : (match slsOf σ1 io os with | some ss => some ((⟨true, d⟩ : Sl) :: ss) | none => none) = some sls := e
          split at e
          · rename_i ss es
            cases e
            obtain ⟨a, o, rfl, hf, hh, ho, hn⟩ := h.1
            have p : All2 P (a :: ioA vs ss) outs := p
            cases p with
            | cons p1 p2 =>
              rename_i x xs
              have ew : writeB (.tmp d :: os) (x :: xs) τ = writeB os xs τ := rfl
              rw [ew]
              exact writeB_get R (τ := τ) t es p2 nd
          · cases e
        | slot i =>
          have e : (match σ1[i]? with | some (some ⟨true, d⟩) => (match slsOf σ1 io os with | some ss => some ((⟨true, d⟩ : Sl) :: ss) | none => none) | _ => none) = some sls := e
          split at e
          · rename_i d ed
            split at e
            · rename_i ss es
              cases e
              have hvv : σ[i]? = some (some v) := h.1
              have nd' := List.nodup_cons.mp (show (i :: slotsIn os).Nodup from nd)
              obtain ⟨a, o, h1, _⟩ := R.own i d ed
              rw [hvv] at h1; cases h1
              have p : All2 P (a :: ioA vs ss) outs := p
              cases p with
              | cons p1 p2 =>
                rename_i x xs
                obtain ⟨h1, h2, h3⟩   := writeB_get R (τ := τ.set i (some ⟨true, x⟩)) t es p2 nd'.2
                have ew : writeB (.slot i :: os) (x :: xs) τ = writeB os xs (τ.set i (some ⟨true, x⟩)) := rfl
                rw [ew]
                refine ⟨by rw [h1]; simp, fun j hj => ?_, fun j hj hl => ?_⟩
                · have hj' : j ≠ i ∧ j ∉ slotsIn os := by
                    constructor
                    · rintro rfl; exact hj List.mem_cons_self
                    · exact fun z => hj (List.mem_cons_of_mem _ z)
                  rw [h2 j hj'.2, List.getElem?_set_ne (Ne.symm hj'.1)]
                · rcases List.mem_cons.mp (show j ∈ i :: slotsIn os from hj) with rfl | hj
                  · refine ⟨x, a, ?_, hvv, p1⟩
                    rw [h2 j nd'.1, List.getElem?_set_self hl]
                  · exact h3 j hj (by simpa using hl)
            · cases e
          · cases e

theorem rd_call {φ : CallD} {io : List Bool} {as : List Arg} {n : Nat} (hn : as.length = n) {E : XK} {Q : VK} (h : rdE K (fCall φ io as) σ H Q) : tCall (spD K n φ) [] E (rdB K as) σ H Q := by
  obtain ⟨F, σd, R, fr, d, σd', e, k⟩ := h
  unfold fCall at e
  split at e
  · rename_i os σ1 e1
    split at e
    · rename_i sls e2
      split at e
      · rename_i hb
        rw [Bool.and_eq_true] at hb
        split at e
        · rename_i fr' d' outs e3
          cases e
          refine ⟨F, σd, R, os, σ1, e1, fun F1 H1 vs R1 g1 ok => ?_⟩
          have nd := diffs_nodup hb.1
          have tm := Nat.le_of_ble_eq_true hb.2
          have hlen : ∀ {vs : List V} {os : List Opd}, All2 (fun v o => ArgOk K H F1 σ1 σ H1 o v) vs os → vs.length = os.length := fun {vs os} h => by
            induction h with
            | nil => rfl
            | cons _ _ ih => simp [ih]
          have hlo : ∀ {as : List Arg} {τ : SD} {os : List Opd} {τ' : SD}, argsEv as τ = some (os, τ') → os.length = as.length := fun {as} => by
            induction as with
            | nil => intro τ os τ' h; cases h; rfl
            | cons a as ih =>
              intro τ os τ' h
              unfold argsEv at h
              split at h
              · split at h
                · rename_i e5
                  cases h
                  simp [ih e5]
                · cases h
              · cases h
          refine ⟨by rw [List.append_nil, hlen ok, hlo e1, hn], F1, sls, R1.fh, by rw [List.append_nil]; exact slOk_of R1 ok e2, by rw [List.append_nil]; exact ioA_nodup R1 ok e2 nd tm, fr, d, outs, e3, fun F' H' v A => ?_⟩
          rw [List.append_nil] at A
          obtain ⟨w1, w2, w3⟩ := writeB_get R1 (τ := σ1) ok e2 A.outs nd
          have lt : ∀ {j : Nat} {s : Sl}, σ1[j]? = some (some s) → j < σ1.length := fun {j s} q => by
            by_cases hl : j < σ1.length
            · exact hl
            · rw [List.getElem?_eq_none (by simpa using hl)] at q; cases q
          have isIo : ∀ i ∈ slotsIn os, ∃ dd, σ1[i]? = some (some (Sl.mk true dd)) := slots_own e2
          have ownI : ∀ b, OwnAt (writeB os outs σ1) σ b → OwnAt σ1 σ b := fun b ⟨j, x, q1, q2⟩ => by
            by_cases hj : j ∈ slotsIn os
            · obtain ⟨dd, q⟩ := isIo j hj
              exact ⟨j, dd, q, q2⟩
            · rw [w2 j hj] at q1
              exact ⟨j, x, q1, q2⟩
          have notIo : ∀ b, OwnAt σ1 σ b → (∀ i ∈ slotsIn os, σ[i]? ≠ some (some (.ref b))) → b ∉ ioA vs sls := fun b ob hi hm => by
            rcases ioA_from R1 ok e2 b hm with ⟨i, dd, q1, q2, q3⟩ | ⟨_, q, _⟩
            · exact hi i q1 q3
            · exact q ob
          have R2 : Rl K F' (writeB os outs σ1) σ H' := by
            refine ⟨A.fh, by rw [w1]; exact R1.len, fun j x q => ?_, fun j x q => ?_, fun j k x y b q1 q2 q3 q4 => ?_, R1.pin⟩
            · by_cases hj : j ∈ slotsIn os
              · obtain ⟨dd, q'⟩ := isIo j hj
                obtain ⟨x', a', z1, _⟩ := w3 j hj (lt q')
                rw [z1] at q; cases q
              · rw [w2 j hj] at q
                obtain ⟨v, h1, h2⟩ := R1.shr j x q
                exact ⟨v, h1, Dp.mono A.ff h2⟩
            · by_cases hj : j ∈ slotsIn os
              · obtain ⟨dd, q'⟩ := isIo j hj
                obtain ⟨x', a', z1, z2, o, z3, z4, z5⟩ := w3 j hj (lt q')
                rw [z1] at q; cases q
                exact ⟨a', o, z2, z4, z3, z5⟩
              · rw [w2 j hj] at q
                obtain ⟨a, o, h1, h2, h3, h4⟩ := R1.own j x q
                have na : a ∉ ioA vs sls := notIo a ⟨j, x, q, h1⟩ fun i hi q' => by
                  obtain ⟨dd, q''⟩ := isIo i hi
                  have := R1.sep j i x dd a q q'' h1 q'
                  subst this
                  exact hj hi
                refine ⟨a, o, h1, ?_, A.keep a o h3 na, h4.mono A.ff⟩
                cases z : F' a with
                | none => rfl
                | some u =>
                  rcases A.fnew a u z with z | z
                  · rw [h2] at z; cases z
                  · rw [h3] at z; cases z
            · obtain ⟨j', x', p1, p2⟩ := ownI b ⟨j, x, q1, q3⟩
              have key : ∀ {m : Nat} {z : D}, (writeB os outs σ1)[m]? = some (some (Sl.mk true z)) → ∃ z', σ1[m]? = some (some (Sl.mk true z')) := fun {m z} q => by
                by_cases hm : m ∈ slotsIn os
                · exact isIo m hm
                · rw [w2 m hm] at q; exact ⟨z, q⟩
              obtain ⟨x1, y1⟩ := key q1
              obtain ⟨x2, y2⟩ := key q2
              exact R1.sep j k x1 x2 b y1 y2 q3 q4
          have G : Go F σd σ H F' (writeB os outs σ1) σ H' := by
            refine ⟨g1.ff.trans A.ff, fun b o hb' nb => ?_, fun b o q => ?_, fun b q => g1.own b (ownI b q), fun b o q => ?_⟩
            · have h1 := g1.keep b o hb' nb
              refine A.keep b o h1 fun hm => ?_
              rcases ioA_from R1 ok e2 b hm with ⟨i, dd, q1, q2, q3⟩ | ⟨_, _, q, _⟩
              · rcases g1.own b ⟨i, dd, q2, q3⟩ with z | z
                · exact nb z
                · rw [hb'] at z; cases z
              · rw [hb'] at q; cases q
            · rcases A.fnew b o q with q | q
              · exact g1.fnew b o q
              · exact .inr (.inl (g1.back q))
            · obtain ⟨o1, q1⟩ := g1.there b o q
              exact A.there b o1 q1
          refine k F' H' v R2 G ?_
          cases fr with
          | false => exact A.res
          | true =>
            obtain ⟨a, o, ev, n, f, hh, ho⟩ := A.res
            refine ⟨a, o, ev, g1.back n, f, hh, ho, fun q => ?_⟩
            obtain ⟨i, d', q1, q2⟩ := ownI a q
            obtain ⟨a', o', h1, h2, h3, h4⟩ := R1.own i d' q1
            rw [q2] at h1; cases h1
            rw [n] at h3; cases h3
        · cases e
      · cases e
    · cases e
  · cases e
where
  slots_own {σ1 : SD} : ∀ {io : List Bool} {os : List Opd} {sls : List Sl}, slsOf σ1 io os = some sls → ∀ i ∈ slotsIn os, ∃ dd, σ1[i]? = some (some (Sl.mk true dd))
    | io, [], sls, e, i, hi => by cases hi
    | io, o :: os, sls, e, i, hi => by
      cases io with
      | nil => cases o <;> cases e
      | cons f io =>
        cases f with
        | false =>
          cases o with
          | val d =>
            have e : (match slsOf σ1 io os with | some ss => some ((⟨false, d⟩ : Sl) :: ss) | none => none) = some sls := e
            split at e
            · rename_i ss es; exact slots_own es i hi
            · cases e
          | tmp d => cases e
          | slot i => cases e
        | true =>
          cases o with
          | val d => cases e
          | tmp d =>
            have e : (match slsOf σ1 io os with | some ss => some ((⟨true, d⟩ : Sl) :: ss) | none => none) = some sls := e
            split at e
            · rename_i ss es; exact slots_own es i hi
            · cases e
          | slot j =>
            have e : (match σ1[j]? with | some (some ⟨true, d⟩) => (match slsOf σ1 io os with | some ss => some ((⟨true, d⟩ : Sl) :: ss) | none => none) | _ => none) = some sls := e
            split at e
            · rename_i d ed
              split at e
              · rename_i ss es
                rcases List.mem_cons.mp (show i ∈ j :: slotsIn os from hi) with rfl | hi
                · exact ⟨d, ed⟩
                · exact slots_own es i hi
              · cases e
            · cases e
end

/-! ### the callee -/
/-- the slots at a def's start: N names -/
def startD (n : Nat) (sls : List Sl) : SD := sls.map some ++ List.replicate (n - sls.length) none
/-- what is left in the owned arguments -/
def outsOf : List Sl → Nat → SD → Option (List D)
  | [], _, _ => some []
  | ⟨false, _⟩ :: ss, i, σd => outsOf ss (i + 1) σd
  | ⟨true, _⟩ :: ss, i, σd => match σd[i]? with
    | some (some ⟨true, x⟩) => match outsOf ss (i + 1) σd with
      | some xs => some (x :: xs)
      | none => none
    | _ => none
/-- a def by its body: n names in all -/
def defD (n : Nat) (body : DS) : CallD := fun sls => match body (startD n sls) with
  | some (.next, σd) => match outsOf sls 0 σd with
    | some xs => some (false, .none, xs)
    | none => none
  | some (.ret fr d, σd) => match outsOf sls 0 σd with
    | some xs => some (fr, d, xs)
    | none => none
  | _ => none
/-- the pinned slots: of the owned arguments -/
def pinsOf : List V → List Sl → Nat → List (Nat × Addr)
  | .ref a :: vs, ⟨true, _⟩ :: ss, i => (i, a) :: pinsOf vs ss (i + 1)
  | _ :: vs, _ :: ss, i => pinsOf vs ss (i + 1)
  | _, _, _ => []
section
variable {K : PySem.W.Frag} {F H : Hp}
theorem pins_snd : ∀ {vs : List V} {ss : List Sl} {i : Nat}, (pinsOf vs ss i).map (·.2) = ioA vs ss
  | [], ss, i => by cases ss <;> rfl
  | v :: vs, [], i => by cases v <;> rfl
  | v :: vs, ⟨b, d⟩ :: ss, i => by
    cases v with
    | ref a =>
      cases b with
      | true => exact congrArg (a :: ·) (pins_snd (vs := vs) (ss := ss) (i := i + 1))
      | false => exact pins_snd (vs := vs) (ss := ss) (i := i + 1)
    | _ => exact pins_snd (vs := vs) (ss := ss) (i := i + 1)
theorem slOk_ref {v : V} {d : D} (h : SlOk K F H v ⟨true, d⟩) : ∃ a o, v = .ref a ∧ F a = none ∧ H a = some o ∧ Hold K F o d := h
/-- the pins point at the owned arguments -/
theorem pins_at : ∀ {vs : List V} {ss : List Sl} {i : Nat}, All2 (SlOk K F H) vs ss → ∀ p ∈ pinsOf vs ss i, i ≤ p.1 ∧ vs[p.1 - i]? = some (.ref p.2) ∧ ∃ d, ss[p.1 - i]? = some (Sl.mk true d)
  | _, _, i, .nil, p, hp => by cases hp
  | _, _, i, .cons (a := v) (b := s) (as := vs) (bs := ss) h t, p, hp => by
    have step : p ∈ pinsOf vs ss (i + 1) → i ≤ p.1 ∧ (v :: vs)[p.1 - i]? = some (.ref p.2) ∧ ∃ d, (s :: ss)[p.1 - i]? = some (Sl.mk true d) := fun hp => by
      obtain ⟨h1, h2, d, h3⟩ := pins_at t p hp
      have e : p.1 - i = (p.1 - (i + 1)) + 1 := by omega
      refine ⟨by omega, ?_, d, ?_⟩
      · rw [e]; exact h2
      · rw [e]; exact h3
    obtain ⟨b, d⟩ := s
    cases b with
    | false =>
      have hp' : p ∈ pinsOf vs ss (i + 1) := by cases v <;> exact hp
      exact step hp'
    | true =>
      obtain ⟨a, o, rfl, _⟩ := slOk_ref h
      rcases List.mem_cons.mp (show p ∈ (i, a) :: pinsOf vs ss (i + 1) from hp) with rfl | hp
      · refine ⟨Nat.le_refl _, ?_, d, ?_⟩ <;> simp
      · exact step hp
theorem start_get {n : Nat} {vs : List V} {j : Nat} {v : V} (h : (vs.map some ++ List.replicate n (none : Option V))[j]? = some (some v)) : vs[j]? = some v := by
  by_cases hj : j < vs.length
  · rw [List.getElem?_append_left (by simpa using hj)] at h
    simpa using h
  · rw [List.getElem?_append_right (by simpa using hj)] at h
    simp [List.getElem?_replicate] at h
theorem start_at {α : Type} {n : Nat} {vs : List α} {j : Nat} {v : α} (h : vs[j]? = some v) : (vs.map some ++ List.replicate n (none : Option α))[j]? = some (some v) := by
  have hj : j < vs.length := by
    by_cases hl : j < vs.length
    · exact hl
    · rw [List.getElem?_eq_none (by simpa using hl)] at h; cases h
  rw [List.getElem?_append_left (by simpa using hj)]
  simpa using h
theorem startS_get {n : Nat} {vs : List Sl} {j : Nat} {v : Sl} (h : (vs.map some ++ List.replicate n (none : Option Sl))[j]? = some (some v)) : vs[j]? = some v := by
  by_cases hj : j < vs.length
  · rw [List.getElem?_append_left (by simpa using hj)] at h
    simpa using h
  · rw [List.getElem?_append_right (by simpa using hj)] at h
    simp [List.getElem?_replicate] at h
theorem All2.length {α β : Type} {R : α → β → Prop} : ∀ {as : List α} {bs : List β}, All2 R as bs → as.length = bs.length
  | _, _, .nil => rfl
  | _, _, .cons _ t => by simp [All2.length t]
theorem All2.getR {α β : Type} {R : α → β → Prop} : ∀ {as : List α} {bs : List β} {i : Nat} {b : β}, All2 R as bs → bs[i]? = some b → ∃ a, as[i]? = some a ∧ R a b
  | _, _, _, _, .nil, e => by simp at e
  | _, _, 0, _, .cons h _, e => by simp at e; subst e; exact ⟨_, rfl, h⟩
  | _, _, i + 1, _, .cons _ t, e => by
    obtain ⟨a, h1, h2⟩ := All2.getR (i := i) t (by simpa using e)
    exact ⟨a, by simpa using h1, h2⟩
/-- an owned argument at place i is among the owned addresses -/
theorem ioA_mem : ∀ {vs : List V} {ss : List Sl} {i : Nat} {a : Addr} {d : D}, All2 (SlOk K F H) vs ss → vs[i]? = some (.ref a) → ss[i]? = some (Sl.mk true d) → a ∈ ioA vs ss
  | _, _, i, _, _, .nil, h, _ => by simp at h
  | _, _, i, a, d, .cons (a := v) (b := s) (as := vs) (bs := ss) h t, h1, h2 => by
    cases i with
    | zero =>
      simp at h1 h2
      subst h1; subst h2
      exact List.mem_cons_self
    | succ i =>
      have := ioA_mem (i := i) t (by simpa using h1) (by simpa using h2)
      obtain ⟨b, x⟩ := s
      cases v <;> cases b <;> first | exact List.mem_cons_of_mem _ this | exact this
theorem io_uniq : ∀ {vs : List V} {ss : List Sl} {i j : Nat} {a : Addr} {d e : D}, All2 (SlOk K F H) vs ss → (ioA vs ss).Nodup → vs[i]? = some (.ref a) → ss[i]? = some (Sl.mk true d) → vs[j]? = some (.ref a) → ss[j]? = some (Sl.mk true e) → i = j
  | _, _, i, j, _, _, _, .nil, _, h, _, _, _ => by simp at h
  | _, _, i, j, a, d, e, .cons (a := v) (b := s) (as := vs) (bs := ss) h t, nd, h1, h2, h3, h4 => by
    have nd' : (ioA vs ss).Nodup := by
      obtain ⟨b, x⟩ := s
      cases v <;> cases b <;> first | exact (List.nodup_cons.mp nd).2 | exact nd
    cases i with
    | zero =>
      cases j with
      | zero => rfl
      | succ j =>
        simp at h1 h2
        subst h1; subst h2
        have := ioA_mem (i := j) t (by simpa using h3) (by simpa using h4)
        exact ((List.nodup_cons.mp nd).1 this).elim
    | succ i =>
      cases j with
      | zero =>
        simp at h3 h4
        subst h3; subst h4
        have := ioA_mem (i := i) t (by simpa using h1) (by simpa using h2)
        exact ((List.nodup_cons.mp nd).1 this).elim
      | succ j => exact congrArg (· + 1) (io_uniq t nd' (by simpa using h1) (by simpa using h2) (by simpa using h3) (by simpa using h4))
theorem rl_start {vs : List V} {sls : List Sl} (N : List Str) (e : Ex F H) (h : All2 (SlOk K F H) vs sls) (nd : (ioA vs sls).Nodup) : Rl ⟨K, pinsOf vs sls 0⟩ F (startD N.length sls) (start N vs) H := by
  have hl := h.length
  refine ⟨e, by unfold startD L2.start; simp [hl], fun i d q => ?_, fun i d q => ?_, fun i j d d' a q1 q2 q3 q4 => ?_, fun p hp => ?_⟩
  · obtain ⟨v, h1, h2⟩ := h.getR (startS_get q)
    exact ⟨v, start_at h1, h2⟩
  · obtain ⟨v, h1, h2⟩ := h.getR (startS_get q)
    obtain ⟨a, o, rfl, h3, h4, h5⟩ := slOk_ref h2
    exact ⟨a, o, start_at h1, h3, h4, h5⟩
  · exact io_uniq h nd (start_get q3) (startS_get q1) (start_get q4) (startS_get q2)
  · obtain ⟨_, h2, _⟩ := pins_at h p hp
    exact start_at h2
theorem ownAt_start {vs : List V} {sls : List Sl} {N : List Str} (h : All2 (SlOk K F H) vs sls) {b : Addr} (q : OwnAt (startD N.length sls) (start N vs) b) : b ∈ ioA vs sls := by
  obtain ⟨i, d, q1, q2⟩ := q
  exact ioA_mem h (start_get q2) (startS_get q1)
/-- what is left in the owned arguments, at the end -/
theorem outs_ok {F' H' : Hp} {σd' : SD} {σ' : L2.St} {pn : List (Nat × Addr)} (R : Rl ⟨K, pn⟩ F' σd' σ' H') : ∀ {vs : List V} {sls : List Sl} {i : Nat} {xs : List D}, All2 (SlOk K F H) vs sls → (∀ p ∈ pinsOf vs sls i, p ∈ pn) → outsOf sls i σd' = some xs →
    All2 (fun a x => ∃ o, H' a = some o ∧ F' a = none ∧ Hold K F' o x) (ioA vs sls) xs ∧ ∀ b ∈ ioA vs sls, OwnAt σd' σ' b
  | _, _, i, xs, .nil, _, e => by cases e; exact ⟨.nil, fun b hb => by cases hb⟩
  | _, _, i, xs, .cons (a := v) (b := s) (as := vs) (bs := ss) h t, hp, e => by
    obtain ⟨b, d⟩ := s
    cases b with
    | false =>
      have e1 : ioA (v :: vs) (⟨false, d⟩ :: ss) = ioA vs ss := by cases v <;> rfl
      have e2 : pinsOf (v :: vs) (⟨false, d⟩ :: ss) i = pinsOf vs ss (i + 1) := by cases v <;> rfl
      rw [e1]
      rw [e2] at hp
      exact outs_ok R t hp e
    | true =>
      obtain ⟨a, o, rfl, _⟩ := slOk_ref h
      have e : (match σd'[i]? with | some (some ⟨true, x⟩) => (match outsOf ss (i + 1) σd' with | some xs => some (x :: xs) | none => none) | _ => none) = some xs := e
      split at e
      · rename_i x ex
        split at e
        · rename_i xs' es
          cases e
          have hpin := R.pin (i, a) (hp (i, a) List.mem_cons_self)
          obtain ⟨a', o', h1, h2, h3, h4⟩ := R.own i x ex
          rw [hpin] at h1; cases h1
          obtain ⟨k1, k2⟩ := outs_ok R t (fun p q => hp p (List.mem_cons_of_mem _ q)) es
          refine ⟨.cons ⟨o', h3, h2, h4⟩ k1, fun b hb => ?_⟩
          rcases List.mem_cons.mp (show b ∈ a :: ioA vs ss from hb) with rfl | hb
          · exact ⟨i, x, ex, hpin⟩
          · exact k2 b hb
        · cases e
      · cases e
/-- THE DEF: its body's reading from its promise -/
theorem def_reads {n : Nat} {N : List Str} {body : DS} {vs : List V} {H : Hp} {Q : VK} {E : XK} (h : spD K n (defD N.length body) vs H Q E) :
    ∃ pn : List (Nat × Addr), (∀ p ∈ pn, p.1 < n) ∧ rdS ⟨K, pn⟩ body { nx := fun _ H' => Q .non H', rt := Q } (start N vs) H := by
  obtain ⟨hn, F, sls, e, hs, nd, fr, d, outs, ef, k⟩ := h
  have hl := hs.length
  refine ⟨pinsOf vs sls 0, fun p hp => ?_, ?_⟩
  · obtain ⟨_, h2, _⟩ := pins_at hs p hp
    by_cases q : p.1 < n
    · exact q
    · rw [List.getElem?_eq_none (by omega)] at h2; cases h2
  · have R := rl_start N e hs nd
    unfold defD at ef
    have fin : ∀ {F' : Hp} {σd' : SD} {σ' : L2.St} {H' : Hp} {v : V} {xs : List D} {fr : Bool} {d : D}, Rl ⟨K, pinsOf vs sls 0⟩ F' σd' σ' H' → Go F (startD N.length sls) (start N vs) H F' σd' σ' H' → outsOf sls 0 σd' = some xs →
        NewRes K H F' H' fr d v → Aft K F H (ioA vs sls) xs fr d F' H' v := fun {F' σd' σ' H' v xs fr d} R' g eo r => by
      obtain ⟨k1, k2⟩ := outs_ok R' hs (fun p hp => hp) eo
      refine ⟨g.ff, R'.fh, fun b o hb nb => g.keep b o hb fun q => nb (ownAt_start hs q), fun b o q => ?_, g.there, k1, r⟩
      rcases g.fnew b o q with z | z | z
      · exact .inl z
      · exact .inr z
      · have hm := ownAt_start hs z
        obtain ⟨i, x, y1, y2⟩ := k2 b hm
        obtain ⟨a', o', h1, h2, _⟩ := R'.own i x y1
        rw [y2] at h1; cases h1
        rw [h2] at q; cases q
    split at ef
    · rename_i σd' eb
      split at ef
      · rename_i xs eo
        cases ef
        exact ⟨F, _, R, .next, σd', eb, fun F' σ' H' R' g => k F' H' .non (fin R' g eo .non)⟩
      · cases ef
    · rename_i fr' d' σd' eb
      split at ef
      · rename_i xs eo
        cases ef
        refine ⟨F, _, R, .ret fr d, σd', eb, fun F' σ' H' v R' g r => k F' H' v (fin R' g eo ?_)⟩
        cases fr with
        | false => exact r
        | true =>
          obtain ⟨a, o, rfl, h0, hf, hh, ho, hn⟩ := r
          refine ⟨a, o, rfl, ?_, hf, hh, ho⟩
          rcases h0 with h0 | h0
          · exact h0
          · obtain ⟨_, k2⟩ := outs_ok R' hs (fun p hp => hp) eo
            exact (hn (k2 a (ownAt_start hs h0))).elim
      · cases ef
    · cases ef
end

section
variable {X : Cx} {pn : List (Nat × Addr)} {CX : CXT} {k n : Nat} {f : Addr} {fd : FuncData} {ps : List Str} {E : XK} {x : Str} {p pos : Pos} {e : Expr} {es : List Expr}
abbrev PAb (X : Cx) (pn : List (Nat × Addr)) (es : List Expr) (as : List Arg) : Prop := PA X es (rdB ⟨X.K, pn⟩ as)
abbrev PEg (X : Cx) (pn : List (Nat × Addr)) (e : Expr) (a : Arg) : Prop := PE X e (rdArg ⟨X.K, pn⟩ a)
theorem b_nil : PAb X pn [] [] := paMono pa_nil fun _ _ _ => rdB_nil
theorem b_cons {a : Arg} {as : List Arg} (ha : PEg X pn e a) (hr : PAb X pn es as) (hs : starEach (e :: es) X.env = (false, eval e X.env) :: starEach es X.env) : PAb X pn (e :: es) (a :: as) :=
  paMono (pa_cons ha hr hs) fun _ _ _ => rdB_cons
theorem e_call {φ : CallD} {io : List Bool} {as : List Arg} (F : FnOk X.prog X.w X.K X.mg X.base CX k f fd ps (spD X.K n φ)) (hr : Room k X.A) (hg : Gl X x) (hm : X.mg x = some (.ref f)) (hk : PySem.W.keepIn X.K (.ref f) = true) (hb : Binds X.K fd ps []) (hx : Passes CX X E)
    (ha : PAb X pn (e :: es) as) (hn : as.length = n) (hdb : (x == ("__debug__" : Str)) = false) (he : starEach (e :: es) X.env = (false, eval e X.env) :: starEach es X.env) (hpl : (backTo pos (starEach es X.env)).any (·.1) = false) :
    PEe X pn (.Call (.Name x p) (e :: es) [] pos) (fCall φ io as) := peMono (pe_call F hr hg hm hk hb .nil hx ha hdb he hpl) fun _ _ _ => rd_call hn
theorem e_call0 {φ : CallD} (F : FnOk X.prog X.w X.K X.mg X.base CX k f fd ps (spD X.K 0 φ)) (hr : Room k X.A) (hg : Gl X x) (hm : X.mg x = some (.ref f)) (hk : PySem.W.keepIn X.K (.ref f) = true) (hb : Binds X.K fd ps []) (hx : Passes CX X E) (hdb : (x == ("__debug__" : Str)) = false) :
    PEe X pn (.Call (.Name x p) [] [] pos) (fCall φ [] []) := peMono (pe_call0 F hr hg hm hk hb .nil hx hdb) fun σ H Q h => by
  obtain ⟨F, σd, R, os, σd', e, k⟩ := rd_call (n := 0) rfl (E := E) h
  cases e
  exact k F H [] R (Go.refl _ _ _ _) .nil
end
end Ev
end
/-! ## Ev8 -/
section
set_option Elab.async false
set_option linter.all false
set_option maxRecDepth 100000
set_option maxHeartbeats 1000000
/-! Ev8: primitives. -/
namespace Ev
open PySem L2

def pElse (p q : Prim) : Prim := fun ds => match p ds with
  | some r => some r
  | none => q ds
/-- an operator on two values, with its meaning on data -/
def B2 (X : Cx) (f : Value → Value → Sem Value) (p : Prim) : Prop := ∃ r, OpR X f r ∧ PrimOk X.K (r2 r) p
def I2 (X : Cx) (p : Prim) : Prop := ∃ r, IxR X r ∧ PrimOk X.K (r2 r) p
def U1 (X : Cx) (f : Value → Sem Value) (p : Prim) : Prop := ∃ r, UnR X f r ∧ PrimOk X.K (r1 r) p
def C1 (X : Cx) (f : Value) (p : Prim) : Prop := ∃ r, CallR X f r ∧ PrimOk X.K r p
section
variable {X : Cx} {K : PySem.W.Frag}
theorem primElse {r r' : List V → Hp → VK → Prop} {p q : Prim} (h : PrimOk K r p) (h' : PrimOk K r' q) : PrimOk K (fun vs H Q => r vs H Q ∨ r' vs H Q) (pElse p q) := by
  intro F H vs ds fr d Q e a eq k
  unfold pElse at eq
  split at eq
  · rename_i x ex
    cases eq
    exact .inl (h F H vs ds fr d Q e a ex k)
  · exact .inr (h' F H vs ds fr d Q e a eq k)
theorem primMono {r r' : List V → Hp → VK → Prop} {p : Prim} (h : PrimOk K r p) (m : ∀ vs H Q, r vs H Q → r' vs H Q) : PrimOk K r' p :=
  fun F H vs ds fr d Q e a eq k => m _ _ _ (h F H vs ds fr d Q e a eq k)
theorem B2.or {f : Value → Value → Sem Value} {p q : Prim} (h : B2 X f p) (h' : B2 X f q) : B2 X f (pElse p q) := by
  obtain ⟨r, h1, h2⟩ := h
  obtain ⟨r', h3, h4⟩ := h'
  refine ⟨_, h1.or h3, primMono (primElse h2 h4) fun vs H Q q => ?_⟩
  rcases q with ⟨x, y, e, q⟩ | ⟨x, y, e, q⟩
  · exact ⟨x, y, e, .inl q⟩
  · exact ⟨x, y, e, .inr q⟩
theorem I2.or {p q : Prim} (h : I2 X p) (h' : I2 X q) : I2 X (pElse p q) := by
  obtain ⟨r, h1, h2⟩ := h
  obtain ⟨r', h3, h4⟩ := h'
  refine ⟨_, h1.or h3, primMono (primElse h2 h4) fun vs H Q q => ?_⟩
  rcases q with ⟨x, y, e, q⟩ | ⟨x, y, e, q⟩
  · exact ⟨x, y, e, .inl q⟩
  · exact ⟨x, y, e, .inr q⟩
theorem C1.or {f : Value} {p q : Prim} (h : C1 X f p) (h' : C1 X f q) : C1 X f (pElse p q) := by
  obtain ⟨r, h1, h2⟩ := h
  obtain ⟨r', h3, h4⟩ := h'
  exact ⟨_, fun pins s σ H xs us Q I rv q => q.elim (fun q => h1 pins s σ H xs us Q I rv q) fun q => h3 pins s σ H xs us Q I rv q, primElse h2 h4⟩

/-- two operands of known kinds -/
theorem all2_2 {R : V → D → Prop} {vs : List V} {a b : D} (h : All2 R vs [a, b]) : ∃ x y, vs = [x, y] ∧ R x a ∧ R y b := by
  cases h with
  | cons h1 t =>
    cases t with
    | cons h2 t => cases t; exact ⟨_, _, rfl, h1, h2⟩
theorem all2_1 {R : V → D → Prop} {vs : List V} {a : D} (h : All2 R vs [a]) : ∃ x, vs = [x] ∧ R x a := by
  cases h with
  | cons h1 t => cases t; exact ⟨_, rfl, h1⟩
theorem all2_3 {R : V → D → Prop} {vs : List V} {a b c : D} (h : All2 R vs [a, b, c]) : ∃ x y z, vs = [x, y, z] ∧ R x a ∧ R y b ∧ R z c := by
  cases h with
  | cons h1 t =>
    obtain ⟨y, z, rfl, h2, h3⟩ := all2_2 t
    exact ⟨_, _, _, rfl, h1, h2, h3⟩

/-! ### ints -/
def pII (c : Int → Int → Bool) (g : Int → Int → D) : Prim
  | [.int i, .int j] => if c i j = true then some (false, g i j) else none
  | _ => none
theorem prim_II {C : Int → Int → Prop} {gv : Int → Int → V} {c : Int → Int → Bool} {g : Int → Int → D} (hc : ∀ i j, c i j = true → C i j) (hg : ∀ F i j, Dp K F (gv i j) (g i j)) : PrimOk K (r2 (rI C gv)) (pII c g) := by
  intro F H vs ds fr d Q e a eq k
  unfold pII at eq
  split at eq
  · rename_i i j
    split at eq
    · rename_i hc'
      cases eq
      obtain ⟨x, y, rfl, hx, hy⟩ := all2_2 a
      exact ⟨x, y, rfl, i, j, hx.int, hy.int, hc i j hc', k F H _ (Grow.refl e) (hg F i j)⟩
    · cases eq
  · cases eq
def pII0 (g : Int → Int → D) : Prim
  | [.int i, .int j] => some (false, g i j)
  | _ => none
theorem prim_II0 {gv : Int → Int → V} {g : Int → Int → D} (hg : ∀ F i j, Dp K F (gv i j) (g i j)) : PrimOk K (r2 (rI0 gv)) (pII0 g) := by
  intro F H vs ds fr d Q e a eq k
  unfold pII0 at eq
  split at eq
  · rename_i i j
    cases eq
    obtain ⟨x, y, rfl, hx, hy⟩ := all2_2 a
    exact ⟨x, y, rfl, i, j, hx.int, hy.int, k F H _ (Grow.refl e) (hg F i j)⟩
  · cases eq
abbrev pAddI : Prim := pII0 fun i j => .int (i + j)
abbrev pSubI : Prim := pII0 fun i j => .int (i - j)
def small64 (i : Int) : Bool := decide (-18446744073709551616 < i) && decide (i < 18446744073709551616)
theorem small64_ok {i : Int} (h : small64 i = true) : -(2 ^ 64) < i ∧ i < 2 ^ 64 := by
  unfold small64 at h
  simp only [Bool.and_eq_true, decide_eq_true_eq] at h
  have : (2 : Int) ^ 64 = 18446744073709551616 := by decide
  omega
abbrev pMulI : Prim := pII (fun i j => small64 i || small64 j) fun i j => .int (i * j)
abbrev pDivI : Prim := pII (fun _ j => decide (0 < j) && decide (j < 1073741824)) fun i j => .int (i / j)
abbrev pModI : Prim := pII (fun _ j => decide (0 < j)) fun i j => .int (i % j)
abbrev pPowI : Prim := pII (fun i j => small64 i && (decide (0 ≤ j) && decide (j ≤ 1000))) fun i j => .int (i ^ j.toNat)
theorem b_addI : B2 X (binaryOp .Add) pAddI := ⟨_, op_add, prim_II0 fun _ _ _ => .int _⟩
theorem b_subI : B2 X (binaryOp .Sub) pSubI := ⟨_, op_sub, prim_II0 fun _ _ _ => .int _⟩
theorem b_mulI : B2 X (binaryOp .Mult) pMulI := ⟨_, op_mul, prim_II (fun i j h => by
  rcases Bool.or_eq_true_iff.mp h with h | h
  · exact .inl (small64_ok h)
  · exact .inr (small64_ok h)) fun _ _ _ => .int _⟩
theorem b_divI : B2 X (binaryOp .FloorDiv) pDivI := ⟨_, op_fdiv, prim_II (fun i j h => by
  simp only [Bool.and_eq_true, decide_eq_true_eq] at h
  exact h) fun _ _ _ => .int _⟩
theorem b_modI : B2 X (binaryOp .Mod) pModI := ⟨_, op_mod, prim_II (fun i j h => of_decide_eq_true h) fun _ _ _ => .int _⟩
theorem b_powI : B2 X (binaryOp .Pow) pPowI := ⟨_, op_pow, prim_II (fun i j h => by
  simp only [Bool.and_eq_true, decide_eq_true_eq] at h
  obtain ⟨h1, h2, h3⟩ := h
  have := small64_ok h1
  exact ⟨h2, by omega, by omega⟩) fun _ _ _ => .int _⟩
abbrev pLtI : Prim := pII0 fun i j => .bool (decide (i < j))
abbrev pLeI : Prim := pII0 fun i j => .bool (decide (i ≤ j))
abbrev pGtI : Prim := pII0 fun i j => .bool (decide (j < i))
abbrev pGeI : Prim := pII0 fun i j => .bool (decide (j ≤ i))
theorem b_ltI : B2 X (compareOp .Lt) pLtI := ⟨_, op_lt, prim_II0 fun _ _ _ => .bl _⟩
theorem b_leI : B2 X (compareOp .LtE) pLeI := ⟨_, op_le, prim_II0 fun _ _ _ => .bl _⟩
theorem b_gtI : B2 X (compareOp .Gt) pGtI := ⟨_, op_gt, prim_II0 fun _ _ _ => .bl _⟩
theorem b_geI : B2 X (compareOp .GtE) pGeI := ⟨_, op_ge, prim_II0 fun _ _ _ => .bl _⟩
def pNeg : Prim
  | [.int i] => some (false, .int (-i))
  | _ => none
theorem u_neg : U1 X (unaryOp .USub) pNeg := by
  refine ⟨_, un_neg, fun F H vs ds fr d Q e a eq k => ?_⟩
  unfold pNeg at eq
  split at eq
  · rename_i i
    cases eq
    obtain ⟨x, rfl, hx⟩ := all2_1 a
    exact ⟨x, rfl, i, hx.int, k F H _ (Grow.refl e) (.int _)⟩
  · cases eq

/-! ### texts -/
def pAddS : Prim
  | [.str i, .str j] => if okLen (i.length + j.length) = true then some (false, .str (i ++ j)) else none
  | _ => none
theorem b_addS : B2 X (binaryOp .Add) pAddS := by
  refine ⟨_, op_add_str, fun F H vs ds fr d Q e a eq k => ?_⟩
  unfold pAddS at eq
  split at eq
  · rename_i i j
    split at eq
    · rename_i hl
      cases eq
      obtain ⟨x, y, rfl, hx, hy⟩ := all2_2 a
      exact ⟨x, y, rfl, i, j, hx.str, hy.str, okLen_le hl, k F H _ (Grow.refl e) (.str _)⟩
    · cases eq
  · cases eq

/-! ### lists and tuples put together, repeated -/
def rCatL : R2 := fun x y H Q => ∃ l b xs zs, x = .ref l ∧ y = .ref b ∧ Rd H l (.lst xs) ∧ Rd H b (.lst zs) ∧ xs.length + zs.length ≤ sizeLine ∧ ∀ p, H p = none → Q (.ref p) (upd H p (.lst (xs ++ zs)))
theorem op_catL : OpR X (binaryOp .Add) rCatL := by
  intro pins s σ H x y v u Q I rx ry h
  obtain ⟨l, b, xs, zs, rfl, rfl, hH, hB, hz, q⟩ := h
  cases rx
  cases ry
  obtain ⟨z, its, n, r, e⟩ := hH.ok I.hok
  obtain ⟨z2, its2, n2, r2, e2⟩ := hB.ok I.hok
  have l1 := r.length
  have l2 := r2.length
  refine PySem.P.add_list e e2 ?_ (by rw [List.size_toArray, List.size_toArray]; omega)
  have ea : its.toArray ++ its2.toArray = (its ++ its2).toArray := by simp
  rw [ea]
  exact ⟨.ref _, _, I.lnew (t' := s.toks) (r.append r2) (by rw [List.length_append]; omega), rfl, q _ I.fresh⟩
theorem newLst {F H : Hp} {p : Addr} {vs : List V} {ds : List D} {Q : VK} (e : Ex F H) (hs : DpAll K F vs ds) (k : ∀ F' H' v, Grow F H F' H' → NewRes K H F' H' true (.list ds) v → Q v H') (hp : H p = none) : Q (.ref p) (upd H p (.lst vs)) :=
  k F _ _ (new_grow e hp) ⟨p, _, rfl, hp, e.none hp, upd_same, hs⟩
theorem newTup {F H : Hp} {p : Addr} {vs : List V} {ds : List D} {Q : VK} (e : Ex F H) (hs : DpAll K F vs ds) (k : ∀ F' H' v, Grow F H F' H' → NewRes K H F' H' false (.tuple ds) v → Q v H') {ob : Obj} (hp : H p = none) (hb : ob.dict = none) : Q (.ref p) (upd H p (.frz ob (.tup vs))) := by
  have g : Grow F H (upd F p (.frz ob (.tup vs))) (upd H p (.frz ob (.tup vs))) := new_growF e hp
  exact k _ _ _ g (.tup (TupAt.put hb) (DpAll.mono g.ff hs))
def pCatL : Prim
  | [.list a, .list b] => if okLen (a.length + b.length) = true then some (true, .list (a ++ b)) else none
  | _ => none
theorem b_catL : B2 X (binaryOp .Add) pCatL := by
  refine ⟨_, op_catL, fun F H vs ds fr d Q e a eq k => ?_⟩
  unfold pCatL at eq
  split at eq
  · split at eq
    · rename_i hl
      cases eq
      obtain ⟨x, y, rfl, hx, hy⟩ := all2_2 a
      obtain ⟨p, xs, rfl, h1, h2⟩ := hx.list e
      obtain ⟨q, ys, rfl, h3, h4⟩ := hy.list e
      refine ⟨_, _, rfl, p, q, xs, ys, rfl, rfl, h1, h3, ?_, fun z hz => newLst e (DpAll.append h2 h4) k hz⟩
      rw [DpAll.len h2, DpAll.len h4]
      exact okLen_le hl
    · cases eq
  · cases eq
def pCatT : Prim
  | [.tuple a, .tuple b] => if okLen (a.length + b.length) = true then some (false, .tuple (a ++ b)) else none
  | _ => none
theorem b_catT : B2 X (binaryOp .Add) pCatT := by
  refine ⟨_, op_catU, fun F H vs ds fr d Q e a eq k => ?_⟩
  unfold pCatT at eq
  split at eq
  · split at eq
    · rename_i hl
      cases eq
      obtain ⟨x, y, rfl, hx, hy⟩ := all2_2 a
      obtain ⟨p, xs, rfl, h1, h2⟩ := hx.tuple
      obtain ⟨q, ys, rfl, h3, h4⟩ := hy.tuple
      refine ⟨_, _, rfl, p, q, xs, ys, rfl, rfl, .inl (e.rd h1.rd), .inl (e.rd h3.rd), ?_, fun z => ?_, fun z1 z2 => ?_, fun z1 z2 w ob hw hb => newTup e (DpAll.append h2 h4) k hw hb⟩
      · rw [DpAll.len h2, DpAll.len h4]
        exact okLen_le hl
      · subst z
        cases h2
        exact k F H _ (Grow.refl e) (.tup h3 h4)
      · subst z2
        cases h4
        rw [List.append_nil] at k
        exact k F H _ (Grow.refl e) (.tup h1 h2)
    · cases eq
  · cases eq
def rRepL : R2 := fun x y H Q => ∃ l k xs, x = .ref l ∧ y = .int k ∧ Rd H l (.lst xs) ∧ -(2 ^ 63) ≤ k ∧ k < 2 ^ 63 ∧ xs.length * k.toNat ≤ sizeLine ∧
  ∀ p, H p = none → Q (.ref p) (upd H p (.lst (List.replicate k.toNat xs).flatten))
open PyProof.Rows in
theorem op_repL : OpR X (binaryOp .Mult) rRepL := by
  intro pins s σ H x y v u Q I rx ry h
  obtain ⟨l, k, xs, rfl, rfl, hH, h1, h2, hz, q⟩ := h
  cases rx
  obtain ⟨t, rfl⟩ := ry
  obtain ⟨z, its, n, r, e⟩ := hH.ok I.hok
  have hl := r.length
  have hlen : its.toArray.size * k.toNat ≤ sizeLine := by rw [List.size_toArray, ← hl]; exact hz
  have hcap : ¬ its.toArray.size * k.toNat > (2 ^ 63 - 1) / 8 := by
    have : (sizeLine : Nat) ≤ (2 ^ 63 - 1) / 8 := by decide
    omega
  have hfit : ¬ (!Builtin.List.listFitsIndex k) = true := by
    rw [fitsIndex_both h1 h2]
    exact Bool.false_ne_true
  have hlong : ¬ Builtin.List.listTooLong (its.toArray.size * k.toNat) = true := by
    rw [notLongL hlen]
    exact Bool.false_ne_true
  have hnew : List.foldl (fun x1 x2 => x1 ++ x2) #[] (List.replicate (if its.toArray.isEmpty = true then 0 else k.toNat) its.toArray) = (List.replicate k.toNat its).flatten.toArray := by
    have f0 : ∀ m : Nat, List.foldl (fun x1 x2 => x1 ++ x2) #[] (List.replicate m its.toArray) = (List.replicate m its).flatten.toArray := fun m => by
      have := foldl_rep its m []
      rw [List.nil_append] at this
      exact this
    rw [f0]
    cases its with
    | nil => simp
    | cons a r' => rw [if_neg (by simp)]
  refine wpAny_binaryOp_repeat_ref (T := "list") (U := "int") (by decide) ⟨_, e, rfl⟩ (fun s' => typeIs_int s' k t) noFill_list_mul F.fills_int_mul F.slot_int_rmul repeat_list F.slot_int_index.lookup
    (call_meets F.slot_int_rmul (typeIs_int s k t) F.entry_int_rmul (F.args_int_rmul_2 _ _) (int___rmul___int_list k t l its.toArray n)
      ⟨e, rfl, ⟨_, e, rfl⟩, call_meets F.slot_list_mul ⟨_, e, rfl⟩ F.entry_list_mul (F.args_list_mul_2 _ _) (AutoListH.list___mul___list_int_3 l its.toArray n k t hfit hcap hlong) ⟨e, ?_⟩⟩)
  rw [hnew]
  exact ⟨.ref _, _, I.lnew (t' := s.toks) (r.rep k.toNat) (by rw [PyProof.Rows.lm_len_rep_flat, Nat.mul_comm]; exact hz), rfl, q _ I.fresh⟩
end
end Ev
end
/-! ## Ev9 -/
section
set_option Elab.async false
set_option linter.all false
set_option maxRecDepth 100000
set_option maxHeartbeats 1000000
/-! Ev9: more primitives. -/
namespace Ev
open PySem L2
section
variable {X : Cx} {K : PySem.W.Frag}

/-! ### repeated -/
theorem DpAll.rep {F : Hp} {vs : List V} {ds : List D} (h : DpAll K F vs ds) : ∀ n : Nat, DpAll K F (List.replicate n vs).flatten (List.replicate n ds).flatten
  | 0 => .nil
  | n + 1 => by
    rw [List.replicate_succ, List.replicate_succ, List.flatten_cons, List.flatten_cons]
    exact DpAll.append h (DpAll.rep h n)
def pRepL : Prim
  | [.list a, .int k] => if (small62 k && okLen (a.length * k.toNat)) = true then some (true, .list (List.replicate k.toNat a).flatten) else none
  | _ => none
theorem b_repL : B2 X (binaryOp .Mult) pRepL := by
  refine ⟨_, op_repL, fun F H vs ds fr d Q e a eq k => ?_⟩
  unfold pRepL at eq
  split at eq
  · split at eq
    · rename_i hl
      cases eq
      rw [Bool.and_eq_true] at hl
      obtain ⟨x, y, rfl, hx, hy⟩ := all2_2 a
      obtain ⟨p, xs, rfl, h1, h2⟩ := hx.list e
      have hs := small62_lo hl.1
      refine ⟨_, _, rfl, p, _, xs, rfl, hy.int, h1, ?_, ?_, ?_, fun z hz => newLst e (DpAll.rep h2 _) k hz⟩
      · have : (2 : Int) ^ 62 = 4611686018427387904 := by decide
        have : (2 : Int) ^ 63 = 9223372036854775808 := by decide
        omega
      · have : (2 : Int) ^ 62 = 4611686018427387904 := by decide
        have : (2 : Int) ^ 63 = 9223372036854775808 := by decide
        omega
      · rw [DpAll.len h2]
        exact okLen_le hl.2
    · cases eq
  · cases eq
open PyProof.Rows in
theorem tuple_mul1 (l : Addr) (items : Array Value) (n : Nat) (dd : Option Addr) (sl : Array (Option Value)) (u : Tok) :
    Meets (Builtin.«tuple.__mul__» ⟨[.ref l, .int 1 u], []⟩) (fun _ R s => s.heap.get? l = some { cls := .type "tuple", dict := dd, data := .seq items n, slots := sl } ∧ R (.ok (.ret (Value.ref l))) s) :=
  .of_wp fun prog w A R s h => by
    obtain ⟨hp, g, d, tk, os⟩ := s
    obtain ⟨hl, h⟩ := h
    have f1 := AutoSeq1.idx_int
    have c1 : (items.isEmpty || (1 : Int) == 1) = true := by rw [show ((1 : Int) == 1) = true by decide, Bool.or_true]
    wp_walk using PySem.AutoSeq1.wpAny_loadPart' hl
    exact ⟨_, rfl, h⟩
open PyProof.Rows in
theorem tuple_mul0 (l : Addr) (items : Array Value) (n : Nat) (dd : Option Addr) (sl : Array (Option Value)) (u : Tok) (hne : items.isEmpty = false) :
    Meets (Builtin.«tuple.__mul__» ⟨[.ref l, .int 0 u], []⟩) (fun _ R s => s.heap.get? l = some { cls := .type "tuple", dict := dd, data := .seq items n, slots := sl } ∧
      R (.ok (.ret (Value.ref s.heap.objs.size))) { s with heap := s.heap.push { cls := Value.type "tuple", data := Data.seq #[] }, toks := s.toks }) :=
  .of_wp fun prog w A R s h => by
    obtain ⟨hp, g, d, tk, os⟩ := s
    obtain ⟨hl, h⟩ := h
    have f1 := AutoSeq1.idx_int
    have c1 : (items.isEmpty || (0 : Int) == 1) = false := by rw [hne]; decide
    have hsz : (#[] : Array Value).size ≤ sizeLine := Nat.zero_le _
    wp_walk using PySem.AutoSeq1.wpAny_loadPart' hl
    repeat (first
      | (refine wpAny_ite_false (decide_eq_false (by rw [c1]; exact Bool.false_ne_true)) ?_; wp_walk using PySem.AutoSeq1.wpAny_loadPart' hl)
      | (refine wpAny_ite_false (decide_eq_false (Nat.not_lt.mpr hsz)) ?_; wp_walk using PySem.AutoSeq1.wpAny_loadPart' hl))
    exact ⟨_, rfl, h⟩
def rRepT1 (K : PySem.W.Frag) : R2 := fun x y H Q => ∃ l xs, x = .ref l ∧ y = .int 1 ∧ SqT K H l xs ∧ Q (.ref l) H
def rRepT0 (K : PySem.W.Frag) : R2 := fun x y H Q => ∃ l xs, x = .ref l ∧ y = .int 0 ∧ SqT K H l xs ∧ xs ≠ [] ∧ NewT H [] Q
open PyProof.Rows in
theorem op_repT1 : OpR X (binaryOp .Mult) (rRepT1 X.K) := by
  intro pins s σ H x y v u Q I rx ry h
  obtain ⟨l, xs, rfl, rfl, hT, q⟩ := h
  cases rx
  obtain ⟨t, rfl⟩ := ry
  obtain ⟨its, r, ⟨⟨cls, dd, data, sl⟩, ho, hc, n, hd⟩, hs⟩ := I.tuple hT
  simp only at hc hd
  subst hc hd
  exact wpAny_binaryOp_repeat_ref (T := "tuple") (U := "int") (by decide) ⟨_, ho, rfl⟩ (fun s' => typeIs_int s' 1 t) noFill_tuple_mul F.fills_int_mul F.slot_int_rmul repeat_tuple F.slot_int_index.lookup
    (call_meets F.slot_int_rmul (typeIs_int s 1 t) F.entry_int_rmul (F.args_int_rmul_2 _ _) (int_rmul_tuple 1 t l its.toArray n dd sl)
      ⟨ho, rfl, ⟨_, ho, rfl⟩, call_meets F.slot_tuple_mul ⟨_, ho, rfl⟩ F.entry_tuple_mul (F.args_tuple_mul_2 _ _) (tuple_mul1 l its.toArray n dd sl t) ⟨ho, ⟨.ref l, H, I, rfl, q⟩⟩⟩)
open PyProof.Rows in
theorem op_repT0 : OpR X (binaryOp .Mult) (rRepT0 X.K) := by
  intro pins s σ H x y v u Q I rx ry h
  obtain ⟨l, xs, rfl, rfl, hT, hne, q⟩ := h
  cases rx
  obtain ⟨t, rfl⟩ := ry
  obtain ⟨its, r, ⟨⟨cls, dd, data, sl⟩, ho, hc, n, hd⟩, hs⟩ := I.tuple hT
  simp only at hc hd
  subst hc hd
  have hi : its.toArray.isEmpty = false := by
    cases its with
    | nil => exact absurd (List.eq_nil_of_length_eq_zero r.length) hne
    | cons a b => rfl
  refine wpAny_binaryOp_repeat_ref (T := "tuple") (U := "int") (by decide) ⟨_, ho, rfl⟩ (fun s' => typeIs_int s' 0 t) noFill_tuple_mul F.fills_int_mul F.slot_int_rmul repeat_tuple F.slot_int_index.lookup
    (call_meets F.slot_int_rmul (typeIs_int s 0 t) F.entry_int_rmul (F.args_int_rmul_2 _ _) (int_rmul_tuple 0 t l its.toArray n dd sl)
      ⟨ho, rfl, ⟨_, ho, rfl⟩, call_meets F.slot_tuple_mul ⟨_, ho, rfl⟩ F.entry_tuple_mul (F.args_tuple_mul_2 _ _) (tuple_mul0 l its.toArray n dd sl t hi) ⟨ho, ?_⟩⟩)
  exact endT (its := []) I .nil (Nat.zero_le _) q
def pRepT : Prim
  | [.tuple (a :: as), .int k] => if (decide (2 ≤ k) && (decide (k ≤ 1000) && Nat.ble (a :: as).length 1000)) = true then some (false, .tuple (List.replicate k.toNat (a :: as)).flatten) else none
  | _ => none
def pRepT1 : Prim
  | [.tuple as, .int 1] => some (false, .tuple as)
  | _ => none
def pRepT0 : Prim
  | [.tuple (_ :: _), .int 0] => some (false, .tuple [])
  | _ => none
theorem b_repT : B2 X (binaryOp .Mult) pRepT := by
  refine ⟨_, op_repU, fun F H vs ds fr d Q e a eq k => ?_⟩
  unfold pRepT at eq
  split at eq
  · split at eq
    · rename_i hl
      cases eq
      simp only [Bool.and_eq_true, decide_eq_true_eq] at hl
      obtain ⟨x, y, rfl, hx, hy⟩ := all2_2 a
      obtain ⟨p, xs, rfl, h1, h2⟩ := hx.tuple
      refine ⟨_, _, rfl, p, _, xs, rfl, hy.int, .inl (e.rd h1.rd), ?_, hl.1, hl.2.1, ?_, fun z ob hz hb => newTup e (DpAll.rep h2 _) k hz hb⟩
      · rintro rfl
        cases h2
      · rw [DpAll.len h2]
        exact Nat.le_of_ble_eq_true hl.2.2
    · cases eq
  · cases eq
theorem b_repT1 : B2 X (binaryOp .Mult) pRepT1 := by
  refine ⟨_, op_repT1, fun F H vs ds fr d Q e a eq k => ?_⟩
  unfold pRepT1 at eq
  split at eq
  · cases eq
    obtain ⟨x, y, rfl, hx, hy⟩ := all2_2 a
    obtain ⟨p, xs, rfl, h1, h2⟩ := hx.tuple
    exact ⟨_, _, rfl, p, xs, rfl, hy.int, .inl (e.rd h1.rd), k F H _ (Grow.refl e) (.tup h1 h2)⟩
  · cases eq
theorem b_repT0 : B2 X (binaryOp .Mult) pRepT0 := by
  refine ⟨_, op_repT0, fun F H vs ds fr d Q e a eq k => ?_⟩
  unfold pRepT0 at eq
  split at eq
  · cases eq
    obtain ⟨x, y, rfl, hx, hy⟩ := all2_2 a
    obtain ⟨p, xs, rfl, h1, h2⟩ := hx.tuple
    refine ⟨_, _, rfl, p, xs, rfl, hy.int, .inl (e.rd h1.rd), ?_, fun z ob hz hb => newTup e .nil k hz hb⟩
    rintro rfl
    cases h2
  · cases eq

/-! ### == and != -/
def pEqS : Prim
  | [.int i, .int j] => some (false, .bool (decide (i = j)))
  | [.bool i, .bool j] => some (false, .bool (decide (i = j)))
  | [.str i, .str j] => some (false, .bool (decide (i = j)))
  | _ => none
theorem dec_V {α : Type} [DecidableEq α] {f : α → V} (hf : ∀ a b, f a = f b → a = b) (a b : α) : decide (f a = f b) = decide (a = b) := by
  by_cases h : a = b
  · subst h; simp
  · rw [decide_eq_false h, decide_eq_false fun q => h (hf a b q)]
theorem b_eqS : B2 X (compareOp .Eq) pEqS := by
  refine ⟨_, op_eq, fun F H vs ds fr d Q e a eq k => ?_⟩
  unfold pEqS at eq
  split at eq <;> first | cases eq | skip
  · obtain ⟨x, y, rfl, hx, hy⟩ := all2_2 a
    rw [hx.int, hy.int]
    exact ⟨_, _, rfl, rfl, by rw [dec_V (fun a b h => V.int.inj h)]; exact k F H _ (Grow.refl e) (.bl _)⟩
  · obtain ⟨x, y, rfl, hx, hy⟩ := all2_2 a
    rw [hx.bl, hy.bl]
    exact ⟨_, _, rfl, rfl, by rw [dec_V (fun a b h => V.bl.inj h)]; exact k F H _ (Grow.refl e) (.bl _)⟩
  · obtain ⟨x, y, rfl, hx, hy⟩ := all2_2 a
    rw [hx.str, hy.str]
    exact ⟨_, _, rfl, rfl, by rw [dec_V (fun a b h => V.str.inj h)]; exact k F H _ (Grow.refl e) (.bl _)⟩
def pNeS : Prim
  | [.int i, .int j] => some (false, .bool (!decide (i = j)))
  | [.bool i, .bool j] => some (false, .bool (!decide (i = j)))
  | [.str i, .str j] => some (false, .bool (!decide (i = j)))
  | _ => none
theorem b_neS : B2 X (compareOp .NotEq) pNeS := by
  refine ⟨_, op_ne, fun F H vs ds fr d Q e a eq k => ?_⟩
  unfold pNeS at eq
  split at eq <;> first | cases eq | skip
  · obtain ⟨x, y, rfl, hx, hy⟩ := all2_2 a
    rw [hx.int, hy.int]
    exact ⟨_, _, rfl, rfl, by rw [dec_V (fun a b h => V.int.inj h)]; exact k F H _ (Grow.refl e) (.bl _)⟩
  · obtain ⟨x, y, rfl, hx, hy⟩ := all2_2 a
    rw [hx.bl, hy.bl]
    exact ⟨_, _, rfl, rfl, by rw [dec_V (fun a b h => V.bl.inj h)]; exact k F H _ (Grow.refl e) (.bl _)⟩
  · obtain ⟨x, y, rfl, hx, hy⟩ := all2_2 a
    rw [hx.str, hy.str]
    exact ⟨_, _, rfl, rfl, by rw [dec_V (fun a b h => V.str.inj h)]; exact k F H _ (Grow.refl e) (.bl _)⟩
def noDict : D → Bool
  | .dict _ => false
  | _ => true
theorem noDict_ne {d : D} (h : noDict d = true) : ∀ es, d ≠ .dict es := fun es q => by subst q; cases h
def pEqD : Prim
  | [a, b] => if (SeqAt.shaped a && SeqAt.shaped b && noDict a && noDict b) = true then some (false, .bool (PyData.eqv a b)) else none
  | _ => none
def pNeD : Prim
  | [a, b] => if (SeqAt.shaped a && SeqAt.shaped b && noDict a && noDict b) = true then some (false, .bool (!PyData.eqv a b)) else none
  | _ => none
theorem b_eqD (hu : X.A.units + 64 < cLine) : B2 X (compareOp .Eq) pEqD := by
  refine ⟨_, op_eqD hu, fun F H vs ds fr d Q e a eq k => ?_⟩
  unfold pEqD at eq
  split at eq
  · split at eq
    · rename_i hl
      cases eq
      simp only [Bool.and_eq_true] at hl
      obtain ⟨x, y, rfl, hx, hy⟩ := all2_2 a
      exact ⟨_, _, rfl, _, _, (hx.dp e (noDict_ne hl.1.2)).old, (hy.dp e (noDict_ne hl.2)).old, hl.1.1.1, hl.1.1.2, k F H _ (Grow.refl e) (.bl _)⟩
    · cases eq
  · cases eq
theorem b_neD (hu : X.A.units + 64 < cLine) : B2 X (compareOp .NotEq) pNeD := by
  refine ⟨_, op_neD hu, fun F H vs ds fr d Q e a eq k => ?_⟩
  unfold pNeD at eq
  split at eq
  · split at eq
    · rename_i hl
      cases eq
      simp only [Bool.and_eq_true] at hl
      obtain ⟨x, y, rfl, hx, hy⟩ := all2_2 a
      exact ⟨_, _, rfl, _, _, (hx.dp e (noDict_ne hl.1.2)).old, (hy.dp e (noDict_ne hl.2)).old, hl.1.1.1, hl.1.1.2, k F H _ (Grow.refl e) (.bl _)⟩
    · cases eq
  · cases eq
/-! ### in -/
/-- ints among ints -/
def allInt : List D → Option (List Int)
  | [] => some []
  | .int i :: ds => match allInt ds with
    | some is => some (i :: is)
    | none => none
  | _ => none
theorem allInt_map : ∀ {ds : List D} {is : List Int}, allInt ds = some is → ds = is.map .int
  | [], is, h => by cases h; rfl
  | .int i :: ds, is, h => by
    have h : (match allInt ds with | some is => some (i :: is) | none => none) = some is := h
    split at h
    · rename_i js e
      cases h
      rw [allInt_map e]; rfl
    · cases h
  | .none :: _, _, h => by cases h
  | .bool _ :: _, _, h => by cases h
  | .str _ :: _, _, h => by cases h
  | .list _ :: _, _, h => by cases h
  | .tuple _ :: _, _, h => by cases h
  | .dict _ :: _, _, h => by cases h
theorem DpAll.ints {F : Hp} : ∀ {vs : List V} {is : List Int}, DpAll K F vs (is.map .int) → vs = is.map V.int
  | _, [], h => by cases h; rfl
  | _, i :: is, h => by
    cases h with
    | cons h t => cases h; rw [DpAll.ints t]; rfl
theorem inV_ints (i : Int) (is : List Int) : inV (.int i) (is.map V.int) = is.contains i := by
  unfold inV
  rw [List.any_map]
  induction is with
  | nil => rfl
  | cons j is ih =>
    rw [List.any_cons, List.contains_cons, ih]
    congr 1
    show (j == i) = (i == j)
    exact BEq.comm
theorem flat_ints (is : List Int) : (is.map V.int).all flatV = true := by
  rw [List.all_map]; simp [flatV, Function.comp_def]
def pInI (neg : Bool) : Prim
  | [.int i, .list ds] => match allInt ds with
    | some is => some (false, .bool (if neg then !is.contains i else is.contains i))
    | none => none
  | [.int i, .tuple ds] => match allInt ds with
    | some is => some (false, .bool (if neg then !is.contains i else is.contains i))
    | none => none
  | _ => none
theorem prim_inI (neg : Bool) : PrimOk K (r2 (rIn K neg)) (pInI neg) := by
  intro F H vs ds fr d Q e a eq k
  unfold pInI at eq
  split at eq
  · split at eq
    · rename_i is ei
      cases eq
      obtain ⟨x, y, rfl, hx, hy⟩ := all2_2 a
      obtain ⟨p, xs, rfl, h1, h2⟩ := hy.list e
      rw [allInt_map ei] at h2
      have := DpAll.ints h2
      subst this
      rw [hx.int]
      exact ⟨_, _, rfl, p, _, rfl, .inl (.inl h1), rfl, flat_ints is, by rw [inV_ints]; exact k F H _ (Grow.refl e) (.bl _)⟩
    · cases eq
  · split at eq
    · rename_i is ei
      cases eq
      obtain ⟨x, y, rfl, hx, hy⟩ := all2_2 a
      obtain ⟨p, xs, rfl, h1, h2⟩ := hy.tuple
      rw [allInt_map ei] at h2
      have := DpAll.ints h2
      subst this
      rw [hx.int]
      exact ⟨_, _, rfl, p, _, rfl, .inr (.inl (e.rd h1.rd)), rfl, flat_ints is, by rw [inV_ints]; exact k F H _ (Grow.refl e) (.bl _)⟩
    · cases eq
  · cases eq
theorem b_inI : B2 X (compareOp .In) (pInI false) := ⟨_, op_in_seq, prim_inI false⟩
theorem b_notInI : B2 X (compareOp .NotIn) (pInI true) := ⟨_, op_notIn_seq, prim_inI true⟩
/-! ### items -/
def pIx : Prim
  | [.list ds, .int i] => match atI ds i with
    | some d => some (false, d)
    | none => none
  | [.tuple ds, .int i] => match atI ds i with
    | some d => some (false, d)
    | none => none
  | _ => none
theorem atI_dp {F : Hp} {vs : List V} {ds : List D} {i : Int} {d : D} (h : DpAll K F vs ds) (e : atI ds i = some d) : ∃ v, atI vs i = some v ∧ Dp K F v d := by
  unfold atI at e ⊢
  rw [DpAll.len h]
  cases q : ixN ds.length i with
  | none => rw [q] at e; cases e
  | some j =>
    rw [q] at e
    obtain ⟨v, h1, h2⟩ := DpAll.get h (show ds[j]? = some d from e)
    exact ⟨v, h1, h2⟩
theorem i_ix : I2 X pIx := by
  refine ⟨_, ix_seq, fun F H vs ds fr d Q e a eq k => ?_⟩
  unfold pIx at eq
  split at eq
  · split at eq
    · rename_i d' ed
      cases eq
      obtain ⟨x, y, rfl, hx, hy⟩ := all2_2 a
      obtain ⟨p, xs, rfl, h1, h2⟩ := hx.list e
      obtain ⟨v, h3, h4⟩ := atI_dp h2 ed
      exact ⟨_, _, rfl, .inl ⟨p, xs, _, v, rfl, hy.int, .inl h1, h3, k F H v (Grow.refl e) h4⟩⟩
    · cases eq
  · split at eq
    · rename_i d' ed
      cases eq
      obtain ⟨x, y, rfl, hx, hy⟩ := all2_2 a
      obtain ⟨p, xs, rfl, h1, h2⟩ := hx.tuple
      obtain ⟨v, h3, h4⟩ := atI_dp h2 ed
      exact ⟨_, _, rfl, .inr (.inl ⟨p, xs, _, v, rfl, hy.int, .inl (e.rd h1.rd), h3, k F H v (Grow.refl e) h4⟩)⟩
    · cases eq
  · cases eq
/-! ### calls -/
def pLen : Prim
  | [.list ds] => some (false, .int ds.length)
  | [.tuple ds] => some (false, .int ds.length)
  | _ => none
theorem c_len : C1 X (.builtin "len") pLen := by
  refine ⟨_, call_len_seq, fun F H vs ds fr d Q e a eq k => ?_⟩
  unfold pLen at eq
  split at eq <;> first | cases eq | skip
  · obtain ⟨x, rfl, hx⟩ := all2_1 a
    obtain ⟨p, xs, rfl, h1, h2⟩ := hx.list e
    exact ⟨p, xs, rfl, .inl (.inl h1), k F H _ (Grow.refl e) (by rw [DpAll.len h2]; exact .int _)⟩
  · obtain ⟨x, rfl, hx⟩ := all2_1 a
    obtain ⟨p, xs, rfl, h1, h2⟩ := hx.tuple
    exact ⟨p, xs, rfl, .inr (.inl (e.rd h1.rd)), k F H _ (Grow.refl e) (by rw [DpAll.len h2]; exact .int _)⟩
def pLenS : Prim
  | [.str z] => if okLen z.length = true then some (false, .int z.length) else none
  | _ => none
theorem c_lenS : C1 X (.builtin "len") pLenS := by
  refine ⟨_, call_len_str, fun F H vs ds fr d Q e a eq k => ?_⟩
  unfold pLenS at eq
  split at eq
  · split at eq
    · rename_i hl
      cases eq
      obtain ⟨x, rfl, hx⟩ := all2_1 a
      exact ⟨_, by rw [hx.str], okLen_le hl, k F H _ (Grow.refl e) (.int _)⟩
    · cases eq
  · cases eq
def pSum : Prim
  | [.list ds] => match allInt ds with
    | some is => some (false, .int is.sum)
    | none => none
  | _ => none
theorem c_sum (hc : X.calm = true) : C1 X (.builtin "sum") pSum := by
  refine ⟨_, cr_sum hc, fun F H vs ds fr d Q e a eq k => ?_⟩
  unfold pSum at eq
  split at eq
  · split at eq
    · rename_i is ei
      cases eq
      obtain ⟨x, rfl, hx⟩ := all2_1 a
      obtain ⟨p, xs, rfl, h1, h2⟩ := hx.list e
      rw [allInt_map ei] at h2
      have := DpAll.ints h2
      subst this
      exact ⟨p, is, rfl, .inl h1, k F H _ (Grow.refl e) (.int _)⟩
    · cases eq
  · cases eq
def allBool : List D → Option (List Bool)
  | [] => some []
  | .bool i :: ds => match allBool ds with
    | some is => some (i :: is)
    | none => none
  | _ => none
theorem allBool_map : ∀ {ds : List D} {is : List Bool}, allBool ds = some is → ds = is.map .bool
  | [], is, h => by cases h; rfl
  | .bool i :: ds, is, h => by
    have h : (match allBool ds with | some is => some (i :: is) | none => none) = some is := h
    split at h
    · rename_i js e
      cases h
      rw [allBool_map e]; rfl
    · cases h
  | .none :: _, _, h => by cases h
  | .int _ :: _, _, h => by cases h
  | .str _ :: _, _, h => by cases h
  | .list _ :: _, _, h => by cases h
  | .tuple _ :: _, _, h => by cases h
  | .dict _ :: _, _, h => by cases h
theorem DpAll.bools {F : Hp} : ∀ {vs : List V} {is : List Bool}, DpAll K F vs (is.map .bool) → vs = is.map V.bl
  | _, [], h => by cases h; rfl
  | _, i :: is, h => by
    cases h with
    | cons h t => cases h; rw [DpAll.bools t]; rfl
def pAll : Prim
  | [.list ds] => match allBool ds with
    | some is => some (false, .bool (is.all id))
    | none => none
  | _ => none
def pAny : Prim
  | [.list ds] => match allBool ds with
    | some is => some (false, .bool (is.any id))
    | none => none
  | _ => none
theorem c_all (hc : X.calm = true) : C1 X (.builtin "all") pAll := by
  refine ⟨_, cr_all hc, fun F H vs ds fr d Q e a eq k => ?_⟩
  unfold pAll at eq
  split at eq
  · split at eq
    · rename_i is ei
      cases eq
      obtain ⟨x, rfl, hx⟩ := all2_1 a
      obtain ⟨p, xs, rfl, h1, h2⟩ := hx.list e
      rw [allBool_map ei] at h2
      have := DpAll.bools h2
      subst this
      exact ⟨p, is, rfl, .inl h1, k F H _ (Grow.refl e) (.bl _)⟩
    · cases eq
  · cases eq
theorem c_any (hc : X.calm = true) : C1 X (.builtin "any") pAny := by
  refine ⟨_, cr_any hc, fun F H vs ds fr d Q e a eq k => ?_⟩
  unfold pAny at eq
  split at eq
  · split at eq
    · rename_i is ei
      cases eq
      obtain ⟨x, rfl, hx⟩ := all2_1 a
      obtain ⟨p, xs, rfl, h1, h2⟩ := hx.list e
      rw [allBool_map ei] at h2
      have := DpAll.bools h2
      subst this
      exact ⟨p, is, rfl, .inl h1, k F H _ (Grow.refl e) (.bl _)⟩
    · cases eq
  · cases eq
def pAbs : Prim
  | [.int i] => some (false, .int (if i < 0 then -i else i))
  | _ => none
theorem c_abs : C1 X (.builtin "abs") pAbs := by
  refine ⟨_, call_abs, fun F H vs ds fr d Q e a eq k => ?_⟩
  unfold pAbs at eq
  split at eq
  · rename_i i
    cases eq
    obtain ⟨x, rfl, hx⟩ := all2_1 a
    exact ⟨i, by rw [hx.int], k F H _ (Grow.refl e) (.int _)⟩
  · cases eq
def pInt : Prim
  | [.int i] => some (false, .int i)
  | [.bool b] => some (false, .int (if b then 1 else 0))
  | _ => none
theorem c_int : C1 X (.type "int") pInt := by
  refine ⟨_, call_int1, fun F H vs ds fr d Q e a eq k => ?_⟩
  unfold pInt at eq
  split at eq <;> first | cases eq | skip
  · obtain ⟨x, rfl, hx⟩ := all2_1 a
    exact .inl ⟨_, by rw [hx.int], k F H _ (Grow.refl e) (.int _)⟩
  · obtain ⟨x, rfl, hx⟩ := all2_1 a
    exact .inr ⟨_, by rw [hx.bl], k F H _ (Grow.refl e) (.int _)⟩
def pMin2 : Prim
  | [.int i, .int j] => some (false, .int (if j < i then j else i))
  | _ => none
theorem c_min2 (hc : X.calm = true) : C1 X (.builtin "min") pMin2 := by
  refine ⟨_, call_min2 hc, fun F H vs ds fr d Q e a eq k => ?_⟩
  unfold pMin2 at eq
  split at eq
  · cases eq
    obtain ⟨x, y, rfl, hx, hy⟩ := all2_2 a
    exact ⟨_, _, by rw [hx.int, hy.int], k F H _ (Grow.refl e) (.int _)⟩
  · cases eq
def pMax2 : Prim
  | [.int i, .int j] => some (false, .int (if j > i then j else i))
  | _ => none
theorem c_max2 (hc : X.calm = true) : C1 X (.builtin "max") pMax2 := by
  refine ⟨_, call_max2 hc, fun F H vs ds fr d Q e a eq k => ?_⟩
  unfold pMax2 at eq
  split at eq
  · cases eq
    obtain ⟨x, y, rfl, hx, hy⟩ := all2_2 a
    exact ⟨_, _, by rw [hx.int, hy.int], k F H _ (Grow.refl e) (.int _)⟩
  · cases eq
def pList : Prim
  | [.list ds] => some (true, .list ds)
  | [.tuple ds] => some (true, .list ds)
  | _ => none
theorem c_list : C1 X (.type "list") pList := by
  refine ⟨_, call_list_of, fun F H vs ds fr d Q e a eq k => ?_⟩
  unfold pList at eq
  split at eq <;> first | cases eq | skip
  · obtain ⟨x, rfl, hx⟩ := all2_1 a
    obtain ⟨p, xs, rfl, h1, h2⟩ := hx.list e
    exact ⟨p, xs, rfl, .inl (.inl h1), fun z hz => newLst e h2 k hz⟩
  · obtain ⟨x, rfl, hx⟩ := all2_1 a
    obtain ⟨p, xs, rfl, h1, h2⟩ := hx.tuple
    exact ⟨p, xs, rfl, .inr (.inl (e.rd h1.rd)), fun z hz => newLst e h2 k hz⟩
def pTuple : Prim
  | [.list ds] => some (false, .tuple ds)
  | [.tuple ds] => some (false, .tuple ds)
  | _ => none
theorem c_tuple : C1 X (.type "tuple") pTuple := by
  refine ⟨_, call_tupOf, fun F H vs ds fr d Q e a eq k => ?_⟩
  unfold pTuple at eq
  split at eq <;> first | cases eq | skip
  · obtain ⟨x, rfl, hx⟩ := all2_1 a
    obtain ⟨p, xs, rfl, h1, h2⟩ := hx.list e
    exact ⟨p, xs, rfl, .inl ⟨.inl h1, fun z ob hz hb => newTup e h2 k hz hb⟩⟩
  · obtain ⟨x, rfl, hx⟩ := all2_1 a
    obtain ⟨p, xs, rfl, h1, h2⟩ := hx.tuple
    exact ⟨p, xs, rfl, .inr ⟨.inl (e.rd h1.rd), k F H _ (Grow.refl e) (.tup h1 h2)⟩⟩
end
end Ev
end
/-! ## Ev10 -/
section
set_option Elab.async false
set_option linter.all false
set_option maxRecDepth 100000
set_option maxHeartbeats 1000000
/-! Ev10: sum of a tuple, isinstance, slices, sorted, range as a value, is None. -/
namespace Ev
open PySem L2
section
variable {X : Cx} {K : PySem.W.Frag}
/-! ### sum(t) -/
def rSumT (K : PySem.W.Frag) : List V → Hp → VK → Prop := fun vs H Q => ∃ (a : Addr) (ns : List Int), vs = [V.ref a] ∧ SqT K H a (ns.map V.int) ∧ Q (.int ns.sum) H
open PyProof.Rows in
theorem cr_sumT (hc : X.calm = true) : CallR X (.builtin "sum") (rSumT X.K) := by
  intro pins s σ H vs us Q I r h
  obtain ⟨a, ns, rfl, hs, q⟩ := h
  obtain ⟨its, rv, hl, _⟩ := I.tuple hs
  rw [Vals.ref1 r]
  have hi := rv.ints
  obtain ⟨xs, e⟩ := hi.allInts.items
  have hn : numsOf (intItems xs).toList = ns := by rw [← e]; exact hi.numsOf
  rw [nums_intItems] at hn
  have hl' : s.heap.IsTuple a its.toArray := hl
  rw [e] at hl'
  refine PySem.W.ktm_sumG (I.ok.hd hc) hl' fun h' tk t' hk => ?_
  rw [preSum_eq, List.take_of_length_le (by simp), hn]
  exact ⟨.int _, H, I.kept hk, ⟨_, rfl⟩, q⟩
def pSumT : Prim
  | [.tuple ds] => match allInt ds with
    | some is => some (false, .int is.sum)
    | none => none
  | _ => none
theorem c_sumT (hc : X.calm = true) : C1 X (.builtin "sum") pSumT := by
  refine ⟨_, cr_sumT hc, fun F H vs ds fr d Q e a eq k => ?_⟩
  unfold pSumT at eq
  split at eq
  · split at eq
    · rename_i is ei
      cases eq
      obtain ⟨x, rfl, hx⟩ := all2_1 a
      obtain ⟨p, xs, rfl, h1, h2⟩ := hx.tuple
      rw [allInt_map ei] at h2
      have := DpAll.ints h2
      subst this
      exact ⟨p, is, rfl, .inl (e.rd h1.rd), k F H _ (Grow.refl e) (.int _)⟩
    · cases eq
  · cases eq
/-! ### is None, is not None -/
def isNone : D → Bool
  | .none => true
  | _ => false
def pIsN (neg : Bool) : Prim
  | [d, .none] => some (false, .bool (if neg then !isNone d else isNone d))
  | _ => none
theorem opr_non {F H : Hp} {v : V} {d : D} (h : Opr K F H v d) : decide (v = .non) = isNone d := by
  cases d with
  | none => rw [h.non]; rfl
  | bool b => rw [h.bl]; rfl
  | int b => rw [h.int]; rfl
  | str b => rw [h.str]; rfl
  | list ds =>
    rcases h with h | ⟨a, o, rfl, _⟩
    · cases h; rfl
    · rfl
  | tuple ds => obtain ⟨a, vs, rfl, _⟩ := h.tuple; rfl
  | dict es =>
    rcases h with h | ⟨a, o, rfl, _⟩
    · cases h
    · rfl
theorem b_isN : B2 X (compareOp .Is) (pIsN false) := by
  refine ⟨_, op_isN, fun F H vs ds fr d Q e a eq k => ?_⟩
  unfold pIsN at eq
  split at eq
  · cases eq
    obtain ⟨x, y, rfl, hx, hy⟩ := all2_2 a
    exact ⟨x, y, rfl, hy.non, by rw [opr_non hx]; exact k F H _ (Grow.refl e) (.bl _)⟩
  · cases eq
theorem b_notN : B2 X (compareOp .IsNot) (pIsN true) := by
  refine ⟨_, op_notN, fun F H vs ds fr d Q e a eq k => ?_⟩
  unfold pIsN at eq
  split at eq
  · cases eq
    obtain ⟨x, y, rfl, hx, hy⟩ := all2_2 a
    exact ⟨x, y, rfl, hy.non, by rw [opr_non hx]; exact k F H _ (Grow.refl e) (.bl _)⟩
  · cases eq
def pIsB (neg : Bool) : Prim
  | [.bool a, .bool b] => some (false, .bool (if neg then !decide (a = b) else decide (a = b)))
  | _ => none
theorem b_isB : B2 X (compareOp .Is) (pIsB false) := by
  refine ⟨_, op_isBl, fun F H vs ds fr d Q e a eq k => ?_⟩
  unfold pIsB at eq
  split at eq
  · cases eq
    obtain ⟨x, y, rfl, hx, hy⟩ := all2_2 a
    exact ⟨x, y, rfl, _, _, hx.bl, hy.bl, k F H _ (Grow.refl e) (.bl _)⟩
  · cases eq
theorem b_notB : B2 X (compareOp .IsNot) (pIsB true) := by
  refine ⟨_, op_notBl, fun F H vs ds fr d Q e a eq k => ?_⟩
  unfold pIsB at eq
  split at eq
  · cases eq
    obtain ⟨x, y, rfl, hx, hy⟩ := all2_2 a
    exact ⟨x, y, rfl, _, _, hx.bl, hy.bl, k F H _ (Grow.refl e) (.bl _)⟩
  · cases eq
end
/-! ### isinstance -/
inductive Ty where
  | int | bool | str | list | tuple | dict | none
def Ty.name : Ty → String
  | .int => "int" | .bool => "bool" | .str => "str" | .list => "list" | .tuple => "tuple" | .dict => "dict" | .none => "NoneType"
def tyD : D → Ty
  | .none => .none | .bool _ => .bool | .int _ => .int | .str _ => .str | .list _ => .list | .tuple _ => .tuple | .dict _ => .dict
def isT : Ty → Ty → Bool
  | .int, .int => true | .bool, .bool => true | .bool, .int => true | .str, .str => true | .list, .list => true | .tuple, .tuple => true | .dict, .dict => true
  | _, _ => false
theorem kit_T : ∀ t u : Ty, u ≠ .none → kitB t.name u.name = some (isT t u) := by
  intro t u hu
  cases u <;> first | exact absurd rfl hu | (cases t <;> decide +kernel)
def fIsi (u : Ty) (o : DO) : DE := fun σd => match o σd with
  | some (o, σ1) => match res σ1 o with
    | some d => some (false, .bool (isT (tyD d) u), σ1)
    | none => none
  | none => none
section
variable {K : Kp} {σ : L2.St} {H : Hp}
theorem tyX_of {F : Hp} (e : Ex F H) {v : V} {d : D} (h : Opr K F H v d) : TyX K H v (.type (tyD d).name) := by
  cases d with
  | none => rw [h.non]; exact .base .non
  | bool b => rw [h.bl]; exact .base (.bl b)
  | int b => rw [h.int]; exact .base (.int b)
  | str b => rw [h.str]; exact .base (.str b)
  | list ds =>
    obtain ⟨a, vs, rfl, h1, _⟩ := h.list e
    rcases h1 with h1 | ⟨o, h1⟩
    · exact .base (.lst h1)
    · exact .base (.frz h1)
  | tuple ds =>
    obtain ⟨a, vs, rfl, h1, _⟩ := h.tuple
    rcases e.rd h1.rd with h1 | ⟨o, h1⟩
    · exact .base (.tup h1)
    · exact .fTuple h1
  | dict es =>
    rcases h with h | ⟨a, o, rfl, hf, hh, ho⟩
    · cases h
    · obtain ⟨kvs, rfl, _⟩ := ho.dict
      exact .base (.dK hh)
theorem rd_isi {u : Ty} (hu : u ≠ .none) {o : DO} {Q : VK} (h : rdE K (fIsi u o) σ H Q) : tCB (rIsi K) (tCons (rdO K o) (tCons (tC (.ty u.name)) tNil)) σ H Q := by
  obtain ⟨F, σd, R, fr, d, σd', e, k⟩ := h
  unfold fIsi at e
  split at e
  · rename_i o1 σ1 e1
    split at e
    · rename_i d1 e2
      cases e
      refine ⟨F, σd, R, o1, _, e1, fun F1 H1 v R1 g1 ok => ?_⟩
      exact ⟨v, .ty u.name, _, _, _, rfl, .ty _, tyX_of R1.fh (opr_of R1 ok e2), kit_ty (kit_T _ u hu), k F1 H1 _ R1 g1 (.bl _)⟩
    · cases e
  · cases e
/-! ### slices -/
abbrev DP := SD → Option (Option Int × SD)
def pNone : DP := fun σd => some (none, σd)
def pSome (f : DW) : DP := fun σd => match f σd with
  | some (.int i, σ1) => some (some i, σ1)
  | _ => none
def rdP (K : Kp) (f : DP) : TO := fun σ H Q => ∃ F σd, Rl K F σd σ H ∧ ∃ o σd', f σd = some (o, σd') ∧ ∀ F' H', Rl K F' σd' σ H' → Go F σd σ H F' σd' σ H' → Q o H'
theorem rdP_none {Q : Option Int → Hp → Prop} (h : rdP K pNone σ H Q) : tNoPart σ H Q := by
  obtain ⟨F, σd, R, o, σd', e, k⟩ := h
  cases e
  exact k F H R (Go.refl _ _ _ _)
theorem rdP_some {f : DW} {Q : Option Int → Hp → Prop} (h : rdP K (pSome f) σ H Q) : tPart (rdW K f) σ H Q := by
  obtain ⟨F, σd, R, o, σd', e, k⟩ := h
  unfold pSome at e
  split at e
  · rename_i i σ1 e1
    cases e
    refine ⟨F, σd, R, _, _, e1, fun F1 H1 v R1 g1 hd => ?_⟩
    cases hd
    exact ⟨i, rfl, k F1 H1 R1 g1⟩
  · cases e
def cut {α : Type} (xs : List α) (lo hi : Option Int) : List α := (xs.drop (HT.sIx xs.length 0 lo)).take (HT.sIx xs.length xs.length hi - HT.sIx xs.length 0 lo)
/-- a slice on data -/
def sliceD (lo hi : Option Int) : D → Option (Bool × D)
  | .list ds => some (true, .list (cut ds lo hi))
  | .tuple ds => some (false, .tuple (cut ds lo hi))
  | _ => none
def fSl (o : DO) (lo hi : DP) : DE := fun σd => match o σd with
  | some (o, σ1) => match lo σ1 with
    | some (l, σ2) => match hi σ2 with
      | some (u, σ3) => match res σ3 o with
        | some d => match sliceD l u d with
          | some (fr, d') => some (fr, d', σ3)
          | none => none
        | none => none
      | none => none
    | none => none
  | none => none
theorem cut_dp {F : Hp} {vs : List V} {ds : List D} (h : DpAll K F vs ds) (lo hi : Option Int) : DpAll K F (cutV vs lo hi) (cut ds lo hi) := by
  unfold cutV cut
  rw [DpAll.len h]
  exact DpAll.take _ (DpAll.drop _ h)
theorem cut_whole {α : Type} {xs : List α} {lo hi : Option Int} (h : HT.sIx xs.length 0 lo = 0 ∧ HT.sIx xs.length xs.length hi = xs.length) : cut xs lo hi = xs := by
  unfold cut
  rw [h.1, h.2]
  simp
def rSlLL : V → Option Int → Option Int → Hp → VK → Prop := fun x lo hi H Q => ∃ a xs, x = .ref a ∧ Rd H a (.lst xs) ∧ ∀ p, H p = none → Q (.ref p) (upd H p (.lst (cutV xs lo hi)))
theorem rd_sl {o : DO} {lo hi : DP} {Q : VK} (h : rdE K (fSl o lo hi) σ H Q) : tSl (fun x lo hi H Q => rSlL K x lo hi H Q ∨ rSlU K x lo hi H Q) (rdO K o) (rdP K lo) (rdP K hi) σ H Q := by
  obtain ⟨F, σd, R, fr, d, σd', e, k⟩ := h
  unfold fSl at e
  split at e
  · rename_i o1 σ1 e1
    split at e
    · rename_i l σ2 e2
      split at e
      · rename_i u σ3 e3
        split at e
        · rename_i d1 e4
          split at e
          · rename_i fr' d' e5
            cases e
            refine ⟨F, σd, R, o1, σ1, e1, fun F1 H1 x R1 g1 ok1 => ⟨F1, σ1, R1, l, σ2, e2, fun F2 H2 R2 g2 => ⟨F2, σ2, R2, u, _, e3, fun F3 H3 R3 g3 => ?_⟩⟩⟩
            have op := opr_of R3 ((ok1.go g2).go g3) e4
            have G := (g1.trans g2).trans g3
            cases d1 with
            | list ds =>
              cases e5
              obtain ⟨a, vs, rfl, h1, h2⟩ := op.list R3.fh
              refine .inl ⟨a, vs, rfl, .inl h1, fun p hp => ?_⟩
              have gr : Grow F3 H3 F3 (upd H3 p (.lst (cutV vs l u))) := new_grow R3.fh hp
              refine k _ _ _ (gr.rl R3) (G.trans gr.go) ⟨p, _, rfl, G.back hp, R3.fh.none hp, upd_same, cut_dp h2 l u, fun q => ?_⟩
              obtain ⟨i, d', q1, q2⟩ := q
              obtain ⟨a', o', y1, y2, y3, y4⟩ := R3.own i d' q1
              rw [q2] at y1; cases y1
              rw [hp] at y3; cases y3
            | tuple ds =>
              cases e5
              obtain ⟨a, vs, rfl, h1, h2⟩ := op.tuple
              refine .inr ⟨a, vs, rfl, .inl (R3.fh.rd h1.rd), fun w => ?_, fun w p ob hp hb => ?_⟩
              · rw [DpAll.len h2] at w
                refine k F3 H3 _ R3 G ?_
                rw [cut_whole w]
                exact .tup h1 h2
              · have gr : Grow F3 H3 (upd F3 p (.frz ob (.tup (cutV vs l u)))) (upd H3 p (.frz ob (.tup (cutV vs l u)))) := new_growF R3.fh hp
                exact k _ _ _ (gr.rl R3) (G.trans gr.go) (.tup (TupAt.put hb) (DpAll.mono gr.ff (cut_dp h2 l u)))
            | _ => cases e5
          · cases e
        · cases e
      · cases e
    · cases e
  · cases e
/-! ### range as a value -/
def fRgL (tup : Bool) (a : DV) : DE := fun σd => match iRange a σd with
  | some (ds, σ1) => if okLen ds.length = true then (if tup then some (false, .tuple ds, σ1) else some (true, .list ds, σ1)) else none
  | none => none
end
section
variable {X : Cx} {pn : List (Nat × Addr)} {a e : Expr} {lo hi : Option Expr} {p p2 pos q : Pos}
theorem e_isi {u : Ty} (hu : u ≠ .none) {o : DO} {x : Str} (hx : bootBuiltins x = some (.type u.name)) (hg : Gl X "isinstance") (hm : X.mg "isinstance" = none) (hg2 : Gl X x) (hm2 : X.mg x = none) (hn : x ≠ "__name__") (hd : (x == ("__debug__" : Str)) = false)
    (h : PEo X pn a o) (hs : starEach [a, .Name x q] X.env = (false, eval a X.env) :: starEach [.Name x q] X.env) : PEe X pn (.Call (.Name "isinstance" p) [a, .Name x q] [] pos) (fIsi u o) :=
  peMono (pe_callB call_isi hg hm (by decide +kernel) (pa_cons h (pa_cons (pe_bltn hg2 hm2 hx (show RelV (.ty u.name) (.type u.name) from rfl) hn hd) pa_nil rfl) hs) (by decide) (by decide) hs rfl) fun _ _ _ => rd_isi hu
abbrev POp (X : Cx) (pn : List (Nat × Addr)) (e : Option Expr) (f : DP) : Prop := PO X e (rdP ⟨X.K, pn⟩ f)
theorem poMono {e : Option Expr} {t t' : TO} (h : PO X e t) (m : ∀ σ H Q, t' σ H Q → t σ H Q) : PO X e t' := ⟨fun pins s σ H Q I q => h.run pins s σ H Q I (m σ H Q q)⟩
theorem p_none : POp X pn none pNone := poMono po_none fun _ _ _ => rdP_none
theorem p_some {f : DW} (h : PEw X pn e f) : POp X pn (some e) (pSome f) := poMono (po_some h) fun _ _ _ => rdP_some
theorem e_slice {o : DO} {fl fh : DP} (h : PEo X pn e o) (hl : POp X pn lo fl) (hh : POp X pn hi fh) : PEe X pn (.Subscript e (.Slice lo hi none p2) pos) (fSl o fl fh) :=
  peMono (pe_slice (sl_list.or sl_tupU) h hl hh) fun _ _ _ => rd_sl
end
/-! ### sorted -/
/-- a stable sort by insertion -/
def ins {α : Type} (le : α → α → Bool) (x : α) : List α → List α
  | [] => [x]
  | y :: ys => if le x y = true then x :: y :: ys else y :: ins le x ys
def isort {α : Type} (le : α → α → Bool) : List α → List α
  | [] => []
  | x :: xs => ins le x (isort le xs)
section
variable {α β : Type} {le : α → α → Bool}
theorem ins_mem {x y : α} : ∀ {l : List α}, y ∈ ins le x l → y = x ∨ y ∈ l
  | [], h => .inl (by simpa [ins] using h)
  | z :: l, h => by
    unfold ins at h
    split at h
    · rcases List.mem_cons.mp h with h | h
      · exact .inl h
      · exact .inr h
    · rcases List.mem_cons.mp h with h | h
      · exact .inr (by rw [h]; exact List.mem_cons_self)
      · rcases ins_mem h with h | h
        · exact .inl h
        · exact .inr (List.mem_cons_of_mem _ h)
theorem isort_mem {y : α} : ∀ {l : List α}, y ∈ isort le l → y ∈ l
  | [], h => h
  | z :: l, h => by
    rcases ins_mem (show y ∈ ins le z (isort le l) from h) with h | h
    · rw [h]; exact List.mem_cons_self
    · exact List.mem_cons_of_mem _ (isort_mem h)
theorem ins_sorted (T : PySem.W.TotalLe le) {x : α} : ∀ {l : List α}, l.Pairwise (fun a b => le a b = true) → (ins le x l).Pairwise (fun a b => le a b = true)
  | [], _ => by simp [ins]
  | y :: l, h => by
    obtain ⟨h1, h2⟩ := List.pairwise_cons.mp h
    unfold ins
    split
    · rename_i hxy
      refine List.pairwise_cons.mpr ⟨fun z hz => ?_, h⟩
      rcases List.mem_cons.mp hz with rfl | hz
      · exact hxy
      · exact T.trans _ _ _ hxy (h1 z hz)
    · rename_i hxy
      refine List.pairwise_cons.mpr ⟨fun z hz => ?_, ins_sorted T h2⟩
      rcases ins_mem hz with rfl | hz
      · exact (T.total y z).resolve_right hxy
      · exact h1 z hz
theorem isort_sorted (T : PySem.W.TotalLe le) : ∀ l : List α, (isort le l).Pairwise (fun a b => le a b = true)
  | [] => List.Pairwise.nil
  | x :: l => ins_sorted T (isort_sorted T l)
theorem ins_filter (T : PySem.W.TotalLe le) {x c : α} : ∀ {l : List α}, l.Pairwise (fun a b => le a b = true) → (ins le x l).filter (PySem.W.sameRank le c) = (x :: l).filter (PySem.W.sameRank le c)
  | [], _ => rfl
  | y :: l, h => by
    obtain ⟨h1, h2⟩ := List.pairwise_cons.mp h
    unfold ins
    split
    · rfl
    · rename_i hxy
      have ih := ins_filter T (x := x) (c := c) h2
      by_cases cx : PySem.W.sameRank le c x = true
      · by_cases cy : PySem.W.sameRank le c y = true
        · unfold PySem.W.sameRank at cx cy
          rw [Bool.and_eq_true] at cx cy
          exact (hxy (T.trans _ _ _ cx.2 cy.1)).elim
        · rw [List.filter_cons_of_neg cy, ih, List.filter_cons_of_pos cx, List.filter_cons_of_pos cx, List.filter_cons_of_neg cy]
      · rw [List.filter_cons_of_neg cx] at ih ⊢
        by_cases cy : PySem.W.sameRank le c y = true
        · rw [List.filter_cons_of_pos cy, List.filter_cons_of_pos cy, ih]
        · rw [List.filter_cons_of_neg cy, List.filter_cons_of_neg cy, ih]
theorem isort_filter (T : PySem.W.TotalLe le) (c : α) : ∀ l : List α, (isort le l).filter (PySem.W.sameRank le c) = l.filter (PySem.W.sameRank le c)
  | [] => rfl
  | x :: l => by
    show (ins le x (isort le l)).filter _ = _
    rw [ins_filter T (isort_sorted T l)]
    by_cases cx : PySem.W.sameRank le c x = true
    · rw [List.filter_cons_of_pos cx, List.filter_cons_of_pos cx, isort_filter T c l]
    · rw [List.filter_cons_of_neg cx, List.filter_cons_of_neg cx, isort_filter T c l]
theorem isort_merge (T : PySem.W.TotalLe le) (l : List α) : isort le l = l.mergeSort le := PySem.W.sort_unique T (isort_sorted T l) fun c => isort_filter T c l
theorem ins_congr {le' : α → α → Bool} {x : α} : ∀ {l : List α}, (∀ y ∈ l, le x y = le' x y) → ins le x l = ins le' x l
  | [], _ => rfl
  | y :: l, h => by
    unfold ins
    rw [h y List.mem_cons_self, ins_congr fun z hz => h z (List.mem_cons_of_mem _ hz)]
theorem isort_congr {le' : α → α → Bool} : ∀ {l : List α}, (∀ x ∈ l, ∀ y ∈ l, le x y = le' x y) → isort le l = isort le' l
  | [], _ => rfl
  | x :: l, h => by
    show ins le x (isort le l) = ins le' x (isort le' l)
    rw [← isort_congr fun a ha b hb => h a (List.mem_cons_of_mem _ ha) b (List.mem_cons_of_mem _ hb)]
    exact ins_congr fun y hy => h x List.mem_cons_self y (List.mem_cons_of_mem _ (isort_mem hy))
theorem ins_map {le' : β → β → Bool} {f : α → β} {x : α} : ∀ {l : List α}, (∀ y ∈ l, le x y = le' (f x) (f y)) → (ins le x l).map f = ins le' (f x) (l.map f)
  | [], _ => rfl
  | y :: l, h => by
    rw [List.map_cons]
    unfold ins
    rw [h y List.mem_cons_self]
    split
    · rfl
    · rw [List.map_cons, ins_map fun z hz => h z (List.mem_cons_of_mem _ hz)]
theorem isort_map {le' : β → β → Bool} {f : α → β} : ∀ {l : List α}, (∀ x ∈ l, ∀ y ∈ l, le x y = le' (f x) (f y)) → (isort le l).map f = isort le' (l.map f)
  | [], _ => rfl
  | x :: l, h => by
    show (ins le x (isort le l)).map f = ins le' (f x) (isort le' (l.map f))
    rw [ins_map fun y hy => h x List.mem_cons_self y (List.mem_cons_of_mem _ (isort_mem hy)), isort_map fun a ha b hb => h a (List.mem_cons_of_mem _ ha) b (List.mem_cons_of_mem _ hb)]
end
mutual
/-- x < y for alike data -/
def ltD : D → D → Bool
  | .int a, .int b => decide (a < b)
  | .bool a, .bool b => decide (PyProof.Rows.b2i a < PyProof.Rows.b2i b)
  | .str a, .str b => decide (a.cps.toList < b.cps.toList)
  | .tuple xs, .tuple ys => ltAll xs ys
  | .list xs, .list ys => ltAll xs ys
  | _, _ => false
def ltAll : List D → List D → Bool
  | [], [] => false
  | [], _ :: _ => true
  | _ :: _, [] => false
  | x :: xs, y :: ys => if PyData.eqv x y = true then ltAll xs ys else ltD x y
end
end Ev
end
/-! ## Ev11 -/
section
set_option Elab.async false
set_option linter.all false
set_option maxRecDepth 100000
set_option maxHeartbeats 1000000
/-! Ev11: sorted of data; < of data; range as a value; tuple slices with a step. -/
namespace Ev
open PySem L2
open PySem.W (alike alikeAll dataLt keyToks keyToksAll)
mutual
theorem ltD_eq : ∀ (x y : D), alike x y = true → ltD x y = dataLt x y
  | .none, y, h => by
    cases y with
    | none => rfl
    | _ => exact absurd h (by simp [alike])
  | .bool a, y, h => by
    cases y with
    | bool b => rw [PySem.W.dataLt_bool]; simp [ltD]
    | _ => exact absurd h (by simp [alike])
  | .int a, y, h => by
    cases y with
    | int b => rw [PySem.W.dataLt_int]; simp [ltD]
    | _ => exact absurd h (by simp [alike])
  | .str a, y, h => by
    cases y with
    | str b => rw [PySem.W.dataLt_str]; simp [ltD]
    | _ => exact absurd h (by simp [alike])
  | .list xs, y, h => by
    cases y with
    | list ys =>
      rw [PySem.W.dataLt_list, show ltD (.list xs) (.list ys) = ltAll xs ys by simp [ltD]]
      exact ltAll_eq xs ys (by simpa [alike] using h)
    | _ => exact absurd h (by simp [alike])
  | .tuple xs, y, h => by
    cases y with
    | tuple ys =>
      rw [PySem.W.dataLt_tuple, show ltD (.tuple xs) (.tuple ys) = ltAll xs ys by simp [ltD]]
      exact ltAll_eq xs ys (by simpa [alike] using h)
    | _ => exact absurd h (by simp [alike])
  | .dict _, y, h => by cases y <;> exact absurd h (by simp [alike])
theorem ltAll_eq : ∀ (xs ys : List D), alikeAll xs ys = true → ltAll xs ys = PyProof.Rows.lexLt PyProof.Rows.itemOrd (keyToksAll xs) (keyToksAll ys)
  | [], [], _ => by simp [ltAll, keyToksAll]; rfl
  | [], y :: ys, _ => by simp [ltAll, keyToksAll]; rfl
  | x :: xs, [], _ => by simp [ltAll, keyToksAll]; rfl
  | x :: xs, y :: ys, h => by
    obtain ⟨h1, h2⟩ := PySem.W.alike_all_cons h
    rw [PySem.W.dataLt_cons h1, show ltAll (x :: xs) (y :: ys) = if PyData.eqv x y = true then ltAll xs ys else ltD x y by simp [ltAll], ltAll_eq xs ys h2, ltD_eq x y h1]
end

/-! ### sorted -/
def isInt : D → Bool
  | .int _ => true
  | _ => false
def intTup : D → Bool
  | .tuple (.int _ :: ds) => ds.all isInt
  | _ => false
def neTup : D → Bool
  | .tuple (_ :: _) => true
  | _ => false
def notTN : D → Bool
  | .tuple _ => false
  | .none => false
  | _ => true
def kindOk (ds : List D) : Bool := ds.all isInt || (ds.all intTup || (ds.all (fun d => ds.all fun d' => alike d d') && (ds.all neTup || ds.all notTN) && ds.all fun d => Nat.ble d.depth 60))
structure SortOk (ds : List D) : Prop where
  al : PySem.W.AllAlike ds
  so : PySem.W.Sortable ds
  de : ∀ d ∈ ds, d.depth ≤ 60
theorem isInt_int {d : D} (h : isInt d = true) : ∃ i, d = .int i := by
  cases d with
  | int i => exact ⟨i, rfl⟩
  | _ => cases h
theorem ints_of : ∀ {ds : List D}, ds.all isInt = true → ∃ is : List Int, ds = is.map .int
  | [], _ => ⟨[], rfl⟩
  | d :: ds, h => by
    rw [List.all_cons, Bool.and_eq_true] at h
    obtain ⟨i, rfl⟩ := isInt_int h.1
    obtain ⟨is, rfl⟩ := ints_of h.2
    exact ⟨i :: is, rfl⟩
theorem intTup_of {d : D} (h : intTup d = true) : ∃ (i : Int) (is : List Int), d = .tuple ((i :: is).map .int) := by
  cases d with
  | tuple ds =>
    cases ds with
    | nil => cases h
    | cons x ds =>
      cases x with
      | int i =>
        obtain ⟨is, rfl⟩ := ints_of (show ds.all isInt = true from h)
        exact ⟨i, is, rfl⟩
      | _ => cases h
  | _ => cases h
theorem kindOk_ok {ds : List D} (h : kindOk ds = true) : SortOk ds := by
  unfold kindOk at h
  rcases Bool.or_eq_true_iff.mp h with h | h
  · have hi : ∀ d ∈ ds, ∃ i, d = .int i := fun d hd => isInt_int (List.all_eq_true.mp h d hd)
    refine ⟨fun d hd d' hd' => ?_, .inr fun d hd => ?_, fun d hd => ?_⟩
    · obtain ⟨i, rfl⟩ := hi d hd
      obtain ⟨j, rfl⟩ := hi d' hd'
      simp [alike]
    · obtain ⟨i, rfl⟩ := hi d hd
      exact ⟨fun z => (by cases z), fun xs z => (by cases z)⟩
    · obtain ⟨i, rfl⟩ := hi d hd
      simp [PyData.depth]
  · rcases Bool.or_eq_true_iff.mp h with h | h
    · have hi : ∀ d ∈ ds, ∃ (i : Int) (is : List Int), d = .tuple ((i :: is).map .int) := fun d hd => intTup_of (List.all_eq_true.mp h d hd)
      refine ⟨fun d hd d' hd' => ?_, .inl fun d hd => ?_, fun d hd => ?_⟩
      · obtain ⟨i, is, rfl⟩ := hi d hd
        obtain ⟨j, js, rfl⟩ := hi d' hd'
        have := PySem.W.alike_ints (i :: is) (j :: js)
        simpa [alike] using this
      · obtain ⟨i, is, rfl⟩ := hi d hd
        exact ⟨_, _, rfl⟩
      · obtain ⟨i, is, rfl⟩ := hi d hd
        have := PySem.W.depth_ints (i :: is)
        rw [PyData.depth, this]
        decide
    · rw [Bool.and_eq_true, Bool.and_eq_true] at h
      obtain ⟨⟨h1, h2⟩, h3⟩ := h
      refine ⟨fun d hd d' hd' => List.all_eq_true.mp (List.all_eq_true.mp h1 d hd) d' hd', ?_, fun d hd => Nat.le_of_ble_eq_true (List.all_eq_true.mp h3 d hd)⟩
      rcases Bool.or_eq_true_iff.mp h2 with h2 | h2
      · refine .inl fun d hd => ?_
        have := List.all_eq_true.mp h2 d hd
        cases d with
        | tuple xs =>
          cases xs with
          | nil => cases this
          | cons x xs => exact ⟨x, xs, rfl⟩
        | _ => cases this
      · refine .inr fun d hd => ?_
        have := List.all_eq_true.mp h2 d hd
        exact ⟨fun z => (by subst z; cases this), fun xs z => (by subst z; cases this)⟩
def leD (a b : D) : Bool := !ltD b a
def pSorted : Prim
  | [.list ds] => if (okLen ds.length && kindOk ds) = true then some (true, .list (isort leD ds)) else none
  | _ => none
section
variable {X : Cx} {K : PySem.W.Frag}
def rSortedD (K : PySem.W.Frag) : List V → Hp → VK → Prop := fun vs H Q => ∃ (a : Addr) (xs : List V) (ds : List D), vs = [.ref a] ∧ Rd H a (.lst xs) ∧ L2.DpAll K H xs ds ∧ SortOk ds ∧
  ∀ p, H p = none → Q (.ref p) (upd H p (.lst ((isort (fun a b => leD a.2 b.2) (xs.zip ds)).map (·.1))))
theorem zip_each {s : Shared} : ∀ {xs : List V} {its : List Value} {ds : List D}, Vals xs its → xs.length = ds.length → PySem.W.EachIs (fun (u : Value) (b : V × D) => RelV b.1 u) its (xs.zip ds)
  | _, _, [], .nil, _ => .nil
  | _, _, _ :: _, .nil, h => by simp at h
  | _, _, [], .cons _ _, h => by simp at h
  | _, _, d :: ds, .cons r t, h => .cons r (zip_each (s := s) t (by simpa using h))
theorem zip_reads {h : Heap} : ∀ {xs : List V} {its : List Value} {ds : List D} {as : List Addr}, ReadsAll h its ds as → xs.length = its.length → PySem.W.EachIs (fun (v : Value) (b : V × D) => ∃ as, Reads h v b.2 as) its (xs.zip ds)
  | [], _, _, _, .nil, _ => .nil
  | _ :: _, _, _, _, .nil, h => by simp at h
  | [], _, _, _, .cons _ _, h => by simp at h
  | x :: xs, _, _, _, .cons h1 h2, h => .cons ⟨_, h1⟩ (zip_reads h2 (by simpa using h))
theorem each_vals : ∀ {out : List Value} {bs : List (V × D)}, PySem.W.EachIs (fun (u : Value) (b : V × D) => RelV b.1 u) out bs → Vals (bs.map (·.1)) out
  | _, _, .nil => .nil
  | _, _, .cons r t => .cons r (each_vals t)
theorem oldAll_len {H : Hp} {vs : List V} {ds : List D} (h : L2.DpAll K H vs ds) : vs.length = ds.length := by
  induction ds generalizing vs with
  | nil => cases h; rfl
  | cons d ds ih =>
    cases h with
    | cons _ t => simp [ih t]
theorem cr_sortedD (hu : X.A.units + 64 < cLine) : CallR X (.builtin "sorted") (rSortedD X.K) := by
  intro pins s σ H vs us Q I r h
  obtain ⟨a, xs, ds, rfl, hs, hd, ok, q⟩ := h
  obtain ⟨z, its, n, rv, e⟩ := hs.ok I.hok
  rw [Vals.ref1 r]
  obtain ⟨as, hr⟩ := L2.Dp.readsAll I ds xs its hd rv
  have hl := oldAll_len hd
  have hl2 := rv.length
  have hsnd : (xs.zip ds).map (·.2) = ds := List.map_snd_zip (by omega)
  refine PySem.W.sorted_data (β := V × D) (bs := xs.zip ds) (enc := (·.2)) (R := fun u b => RelV b.1 u) ⟨_, e, rfl, n, rfl⟩ (zip_each (s := s) rv hl) (zip_reads hr (by omega)) (by rw [hsnd]; exact ok.al) (by rw [hsnd]; exact ok.so) (by rw [List.length_zip]; omega) (fun b hb => ?_) fun out ho he => ?_
  · have := ok.de b.2 (by rw [← hsnd]; exact List.mem_map_of_mem hb)
    omega
  · have T : PySem.W.TotalLe (PySem.W.dataLe (β := V × D) false (·.2)) := PySem.W.sortLe_total _ _ _
    rw [← isort_merge T] at he
    have hc : isort (PySem.W.dataLe (β := V × D) false (·.2)) (xs.zip ds) = isort (fun a b => leD a.2 b.2) (xs.zip ds) := by
      refine isort_congr fun x hx y hy => ?_
      rw [PySem.W.dataLe_eq]
      show (!dataLt y.2 x.2) = !ltD y.2 x.2
      rw [ltD_eq]
      exact ok.al y.2 (by rw [← hsnd]; exact List.mem_map_of_mem hy) x.2 (by rw [← hsnd]; exact List.mem_map_of_mem hx)
    rw [hc] at he
    have hv := each_vals he
    obtain ⟨m, hm⟩ := PyProof.Rows.sortedAll_at s.heap its out.toArray
    refine ⟨.ref (s.heap.objs.size + 1), _, I.laid (t' := s.toks) (o := .lst ((isort (fun a b => leD a.2 b.2) (xs.zip ds)).map (·.1))) (fun b o eo => PyProof.Rows.sortedAll_old eo) (Nat.le_succ _) ⟨?_, out, m, hv, hm⟩, rfl, q _ (I.hok.fresh (Nat.le_succ _))⟩
    have := hv.length
    rw [List.length_zip] at ho
    omega
theorem zip_dp {F : Hp} : ∀ {vs : List V} {ds : List D}, DpAll K F vs ds → ∀ b ∈ vs.zip ds, Dp K F b.1 b.2
  | _, _, .nil, b, hb => by cases hb
  | _, _, .cons h t, b, hb => by
    rcases List.mem_cons.mp hb with rfl | hb
    · exact h
    · exact zip_dp t b hb
theorem dp_map {F : Hp} : ∀ {l : List (V × D)}, (∀ b ∈ l, Dp K F b.1 b.2) → DpAll K F (l.map (·.1)) (l.map (·.2))
  | [], _ => .nil
  | b :: l, h => .cons (h b List.mem_cons_self) (dp_map fun x hx => h x (List.mem_cons_of_mem _ hx))
theorem c_sorted (hu : X.A.units + 64 < cLine) : C1 X (.builtin "sorted") pSorted := by
  refine ⟨_, cr_sortedD hu, fun F H vs ds fr d Q e a eq k => ?_⟩
  unfold pSorted at eq
  split at eq
  · rename_i ds
    split at eq
    · rename_i hl
      cases eq
      rw [Bool.and_eq_true] at hl
      obtain ⟨x, rfl, hx⟩ := all2_1 a
      obtain ⟨p, xs, rfl, h1, h2⟩ := hx.list e
      refine ⟨p, xs, ds, rfl, h1, (DpAll.mono e h2).old, kindOk_ok hl.2, fun z hz => newLst (ds := isort leD ds) e ?_ k hz⟩
      have := dp_map (l := isort (fun a b => leD a.2 b.2) (xs.zip ds)) fun b hb => zip_dp h2 b (isort_mem hb)
      rw [isort_map (le := fun a b : V × D => leD a.2 b.2) (le' := leD) (f := (·.2)) fun _ _ _ _ => rfl, List.map_snd_zip (by rw [DpAll.len h2]; exact Nat.le_refl _)] at this
      exact this
    · cases eq
  · cases eq
end
/-! ### tuple(range(n)), list(range(n)) -/
section
variable {K : Kp} {σ : L2.St} {H : Hp}
/-- range(n) | range(a, b), its ends -/
def fEnds1 (f : DW) : SD → Option (Int × Int × SD) := fun σd => match f σd with
  | some (.int j, σ1) => some (0, j, σ1)
  | _ => none
def fEnds2 (f g : DW) : SD → Option (Int × Int × SD) := fun σd => match f σd with
  | some (.int i, σ1) => match g σ1 with
    | some (.int j, σ2) => some (i, j, σ2)
    | _ => none
  | _ => none
def rdR (K : Kp) (f : SD → Option (Int × Int × SD)) : L2.St → Hp → (Int → Int → Hp → Prop) → Prop := fun σ H Q => ∃ F σd, Rl K F σd σ H ∧ ∃ i j σd', f σd = some (i, j, σd') ∧ ∀ F' H', Rl K F' σd' σ H' → Go F σd σ H F' σd' σ H' → Q i j H'
theorem rdR_1 {f : DW} {Q : Int → Int → Hp → Prop} (h : rdR K (fEnds1 f) σ H Q) : tRg1 (rdW K f) σ H Q := by
  obtain ⟨F, σd, R, i, j, σd', e, k⟩ := h
  unfold fEnds1 at e
  split at e
  · rename_i j' σ1 e1
    cases e
    refine ⟨F, σd, R, _, _, e1, fun F1 H1 v R1 g1 hd => ?_⟩
    cases hd
    exact ⟨_, rfl, k F1 H1 R1 g1⟩
  · cases e
theorem rdR_2 {f g : DW} {Q : Int → Int → Hp → Prop} (h : rdR K (fEnds2 f g) σ H Q) : tRg2 (rdW K f) (rdW K g) σ H Q := by
  obtain ⟨F, σd, R, i, j, σd', e, k⟩ := h
  unfold fEnds2 at e
  split at e
  · rename_i i' σ1 e1
    split at e
    · rename_i j' σ2 e2
      cases e
      refine ⟨F, σd, R, _, _, e1, fun F1 H1 v R1 g1 hd => ⟨F1, σ1, R1, _, _, e2, fun F2 H2 w R2 g2 hd2 => ?_⟩⟩
      cases hd
      cases hd2
      exact ⟨_, _, rfl, rfl, k F2 H2 R2 (g1.trans g2)⟩
    · cases e
  · cases e
def fRng (tup : Bool) (f : SD → Option (Int × Int × SD)) : DE := fun σd => match f σd with
  | some (i, j, σ1) => if (small62 i && (small62 j && okLen (j - i).toNat)) = true then some (!tup, (if tup then .tuple (rngs i (j - i).toNat) else .list (rngs i (j - i).toNat)), σ1) else none
  | none => none
theorem rgV_dp (F : Hp) : ∀ (n : Nat) (i : Int), DpAll K F ((List.range n).map fun k => V.int (i + (k : Nat))) (rngs i n)
  | 0, _ => .nil
  | n + 1, i => by
    rw [List.range_succ_eq_map, List.map_cons, List.map_map]
    refine .cons (by rw [show i + ((0 : Nat) : Int) = i by omega]; exact .int i) ?_
    have := rgV_dp F n (i + 1)
    have e : ((fun k => V.int (i + (k : Nat))) ∘ Nat.succ) = fun k => V.int (i + 1 + (k : Nat)) := by
      funext k
      show V.int (i + ((k + 1 : Nat) : Int)) = _
      congr 1
      omega
    rw [e]
    exact this
theorem rgOk_of {i j : Int} (h : (small62 i && (small62 j && okLen (j - i).toNat)) = true) : RgOk i j := by
  rw [Bool.and_eq_true, Bool.and_eq_true] at h
  obtain ⟨h1, h2, h3⟩ := h
  have a := small62_lo h1
  have b := small62_lo h2
  have c := Nat.le_of_ble_eq_true h3
  exact ⟨a.1, a.2, b.1, b.2, by omega⟩
theorem rd_rngT {f : SD → Option (Int × Int × SD)} {Q : VK} (h : rdE K (fRng true f) σ H Q) : tTupRgN (rdR K f) σ H Q := by
  obtain ⟨F, σd, R, fr, d, σd', e, k⟩ := h
  unfold fRng at e
  split at e
  · rename_i i j σ1 e1
    split at e
    · rename_i hb
      cases e
      refine ⟨F, σd, R, i, j, _, e1, fun F1 H1 R1 g1 => ⟨rgOk_of hb, fun p ob hp ho => ?_⟩⟩
      have gr : Grow F1 H1 (upd F1 p (.frz ob (.tup (rgV i j)))) (upd H1 p (.frz ob (.tup (rgV i j)))) := new_growF R1.fh hp
      exact k _ _ _ (gr.rl R1) (g1.trans gr.go) (.tup (TupAt.put ho) (rgV_dp _ _ _))
    · cases e
  · cases e
theorem rd_rngL {f : SD → Option (Int × Int × SD)} {Q : VK} (h : rdE K (fRng false f) σ H Q) : tLstRg (rdR K f) σ H Q := by
  obtain ⟨F, σd, R, fr, d, σd', e, k⟩ := h
  unfold fRng at e
  split at e
  · rename_i i j σ1 e1
    split at e
    · rename_i hb
      cases e
      refine ⟨F, σd, R, i, j, _, e1, fun F1 H1 R1 g1 => ⟨rgOk_of hb, fun p hp => ?_⟩⟩
      have gr : Grow F1 H1 F1 (upd H1 p (.lst (rgV i j))) := new_grow R1.fh hp
      refine k _ _ _ (gr.rl R1) (g1.trans gr.go) ⟨p, _, rfl, g1.back hp, R1.fh.none hp, upd_same, rgV_dp _ _ _, fun q => ?_⟩
      obtain ⟨i', d', q1, q2⟩ := q
      obtain ⟨a', o', y1, y2, y3, y4⟩ := R1.own i' d' q1
      rw [q2] at y1; cases y1
      rw [hp] at y3; cases y3
    · cases e
  · cases e
end
section
variable {X : Cx} {pn : List (Nat × Addr)} {a b e : Expr} {p q pos : Pos}
abbrev PRr (X : Cx) (pn : List (Nat × Addr)) (e : Expr) (f : SD → Option (Int × Int × SD)) : Prop := PRg X e (rdR ⟨X.K, pn⟩ f)
theorem prgMono {t t' : L2.St → Hp → (Int → Int → Hp → Prop) → Prop} (h : PRg X e t) (m : ∀ σ H Q, t' σ H Q → t σ H Q) : PRg X e t' := fun pins s σ H Q I q => h pins s σ H Q I (m σ H Q q)
theorem g_rng1 {f : DW} (hg : Gl X "range") (hm : X.mg "range" = none) (ha : PEw X pn a f) (hs : starEach [a] X.env = (false, eval a X.env) :: starEach [] X.env) : PRr X pn (.Call (.Name "range" p) [a] [] pos) (fEnds1 f) :=
  prgMono (prg_1 hg hm ha hs) fun _ _ _ => rdR_1
theorem g_rng2 {f g : DW} (hg : Gl X "range") (hm : X.mg "range" = none) (ha : PEw X pn a f) (hb : PEw X pn b g) (hs : starEach [a, b] X.env = (false, eval a X.env) :: starEach [b] X.env) (hs' : starEach [b] X.env = (false, eval b X.env) :: starEach [] X.env) : PRr X pn (.Call (.Name "range" p) [a, b] [] pos) (fEnds2 f g) :=
  prgMono (prg_2 hg hm ha hb hs hs' (by rw [hs']; rfl)) fun _ _ _ => rdR_2
theorem e_tupRng {f : SD → Option (Int × Int × SD)} (hc : X.calm = true) (hg : Gl X "tuple") (hm : X.mg "tuple" = none) (he : PRr X pn e f) (hs : starEach [e] X.env = (false, eval e X.env) :: starEach [] X.env) : PEe X pn (.Call (.Name "tuple" p) [e] [] pos) (fRng true f) :=
  peMono (pe_tupRgN hc hg hm he hs) fun _ _ _ => rd_rngT
theorem e_lstRng {f : SD → Option (Int × Int × SD)} (hc : X.calm = true) (hg : Gl X "list") (hm : X.mg "list" = none) (he : PRr X pn e f) (hs : starEach [e] X.env = (false, eval e X.env) :: starEach [] X.env) : PEe X pn (.Call (.Name "list" p) [e] [] pos) (fRng false f) :=
  peMono (pe_listRg hc hg hm he hs) fun _ _ _ => rd_rngL
end
end Ev
end
/-! ## Ev12 -/
section
set_option Elab.async false
set_option linter.all false
set_option maxRecDepth 100000
set_option maxHeartbeats 1000000
/-! Ev12: tuple slices with a step; < of data. -/
namespace Ev
open PySem PyProof.Rows L2 HT
section
variable {prog : Program} {w : World} {A : Around} {E : Value → Shared → Prop} {s : Shared}
theorem sliceApplied_step {sl : Addr} {vl vu : Value} {lo hi : Option Int} {st : Int} {ts : Tok} (h0 : (st == 0) = false) {n : Nat} {Q : Int × Int × Nat → Shared → Prop} (hs : s.heap.IsSliceOf sl vl vu (.int st ts)) (pl : IsPart vl lo) (pu : IsPart vu hi)
    (h : Q ((Builtin.Slice.sliceAdjust lo hi st (n : Int)).1, st, Builtin.Slice.slicePlaces (Builtin.Slice.sliceAdjust lo hi st (n : Int)).1 (Builtin.Slice.sliceAdjust lo hi st (n : Int)).2 st) s) : wpAny (model prog w) A (Builtin.Slice.sliceApplied (.ref sl) (pure (n : Int))) Q E s := by
  obtain ⟨os, hos, hcs, hds⟩ := id hs
  unfold Builtin.Slice.sliceApplied Builtin.Slice.sliceFields
  refine wpAny_bind (wpAny_bind (wpAny_field hos hds (x := vl) rfl (wpAny_bind (wpAny_field hos hds (x := vu) rfl (wpAny_bind (wpAny_field hos hds (x := .int st ts) rfl (wpAny_pure ?_)))))))
  refine wpAny_bind (slicePart_int ?_)
  show wpAny _ _ (if (st == 0) = true then _ else _) _ _ s
  rw [if_neg (by rw [h0]; decide)]
  refine wpAny_bind (slicePart_ pl (wpAny_bind (slicePart_ pu (wpAny_bind (wpAny_pure ?_)))))
  show wpAny _ _ (match Builtin.Slice.sliceAdjust lo hi st (n : Int) with | (lo, hi) => pure (lo, st, Builtin.Slice.slicePlaces lo hi st)) _ _ s
  exact wpAny_pure h
/-- the items of xs[lo:hi:st] -/
def stepCut {α : Type} (xs : List α) (lo hi : Option Int) (st : Int) : List α :=
  (List.range (Builtin.Slice.slicePlaces (Builtin.Slice.sliceAdjust lo hi st (xs.length : Int)).1 (Builtin.Slice.sliceAdjust lo hi st (xs.length : Int)).2 st)).filterMap fun (m : Nat) => xs[((Builtin.Slice.sliceAdjust lo hi st (xs.length : Int)).1 + (m : Int) * st).toNat]?
theorem getItem_tuple_step {t sl : Addr} {items : List Value} {vl vu : Value} {lo hi : Option Int} {st : Int} {ts : Tok} (h1 : (st == 1) = false) (h0 : (st == 0) = false) {Q : Value → Shared → Prop} (ht : IsTup s.heap t items.toArray) (hs : s.heap.IsSliceOf sl vl vu (.int st ts)) (pl : IsPart vl lo) (pu : IsPart vu hi)
    (h : Q (.ref s.heap.objs.size) { s with heap := s.heap.push { cls := .type "tuple", data := .seq (stepCut items lo hi st).toArray } })
    (hsz : (stepCut items lo hi st).length ≤ sizeLine) : wpAny (model prog w) A (getItem (.ref t) (.ref sl)) Q E s := by
  have htake : sizeOk (.seq (stepCut items lo hi st).toArray) := by
    show (stepCut items lo hi st).toArray.size ≤ sizeLine
    rw [List.size_toArray]; exact hsz
  obtain ⟨os, hos, hcs, hds⟩ := id hs
  have hTs : s.TypeIs (.ref sl) "slice" := ⟨os, hos, hcs⟩
  unfold getItem
  try with_reducible refine wpAny_holding ?_
  first | refine wpAny_bind (wpAny_pure ?_) | skip
  refine wpAny_bind (wpAny_sequenceKey ht.typeIs (by decide) ?_)
  refine wpAny_bind (wpAny_callSpecial?_slot (name := Str.ofString "__getitem__") ht.typeIs PyProof.Rows.slot_tuple_getitem
    (wpAny_call_entry PyProof.Rows.slot_tuple_getitem ht.typeIs entry_tuple_getitem ?_ (args_tuple_getitem _ _)))
  show wpAny _ _ (Builtin.Tuple.tupleItemsOf (.ref t) >>= _) _ _ s
  refine wpAny_bind (tupleItemsOf_ ht ?_)
  refine wpAny_bind (wpAny_typeOf hTs ?_)
  rw [if_pos (by decide)]
  refine wpAny_bind (sliceApplied_step h0 (n := items.toArray.size) hs pl pu ?_)
  have hno : ¬ (((Builtin.Slice.sliceAdjust lo hi st (items.toArray.size : Int)).1 == 0 && st == 1 && (Builtin.Slice.slicePlaces (Builtin.Slice.sliceAdjust lo hi st (items.toArray.size : Int)).1 (Builtin.Slice.sliceAdjust lo hi st (items.toArray.size : Int)).2 st) == items.toArray.size) = true) := by
    rw [h1]; simp
  show wpAny _ _ (if ((Builtin.Slice.sliceAdjust lo hi st (items.toArray.size : Int)).1 == 0 && st == 1 && (Builtin.Slice.slicePlaces (Builtin.Slice.sliceAdjust lo hi st (items.toArray.size : Int)).1 (Builtin.Slice.sliceAdjust lo hi st (items.toArray.size : Int)).2 st) == items.toArray.size) = true then _ else _) _ _ s
  rw [if_neg hno]
  have e : ((List.range (Builtin.Slice.slicePlaces (Builtin.Slice.sliceAdjust lo hi st (items.toArray.size : Int)).1 (Builtin.Slice.sliceAdjust lo hi st (items.toArray.size : Int)).2 st)).filterMap fun (m : Nat) => items.toArray[((Builtin.Slice.sliceAdjust lo hi st (items.toArray.size : Int)).1 + (m : Int) * st).toNat]?) = stepCut items lo hi st := by
    unfold stepCut
    simp
  rw [e]
  first
    | exact wpAny_bind (m := Builtin.Tuple.tupleExact _) (wpAny_newObj_type (wpAny_pure ⟨_, rfl, wpAny_pure h⟩) htake)
    | exact wpAny_bind (m := Builtin.Tuple.tupleExact _) (wpAny_newObj_type (wpAny_bind (wpAny_pure (wpAny_pure ⟨_, rfl, wpAny_pure h⟩))) htake)
    | exact wpAny_bind (wpAny_bind (m := Builtin.Tuple.tupleExact _) (wpAny_newObj_type (wpAny_pure (wpAny_pure ⟨_, rfl, wpAny_pure h⟩)) htake))
    | exact wpAny_bind (wpAny_bind (m := Builtin.Tuple.tupleExact _) (wpAny_newObj_type (wpAny_pure ⟨_, rfl, wpAny_pure h⟩) htake))
end
theorem step_vals {xs : List V} {its : List Value} (r : Vals xs its) (lo hi : Option Int) (st : Int) : Vals (stepCut xs lo hi st) (stepCut its lo hi st) := by
  unfold stepCut
  rw [r.length]
  generalize Builtin.Slice.slicePlaces (Builtin.Slice.sliceAdjust lo hi st (its.length : Int)).1 (Builtin.Slice.sliceAdjust lo hi st (its.length : Int)).2 st = n
  generalize (Builtin.Slice.sliceAdjust lo hi st (its.length : Int)).1 = a
  induction (List.range n) with
  | nil => exact .nil
  | cons m l ih =>
    cases h : xs[(a + (m : Int) * st).toNat]? with
    | none =>
      rw [List.filterMap_cons, List.filterMap_cons, h, Vals.none_of r h]
      exact ih
    | some v =>
      obtain ⟨u, h1, h2⟩ := r.get h
      rw [List.filterMap_cons, List.filterMap_cons, h, h1]
      exact .cons h2 ih
theorem step_dp {K : PySem.W.Frag} {F : Hp} {vs : List V} {ds : List D} (r : DpAll K F vs ds) (lo hi : Option Int) (st : Int) : DpAll K F (stepCut vs lo hi st) (stepCut ds lo hi st) := by
  unfold stepCut
  rw [DpAll.len r]
  generalize Builtin.Slice.slicePlaces (Builtin.Slice.sliceAdjust lo hi st (ds.length : Int)).1 (Builtin.Slice.sliceAdjust lo hi st (ds.length : Int)).2 st = n
  generalize (Builtin.Slice.sliceAdjust lo hi st (ds.length : Int)).1 = a
  induction (List.range n) with
  | nil => exact .nil
  | cons m l ih =>
    cases h : ds[(a + (m : Int) * st).toNat]? with
    | none =>
      have h' : vs[(a + (m : Int) * st).toNat]? = none := by
        have := DpAll.len r
        have := List.getElem?_eq_none_iff.mp h
        exact List.getElem?_eq_none_iff.mpr (by omega)
      rw [List.filterMap_cons, List.filterMap_cons, h, h']
      exact ih
    | some v =>
      obtain ⟨u, h1, h2⟩ := DpAll.get r h
      rw [List.filterMap_cons, List.filterMap_cons, h, h1]
      exact .cons h2 ih
def tStepT (K : PySem.W.Frag) (te : TE) (tl th : TO) (st : Int) : TE := fun σ H Q => te σ H fun x H1 => tl σ H1 fun l H2 => th σ H2 fun u H3 => ∃ a xs, x = .ref a ∧ SqT K H3 a xs ∧ (stepCut xs l u st).length ≤ sizeLine ∧ NewT H3 (stepCut xs l u st) Q
theorem pe_stepT {X : Cx} {e : Expr} {lo hi : Option Expr} {te : TE} {tl th : TO} {st : Int} {es : Expr} {p2 pos : Pos} (h1 : (st == 1) = false) (h0 : (st == 0) = false) (hst : PO X (some es) (tPart (tC (.int st)))) (he : PE X e te) (hl : PO X lo tl) (hu : PO X hi th) :
    PE X (.Subscript e (.Slice lo hi (some es) p2) pos) (tStepT X.K te tl th st) := by
  refine ⟨fun pins s σ H Q I h => ?_⟩
  refine Subscript_ (thn (he.run pins s σ H _ I h) fun v s1 ⟨x, H1, I1, r1, q1⟩ => ?_)
  refine wpAny_Slice (thn (hl.run pins s1 σ H1 _ I1 q1) fun vl s2 ⟨l, H2, I2, pl, q2⟩ => thn (hu.run pins s2 σ H2 _ I2 q2) fun vu s3 ⟨u, H3, I3, pu, q3⟩ => ?_)
  refine thn (hst.run pins s3 σ H3 (fun o H4 => o = some st ∧ H4 = H3) I3 ⟨st, rfl, rfl, rfl⟩) fun vs s4 ⟨o, H4, I4, ps, eo, e4⟩ => ?_
  subst eo e4
  obtain ⟨a, xs, rfl, hx, hz, q⟩ := q3
  cases r1
  cases ps with
  | int _ ts =>
    have I5 : L2.Inv X pins σ H4 { s4 with heap := s4.heap.push { cls := .type "slice", data := .fields #[vl, vu, .int st ts] } } := I4.kept (t' := s4.toks) fun b ob q => Heap.get?_push_of_some _ q
    obtain ⟨its, r, ht, hz'⟩ := I5.tuple hx
    show wpAny (model X.prog X.w) X.A (subscriptTail e (.Slice lo hi (some es) p2) (.ref a) (.ref s4.heap.objs.size)) (EP X pins σ Q) X.xe { s4 with heap := s4.heap.push { cls := .type "slice", data := .fields #[vl, vu, .int st ts] } }
    have rv := step_vals r l u st
    refine tail_any (ops := [.ref a, .ref s4.heap.objs.size]) ht.typeIs PyProof.Rows.slot_tuple_getitem.lookup ?_ (by with_unfolding_all rfl)
    refine getItem_tuple_step h1 h0 ht (Heap.IsSliceOf.new _ vl vu _) pl pu ?_ (by rw [← rv.length]; exact hz)
    exact endT I5 rv hz q
def fStepT (o : DO) (lo hi : DP) (st : Int) : DE := fun σd => match o σd with
  | some (o, σ1) => match lo σ1 with
    | some (l, σ2) => match hi σ2 with
      | some (u, σ3) => match res σ3 o with
        | some (.tuple ds) => if okLen (stepCut ds l u st).length = true then some (false, .tuple (stepCut ds l u st), σ3) else none
        | _ => none
      | none => none
    | none => none
  | none => none
theorem rd_stepT {K : Kp} {σ : L2.St} {H : Hp} {o : DO} {lo hi : DP} {st : Int} {Q : VK} (h : rdE K (fStepT o lo hi st) σ H Q) : tStepT K (rdO K o) (rdP K lo) (rdP K hi) st σ H Q := by
  obtain ⟨F, σd, R, fr, d, σd', e, k⟩ := h
  unfold fStepT at e
  split at e
  · rename_i o1 σ1 e1
    split at e
    · rename_i l σ2 e2
      split at e
      · rename_i u σ3 e3
        split at e
        · rename_i ds e4
          split at e
          · rename_i hl
            cases e
            refine ⟨F, σd, R, o1, σ1, e1, fun F1 H1 x R1 g1 ok1 => ⟨F1, σ1, R1, l, σ2, e2, fun F2 H2 R2 g2 => ⟨F2, σ2, R2, u, _, e3, fun F3 H3 R3 g3 => ?_⟩⟩⟩
            obtain ⟨a, vs, rfl, h1, h2⟩ := (opr_of R3 ((ok1.go g2).go g3) e4).tuple
            have hs := step_dp h2 l u st
            refine ⟨a, vs, rfl, .inl (R3.fh.rd h1.rd), by rw [DpAll.len hs]; exact okLen_le hl, fun p ob hp hb => ?_⟩
            have gr : Grow F3 H3 (upd F3 p (.frz ob (.tup (stepCut vs l u st)))) (upd H3 p (.frz ob (.tup (stepCut vs l u st)))) := new_growF R3.fh hp
            exact k _ _ _ (gr.rl R3) (((g1.trans g2).trans g3).trans gr.go) (.tup (TupAt.put hb) (DpAll.mono gr.ff hs))
          · cases e
        · cases e
      · cases e
    · cases e
  · cases e
theorem e_stepT {X : Cx} {pn : List (Nat × Addr)} {e : Expr} {lo hi : Option Expr} {o : DO} {fl fh : DP} {st : Int} {k : Nat} {p1 p2 pos : Pos} (h1 : (st == 1) = false) (h0 : (st == 0) = false) (h : PEo X pn e o) (hl : POp X pn lo fl) (hh : POp X pn hi fh) :
    PEe X pn (.Subscript e (.Slice lo hi (some (.Constant (.int st) k p1)) p2) pos) (fStepT o fl fh st) := peMono (pe_stepT h1 h0 (po_some pe_int) h hl hh) fun _ _ _ => rd_stepT
theorem e_stepN {X : Cx} {pn : List (Nat × Addr)} {e : Expr} {lo hi : Option Expr} {o : DO} {fl fh : DP} {i : Int} {k : Nat} {p1 p2 p3 pos : Pos} (h1 : (-i == 1) = false) (h0 : (-i == 0) = false) (h : PEo X pn e o) (hl : POp X pn lo fl) (hh : POp X pn hi fh) :
    PEe X pn (.Subscript e (.Slice lo hi (some (.UnaryOp .USub (.Constant (.int i) k p1) p3)) p2) pos) (fStepT o fl fh (-i)) :=
  peMono (pe_stepT h1 h0 (poMono (po_some (pe_un un_neg pe_int)) fun _ _ _ q => ⟨i, rfl, q⟩) h hl hh) fun _ _ _ => rd_stepT
end Ev
end
/-! ## EvX1 -/
section
set_option Elab.async false
set_option linter.all false
set_option maxRecDepth 100000
set_option maxHeartbeats 1000000
/-! EvX1: in of any data. -/
namespace Ev
open PySem L2
section
variable {X : Cx}
/-- data without dicts, not deep -/
def lowD (d : D) : Bool := SeqAt.shaped d && (noDict d && Nat.ble d.depth 60)
theorem lowD_of {d : D} (h : lowD d = true) : d.canLay0 = true ∧ d.depth ≤ 60 ∧ ∀ es, d ≠ .dict es := by
  unfold lowD at h
  rw [Bool.and_eq_true, Bool.and_eq_true] at h
  obtain ⟨h1, h2, h3⟩ := h
  refine ⟨SeqAt.canLay_of_shaped h1, Nat.le_of_ble_eq_true h3, fun es e => ?_⟩
  subst e; cases h2
def rInX (K : PySem.W.Frag) (neg : Bool) : R2 := fun x y H Q => ∃ d ds, Dp K H x d ∧ (Dp K H y (.list ds) ∨ Dp K H y (.tuple ds)) ∧ lowD d = true ∧ PyData.canLayAll0 ds = true ∧ Q (.bl (if neg then !ds.any fun z => PyData.eqv z d else ds.any fun z => PyData.eqv z d)) H
theorem op_inX (hu : X.A.units + 64 < cLine) : OpR X (compareOp .In) (rInX X.K false) := by
  intro pins s σ H x y v u Q I rx ry h
  obtain ⟨d, ds, hd, he, sd, se, q⟩ := h
  obtain ⟨l1, l2, _⟩ := lowD_of sd
  obtain ⟨as, r1⟩ := L2.Dp.reads I d x v hd.old rx
  have room : X.A.units + 1 + min (PyData.depthAll ds) d.depth < cLine := by
    have := Nat.min_le_right (PyData.depthAll ds) d.depth
    omega
  rcases he with he | he
  · obtain ⟨bs, r2⟩ := L2.Dp.reads I (.list ds) y u he.old ry
    exact SeqAt.in_list_reads r2 r1 se l1 room ⟨.bl _, H, I, rfl, q⟩
  · obtain ⟨bs, r2⟩ := L2.Dp.reads I (.tuple ds) y u he.old ry
    exact SeqAt.in_tuple_reads r2 r1 se l1 room ⟨.bl _, H, I, rfl, q⟩
theorem op_notInX (hu : X.A.units + 64 < cLine) : OpR X (compareOp .NotIn) (rInX X.K true) := by
  intro pins s σ H x y v u Q I rx ry h
  obtain ⟨d, ds, hd, he, sd, se, q⟩ := h
  obtain ⟨l1, l2, _⟩ := lowD_of sd
  obtain ⟨as, r1⟩ := L2.Dp.reads I d x v hd.old rx
  have room : X.A.units + 1 + min (PyData.depthAll ds) d.depth < cLine := by
    have := Nat.min_le_right (PyData.depthAll ds) d.depth
    omega
  rcases he with he | he
  · obtain ⟨bs, r2⟩ := L2.Dp.reads I (.list ds) y u he.old ry
    exact SeqAt.notIn_list_reads r2 r1 se l1 room ⟨.bl _, H, I, rfl, q⟩
  · obtain ⟨bs, r2⟩ := L2.Dp.reads I (.tuple ds) y u he.old ry
    exact SeqAt.notIn_tuple_reads r2 r1 se l1 room ⟨.bl _, H, I, rfl, q⟩
def anyEq (neg : Bool) (ds : List D) (d : D) : Bool := if neg then !ds.any fun z => PyData.eqv z d else ds.any fun z => PyData.eqv z d
def pInX (neg : Bool) : Prim
  | [d, .list ds] => if (lowD d && PyData.canLayAll0 ds) = true then some (false, .bool (anyEq neg ds d)) else none
  | [d, .tuple ds] => if (lowD d && PyData.canLayAll0 ds) = true then some (false, .bool (anyEq neg ds d)) else none
  | _ => none
theorem prim_inX {K : PySem.W.Frag} (neg : Bool) : PrimOk K (r2 (rInX K neg)) (pInX neg) := by
  intro F H vs ds fr d Q e a eq k
  unfold pInX at eq
  split at eq
  · split at eq
    · rename_i hc
      rw [Bool.and_eq_true] at hc
      cases eq
      obtain ⟨x, y, rfl, hx, hy⟩ := all2_2 a
      exact ⟨x, y, rfl, _, _, hx.dp e (lowD_of hc.1).2.2, .inl (hy.dp e (by simp)), hc.1, hc.2, k F H _ (Grow.refl e) (.bl _)⟩
    · cases eq
  · split at eq
    · rename_i hc
      rw [Bool.and_eq_true] at hc
      cases eq
      obtain ⟨x, y, rfl, hx, hy⟩ := all2_2 a
      exact ⟨x, y, rfl, _, _, hx.dp e (lowD_of hc.1).2.2, .inr (hy.dp e (by simp)), hc.1, hc.2, k F H _ (Grow.refl e) (.bl _)⟩
    · cases eq
  · cases eq
theorem b_inX (hu : X.A.units + 64 < cLine) : B2 X (compareOp .In) (pInX false) := ⟨_, op_inX hu, prim_inX false⟩
theorem b_notInX (hu : X.A.units + 64 < cLine) : B2 X (compareOp .NotIn) (pInX true) := ⟨_, op_notInX hu, prim_inX true⟩
end
end Ev
end
/-! ## EvX2 -/
section
set_option Elab.async false
set_option linter.all false
set_option maxRecDepth 100000
set_option maxHeartbeats 1000000
/-! EvX2: one meaning or another; dicts with keys ints and texts; counts. -/
namespace Ev
open PySem L2
/-! ### one or another -/
def fElse (f g : DE) : DE := fun σd => match f σd with
  | some r => some r
  | none => g σd
theorem e_else {X : Cx} {pn : List (Nat × Addr)} {e : Expr} {f g : DE} (h : PEe X pn e f) (h' : PEe X pn e g) : PEe X pn e (fElse f g) := by
  refine ⟨fun pins s σ H Q I hr => ?_⟩
  obtain ⟨F, σd, R, fr, d, σd', ee, k⟩ := hr
  unfold fElse at ee
  split at ee
  · rename_i r er
    cases ee
    exact h.run pins s σ H Q I ⟨F, σd, R, fr, d, σd', er, k⟩
  · exact h'.run pins s σ H Q I ⟨F, σd, R, fr, d, σd', ee, k⟩
def sElse (f g : DS) : DS := fun σd => match f σd with
  | some r => some r
  | none => g σd
theorem s_else {X : Cx} {pn : List (Nat × Addr)} {s : Stmt} {f g : DS} (h : PSd X pn s f) (h' : PSd X pn s g) : PSd X pn s (sElse f g) := by
  refine ⟨fun pins s σ H Q I hr => ?_⟩
  obtain ⟨F, σd, R, fl, σd', ee, k⟩ := hr
  unfold sElse at ee
  split at ee
  · rename_i r er
    cases ee
    exact h.run pins s σ H Q I ⟨F, σd, R, fl, σd', er, k⟩
  · exact h'.run pins s σ H Q I ⟨F, σd, R, fl, σd', ee, k⟩
/-! ### dicts -/
def keyOf : D → Option Key
  | .int i => some (.inl i)
  | .str x => some (.inr x)
  | _ => none
theorem keyOf_dp {K : PySem.W.Frag} {F : Hp} {v : V} {d : D} {k : Key} (h : Dp K F v d) (e : keyOf d = some k) : v = kV k ∧ d = keyD k := by
  cases h <;> first | (cases e; exact ⟨rfl, rfl⟩) | cases e
def lookD (k : Key) : List (D × D) → Option D
  | [] => none
  | p :: r => match keyOf p.1 with
    | some k' => if k' = k then some p.2 else lookD k r
    | none => none
theorem keyOf_keyD (k : Key) : keyOf (keyD k) = some k := by cases k <;> rfl
theorem lookD_some {K : PySem.W.Frag} {F : Hp} {k : Key} : ∀ {kvs : List (Key × V)} {es : List (D × D)} {d : D}, HoldKV K F keyD kvs es → lookD k es = some d → ∃ v, valV kvs k = some v ∧ Dp K F v d
  | [], _, d, .nil, e => by cases e
  | (k', v) :: kvs, _ :: es, d, .cons h t, e => by
    unfold lookD at e
    rw [keyOf_keyD] at e
    simp only at e
    by_cases q : k' = k
    · rw [if_pos q] at e
      cases e
      exact ⟨v, valV_pos q, h⟩
    · rw [if_neg q] at e
      obtain ⟨v', h1, h2⟩ := lookD_some t e
      exact ⟨v', by rw [valV_neg q]; exact h1, h2⟩
def keysOk : List (D × D) → Bool
  | [] => true
  | p :: r => (keyOf p.1).isSome && keysOk r
theorem lookD_none {K : PySem.W.Frag} {F : Hp} {k : Key} : ∀ {kvs : List (Key × V)} {es : List (D × D)}, HoldKV K F keyD kvs es → lookD k es = none → valV kvs k = none
  | [], _, .nil, e => rfl
  | (k', v) :: kvs, _ :: es, .cons h t, e => by
    unfold lookD at e
    rw [keyOf_keyD] at e
    simp only at e
    by_cases q : k' = k
    · rw [if_pos q] at e; cases e
    · rw [if_neg q] at e
      rw [valV_neg q]
      exact lookD_none t e
def putD (k : Key) (d : D) (es : List (D × D)) : List (D × D) :=
  match lookD k es with
  | some _ => es.map fun p => if keyOf p.1 = some k then (p.1, d) else p
  | none => es ++ [(keyD k, d)]
theorem HoldKV.append {K : PySem.W.Frag} {F : Hp} {κ : Type} {f : κ → D} : ∀ {a b : List (κ × V)} {c d : List (D × D)}, HoldKV K F f a c → HoldKV K F f b d → HoldKV K F f (a ++ b) (c ++ d)
  | _, _, _, _, .nil, h => h
  | _, _, _, _, .cons h t, h' => .cons h (HoldKV.append t h')
theorem HoldKV.len {K : PySem.W.Frag} {F : Hp} {κ : Type} {f : κ → D} : ∀ {a : List (κ × V)} {c : List (D × D)}, HoldKV K F f a c → a.length = c.length
  | _, _, .nil => rfl
  | _, _, .cons h t => by simp [HoldKV.len t]
theorem HoldKV.put {K : PySem.W.Frag} {F : Hp} {k : Key} {v : V} {d : D} (hv : Dp K F v d) : ∀ {kvs : List (Key × V)} {es : List (D × D)}, HoldKV K F keyD kvs es → HoldKV K F keyD (kvs.map (fun kv => if kv.1 = k then (kv.1, v) else kv)) (es.map fun p => if keyOf p.1 = some k then (p.1, d) else p)
  | _, _, .nil => .nil
  | (k', v') :: kvs, _ :: es, .cons h t => by
    simp only [List.map_cons, keyOf_keyD, Option.some.injEq]
    by_cases q : k' = k
    · rw [if_pos q, if_pos q]
      exact .cons hv (HoldKV.put hv t)
    · rw [if_neg q, if_neg q]
      exact .cons h (HoldKV.put hv t)
theorem hold_put {K : PySem.W.Frag} {F : Hp} {k : Key} {v : V} {d : D} {kvs : List (Key × V)} {es : List (D × D)} (h : HoldKV K F keyD kvs es) (hv : Dp K F v d) : Hold K F (.dK (putK kvs k v)) (.dict (putD k d es)) := by
  show HoldKV K F keyD (putK kvs k v) (putD k d es)
  unfold putK putD
  rw [valV_any]
  cases e : lookD k es with
  | none =>
    rw [lookD_none h e]
    exact HoldKV.append h (.cons hv .nil)
  | some d' =>
    obtain ⟨v', h1, _⟩ := lookD_some h e
    rw [h1]
    exact HoldKV.put hv h
/-- {} -/
def fDict0 : DE := fun σd => some (true, .dict [], σd)
/-- x[k], x a dict of one's own -/
def fDGet (i : Nat) (f : DW) : DE := fun σd => match σd[i]? with
  | some (some _) => match f σd with
    | some (dk, σ1) => match keyOf dk with
      | some k => match σ1[i]? with
        | some (some ⟨true, .dict es⟩) => match lookD k es with
          | some d => some (false, d, σ1)
          | none => none
        | _ => none
      | none => none
    | none => none
  | _ => none
/-- x.get(k, y) -/
def fDGetOr (i : Nat) (f g : DW) : DE := fun σd => match σd[i]? with
  | some (some ⟨true, .dict _⟩) => match f σd with
    | some (dk, σ1) => match g σ1 with
      | some (dy, σ2) => match keyOf dk with
        | some k => match σ2[i]? with
          | some (some ⟨true, .dict es⟩) => some (false, (lookD k es).getD dy, σ2)
          | _ => none
        | none => none
      | none => none
    | none => none
  | _ => none
/-- x[k] = v -/
def fDPut (i : Nat) (f g : DW) : DS := fun σd => match g σd with
  | some (d, σ1) => match σ1[i]? with
    | some (some _) => match f σ1 with
      | some (dk, σ2) => match keyOf dk with
        | some k => match σ2[i]? with
          | some (some ⟨true, .dict es⟩) => if okLen es.length = true then some (.next, σ2.set i (some ⟨true, .dict (putD k d es)⟩)) else none
          | _ => none
        | none => none
      | none => none
    | _ => none
  | none => none
section
variable {K : Kp} {σ : L2.St} {H : Hp}
theorem slot_val {F : Hp} {σd : SD} {i : Nat} {s : Sl} (R : Rl K F σd σ H) (h : σd[i]? = some (some s)) : ∃ v, σ[i]? = some (some v) := by
  obtain ⟨ow, d⟩ := s
  cases ow with
  | false => obtain ⟨v, h1, _⟩ := R.shr i d h; exact ⟨v, h1⟩
  | true => obtain ⟨a, o, h1, _⟩ := R.own i d h; exact ⟨_, h1⟩
theorem rd_dict0 {Q : VK} (h : rdE K fDict0 σ H Q) : tDNewK σ H Q := by
  obtain ⟨F, σd, R, fr, d, σd', e, k⟩ := h
  cases e
  intro p hp
  have gr : Grow F H F (upd H p (.dK [])) := new_grow R.fh hp
  refine k _ _ (.ref p) (gr.rl R) gr.go ⟨p, _, rfl, hp, R.fh.none hp, upd_same, .nil, fun q => ?_⟩
  obtain ⟨i, d', q1, q2⟩ := q
  obtain ⟨a', o', h1, h2, h3, h4⟩ := R.own i d' q1
  rw [q2] at h1; cases h1
  rw [hp] at h3; cases h3
theorem rd_dget {i : Nat} {f : DW} {Q : VK} (h : rdE K (fDGet i f) σ H Q) : tDGet (tVar i) (rdW K f) σ H Q := by
  obtain ⟨F, σd, R, fr, d, σd', e, k⟩ := h
  unfold fDGet at e
  split at e
  · rename_i s0 e0
    split at e
    · rename_i dk σ1 e1
      split at e
      · rename_i kk ek
        split at e
        · rename_i es e2
          split at e
          · rename_i d1 e3
            cases e
            obtain ⟨v0, hv0⟩ := slot_val R e0
            refine ⟨v0, hv0, F, σd, R, dk, _, e1, fun F1 H1 vk R1 g1 hk => ?_⟩
            obtain ⟨a, o, h1, h2, h3, h4⟩ := R1.own i _ e2
            obtain ⟨kvs, rfl, hs⟩ := h4.dict
            rw [hv0] at h1; cases h1
            obtain ⟨rfl, _⟩ := keyOf_dp hk ek
            obtain ⟨v, hv, hd⟩ := lookD_some hs e3
            exact ⟨a, v, rfl, hv ▸ DGet.k h3, k F1 H1 v R1 g1 hd⟩
          · cases e
        · cases e
      · cases e
    · cases e
  · cases e
theorem rd_dgetOr {i : Nat} {f g : DW} {Q : VK} (h : rdE K (fDGetOr i f g) σ H Q) : tDGet2 (tVar i) (rdW K f) (rdW K g) σ H Q := by
  obtain ⟨F, σd, R, fr, d, σd', e, k⟩ := h
  unfold fDGetOr at e
  split at e
  · rename_i es0 e0
    split at e
    · rename_i dk σ1 e1
      split at e
      · rename_i dy σ2 e4
        split at e
        · rename_i kk ek
          split at e
          · rename_i es e2
            cases e
            obtain ⟨a0, o0, h01, h02, h03, h04⟩ := R.own i _ e0
            obtain ⟨kvs0, rfl, hs0⟩ := h04.dict
            refine ⟨.ref a0, h01, a0, rfl, .inl ⟨kvs0, .inl h03⟩, F, σd, R, dk, _, e1, fun F1 H1 vk R1 g1 hk => ⟨F1, σ1, R1, dy, _, e4, fun F2 H2 vy R2 g2 hy => ?_⟩⟩
            obtain ⟨a, o, h1, h2, h3, h4⟩ := R2.own i _ e2
            obtain ⟨kvs, rfl, hs⟩ := h4.dict
            rw [h01] at h1; cases h1
            obtain ⟨rfl, _⟩ := keyOf_dp hk ek
            refine ⟨_, DGet.k h3, ?_⟩
            refine k F2 H2 _ R2 (g1.trans g2) ?_
            show Dp K F2 _ _
            cases el : lookD kk es with
            | none => rw [lookD_none hs el]; exact hy
            | some dd =>
              obtain ⟨v, hv, hd⟩ := lookD_some hs el
              rw [hv]; exact hd
          · cases e
        · cases e
      · cases e
    · cases e
  · cases e
theorem rd_dput {i : Nat} {f g : DW} {De : Ends} (h : rdS K (fDPut i f g) De σ H) : sDPut (tVar i) (rdW K f) (rdW K g) De σ H := by
  obtain ⟨F, σd, R, fl, σd', e, k⟩ := h
  unfold fDPut at e
  split at e
  · rename_i d σ1 e1
    split at e
    · rename_i s0 e0
      split at e
      · rename_i dk σ2 e2
        split at e
        · rename_i kk ek
          split at e
          · rename_i es e3
            split at e
            · rename_i hl
              cases e
              refine ⟨F, σd, R, d, σ1, e1, fun F1 H1 v R1 g1 hd => ?_⟩
              obtain ⟨vo, hvo⟩ := slot_val R1 e0
              refine ⟨vo, hvo, F1, σ1, R1, _, σ2, e2, fun F2 H2 vi R2 g2 hi => ?_⟩
              obtain ⟨a, o, h1, h2, h3, h4⟩ := R2.own i _ e3
              obtain ⟨kvs, rfl, hs⟩ := h4.dict
              rw [hvo] at h1; cases h1
              obtain ⟨rfl, _⟩ := keyOf_dp hi ek
              refine ⟨a, _, rfl, DPut.k h3 (by rw [hs.len]; exact okLen_lt hl), ?_⟩
              exact k F2 σ _ (R2.wr e3 hvo (hold_put hs (Dp.mono g2.ff hd))) ((g1.trans g2).trans (go_wr e3 hvo))
            · cases e
          · cases e
        · cases e
      · cases e
    · cases e
  · cases e
end
section
variable {X : Cx} {pn : List (Nat × Addr)} {e i e2 : Expr} {pos p1 p2 p3 : Pos} {x : Str} {k : Nat}
theorem e_dict0 : PEe X pn (.Dict [] [] pos) fDict0 := peMono pe_dnewK fun _ _ _ => rd_dict0
theorem e_dget {f : DW} (hu : X.A.units + 64 < cLine) (hN : X.N[k]? = some x) (hv : Vis X.env.scope x) (hd : (x == ("__debug__" : Str)) = false) (hcd : (x == ("__classdict__" : Str)) = false) (hi : PEw X pn i f) (hs : NoSl i) :
    PEe X pn (.Subscript (.Name x p1) i pos) (fDGet k f) := peMono (pe_dget (by omega) (pe_var hN hv hd hcd) hi hs) fun _ _ _ => rd_dget
theorem e_dgetOr {f g : DW} (hu : X.A.units + 64 < cLine) (hN : X.N[k]? = some x) (hv : Vis X.env.scope x) (hd : (x == ("__debug__" : Str)) = false) (hcd : (x == ("__classdict__" : Str)) = false) (he : PEw X pn e f) (hf : PEw X pn e2 g) (m : M2 X (.Name x p1) "get" p2 e e2 pos) :
    PEe X pn (.Call (.Attribute (.Name x p1) "get" p2) [e, e2] [] pos) (fDGetOr k f g) := peMono (pe_dget2 (by omega) (pe_var hN hv hd hcd) he hf m) fun _ _ _ => rd_dgetOr
theorem s_dput {f g : DW} (hu : X.A.units + 64 < cLine) (hN : X.N[k]? = some x) (hv : Vis X.env.scope x) (hd : (x == ("__debug__" : Str)) = false) (hcd : (x == ("__classdict__" : Str)) = false) (hi : PEw X pn i f) (he : PEw X pn e g)
    (hs : swapsWith e (some (.Subscript (.Name x p1) i p2)) pos.line X.env = pure false) : PSd X pn (.Assign [.Subscript (.Name x p1) i p2] e pos) (fDPut k f g) :=
  psMono (ps_dput (by omega) (pe_var hN hv hd hcd) hi he hs) fun _ _ _ => rd_dput
end
end Ev
end
/-! ## EvX3 -/
section
set_option Elab.async false
set_option linter.all false
set_option maxRecDepth 100000
set_option maxHeartbeats 1000000
/-! EvX3: sorted(x.values()), counts. -/
namespace Ev
open PySem L2 PyProof.Rows PySem.W
def valuesO (p d : Addr) : HO := .ext fun h => h.IsValuesView p d
theorem valuesO_ok {P : Program} {w : World} {H : Hp} {h : Heap} {p d : Addr} (e : h.IsValuesView p d) : ObjOk P w H h p (valuesO p d) :=
  ⟨e, (let ⟨o, ho, _⟩ := e; ⟨o, ho⟩), fun h1 h2 x k => let ⟨o, ho, r⟩ := x; ⟨o, k o ho, r⟩⟩
section
variable {X : Cx}
def rValues : V → List V → Hp → VK → Prop := fun x xs H Q => ∃ (a : Addr) (kvs : List (Key × V)), x = .ref a ∧ xs = [] ∧ H a = some (.dK kvs) ∧ ∀ p, H p = none → Q (.ref p) (upd H p (valuesO p a))
theorem mt_values : MtR X "dict.values" rValues := by
  intro pins s σ H x xs v us Q I rx rxs h
  obtain ⟨a, kvs, rfl, rfl, ha, q⟩ := h
  cases rx
  cases rxs
  obtain ⟨z, lo, vs, rel, dd⟩ := dk_of I.hok ha
  refine call_meetsIn PySem.F.slot_dict_values dd.typeIs PySem.F.entry_dict_values (PySem.F.args_dict_values_1 _) (meets_dict_values (mixKind X.prog X.w) a lo) ⟨⟨vs, dd⟩, ?_⟩
  have hf : H s.heap.objs.size = none := I.hok.fresh (Nat.le_refl _)
  exact ⟨.ref s.heap.objs.size, upd H s.heap.objs.size (valuesO s.heap.objs.size a), I.laid (t' := s.toks) (fun b u e => Heap.get?_push_of_some _ e) (Nat.le_refl _) (valuesO_ok ⟨_, Heap.get?_push_size _ rfl, rfl, rfl⟩), rfl, q _ hf⟩
def rSortedV (K : PySem.W.Frag) : List V → Hp → VK → Prop := fun vs H Q => ∃ (p a : Addr) (kvs : List (Key × V)) (ds : List D), vs = [.ref p] ∧ H p = some (valuesO p a) ∧ H a = some (.dK kvs) ∧ L2.DpAll K H (kvs.map (·.2)) ds ∧ SortOk ds ∧
  ∀ q, H q = none → Q (.ref q) (upd H q (.lst ((isort (fun a b => leD a.2 b.2) ((kvs.map (·.2)).zip ds)).map (·.1))))
theorem kv_vals : ∀ {kvs : List (Key × V)} {vs : List (Key × Value)}, KV kvs vs → Vals (kvs.map (·.2)) (vs.map (·.2))
  | _, _, .nil => .nil
  | _, _, .cons h t => .cons h.2 (kv_vals t)
theorem vals_ext {α : Type} : ∀ {a b : List α}, a.length = b.length → (∀ (j : Nat) (x : α), a[j]? = some x → b[j]? = some x) → a = b := by
  intro a b hl h
  refine List.ext_getElem? fun j => ?_
  cases e : a[j]? with
  | none =>
    rw [List.getElem?_eq_none_iff] at e
    rw [List.getElem?_eq_none (by omega)]
  | some x => rw [h j x e]
theorem cr_sortedV (hc : X.calm = true) (hu : X.A.units + 64 < cLine) : CallR X (.builtin "sorted") (rSortedV X.K) := by
  intro pins s σ H xs us Q I r h
  obtain ⟨p, a, kvs, ds, rfl, hp, ha, hdp, ok, q⟩ := h
  obtain rfl := Vals.ref1 r
  have view : s.heap.IsValuesView p a := (show ObjOk X.prog X.w H s.heap p (valuesO p a) from I.hok p _ hp).1
  obtain ⟨z, lo, vs, rel, dd⟩ := dk_of I.hok ha
  obtain ⟨ep, hat⟩ := dd.dictAt
  have hl : kvs.length = vs.length := Paired.length rel
  have h16 : vs.length ≤ sizeLine := by rw [← hl]; exact z
  have hld := oldAll_len hdp
  refine Calls.call_function_entry PyProof.Rows.kind_sorted PyProof.Rows.plain_sorted PyProof.Rows.entry_sorted (PyProof.Rows.args_sorted1 _) ?_
  unfold Builtin.«sorted»
  refine wpAny_bind (m := checkCount "sorted" 1 1 _) (wpAny_pure ?_)
  refine wpAny_bind (PySem.W.kdu_collect (A := X.A.in1) (PySem.W.kdl_values (knd := mixKind X.prog X.w) (kvs := vs) (ep := ep)) (I.ok.hd hc) ⟨view, hat⟩ h16 fun h' tk acc hk hacc => ?_)
  have hal : acc.toList.length = vs.length := by rw [Array.length_toList, hacc.1]
  have hacc2 : acc.toList = vs.map (·.2) := by
    refine vals_ext (by rw [hal, List.length_map]) fun j v e => ?_
    obtain ⟨k, e1⟩ := hacc.2 j v (by rw [← Array.getElem?_toList]; exact e)
    rw [List.getElem?_map, e1]; rfl
  have rv : Vals (kvs.map (·.2)) acc.toList := by rw [hacc2]; exact kv_vals rel
  have I1 : Inv X pins σ H { s with heap := h', toks := tk } := I.kept hk
  refine wpAny_bind (wpAny_newList ?_ (by rw [hal]; exact h16))
  have hoL : (h'.push (seqObj "list" acc.toList.toArray 0)).get? h'.objs.size = some (seqObj "list" acc.toList.toArray 0) := Heap.get?_push_size _ rfl
  show wpAny _ _ _ _ _ { s with heap := h'.push (seqObj "list" acc.toList.toArray 0), toks := tk }
  obtain ⟨as, hr⟩ := L2.Dp.readsAll I1 ds (kvs.map (·.2)) acc.toList hdp rv
  have hlz : (kvs.map (·.2)).length = ds.length := hld
  have hvl := rv.length
  have hsnd : ((kvs.map (·.2)).zip ds).map (·.2) = ds := List.map_snd_zip (by omega)
  have er0 := zip_reads (xs := kvs.map (·.2)) hr (by omega)
  have er : PySem.W.EachIs (fun (v : Value) (b : V × D) => ∃ as, Reads (h'.push (seqObj "list" acc.toList.toArray 0)) v b.2 as ∧ h'.objs.size ∉ as) acc.toList ((kvs.map (·.2)).zip ds) :=
    er0.mono fun v b hb => by
      obtain ⟨as, r1⟩ := hb
      refine ⟨as, PyProof.Rows.Reads.keeps (fun b o e => Heap.get?_push_of_some _ e) r1, fun hm => ?_⟩
      obtain ⟨o, ho⟩ := PyProof.On.reads_mem_get r1 _ hm
      exact absurd (Heap.lt_size ho) (Nat.lt_irrefl _)
  refine wpAny_bind (wpAny_holding (PySem.W.list_sort_data (s := { s with heap := h'.push (seqObj "list" acc.toList.toArray 0), toks := tk }) (A := X.A.in1) (β := V × D) (bs := (kvs.map (·.2)).zip ds) (enc := (·.2)) (R := fun u b => RelV b.1 u) hoL (zip_each (s := s) rv hlz) er (by rw [hsnd]; exact ok.al) (by rw [hsnd]; exact ok.so)
    (by rw [List.length_zip, List.length_map, ← hld, List.length_map, Nat.min_self]; exact z) (fun b hb => ?_) fun out ho he => ?_))
  · have := ok.de b.2 (by rw [← hsnd]; exact List.mem_map_of_mem hb)
    show X.A.units + 1 + 1 + b.2.depth < cLine
    omega
  · have T : PySem.W.TotalLe (PySem.W.dataLe (β := V × D) false (·.2)) := PySem.W.sortLe_total _ _ _
    rw [← isort_merge T] at he
    have hcg : isort (PySem.W.dataLe (β := V × D) false (·.2)) ((kvs.map (·.2)).zip ds) = isort (fun a b => leD a.2 b.2) ((kvs.map (·.2)).zip ds) := by
      refine isort_congr fun x hx y hy => ?_
      rw [PySem.W.dataLe_eq]
      show (!dataLt y.2 x.2) = !ltD y.2 x.2
      rw [ltD_eq]
      exact ok.al y.2 (by rw [← hsnd]; exact List.mem_map_of_mem hy) x.2 (by rw [← hsnd]; exact List.mem_map_of_mem hx)
    rw [hcg] at he
    have hv := each_vals he
    obtain ⟨e', he'⟩ := PyProof.Rows.sortedHeap_at (vs := acc.toList) (out := List.toArray out) hoL
    have hlen : ((isort (fun a b => leD a.2 b.2) ((kvs.map (·.2)).zip ds)).map (·.1)).length ≤ sizeLine := by
      rw [hv.length, ho, List.length_zip, List.length_map, ← hld, List.length_map, Nat.min_self]; exact z
    refine wpAny_pure ⟨_, rfl, .ref h'.objs.size, upd H h'.objs.size (.lst ((isort (fun a b => leD a.2 b.2) ((kvs.map (·.2)).zip ds)).map (·.1))), I1.laid (t' := tk) (fun b u e => ?_) (Nat.le_refl _)
      (show ObjOk X.prog X.w _ _ _ (.lst _) from ⟨hlen, out, e', hv, he'⟩), rfl, q _ (I1.hok.fresh (Nat.le_refl _))⟩
    have hb : b < h'.objs.size := Heap.lt_size e
    rw [PyProof.Rows.sortedHeap_old (Nat.ne_of_lt hb) (by rw [size_push']; exact Nat.lt_succ_of_lt hb)]
    exact Heap.get?_push_of_some _ e
end
end Ev
end
/-! ## EvX4 -/
section
set_option Elab.async false
set_option linter.all false
set_option maxRecDepth 100000
set_option maxHeartbeats 1000000
/-! EvX4: sorted(x.values()), x.count(k), s.count(t) as meanings. -/
namespace Ev
open PySem L2
/-- sorted(x.values()), x a dict of one's own -/
def fSortedV (i : Nat) : DE := fun σd => match σd[i]? with
  | some (some ⟨true, .dict es⟩) => if kindOk (es.map (·.2)) = true then some (true, .list (isort leD (es.map (·.2))), σd) else none
  | _ => none
/-- x.count(k), a list of ints -/
def fCntI (i : Nat) (f : DW) : DE := fun σd => match σd[i]? with
  | some (some ⟨_, .list _⟩) => match f σd with
    | some (.int k, σ1) => match σ1[i]? with
      | some (some ⟨_, .list ds⟩) => match allInt ds with
        | some ns => some (false, .int (ns.count k : Nat), σ1)
        | none => none
      | _ => none
    | _ => none
  | _ => none
/-- s.count(t) -/
def fCntS (g f : DW) : DE := fun σd => match g σd with
  | some (.str a, σ1) => match f σ1 with
    | some (.str b, σ2) => some (false, .int (Txt.count a b), σ2)
    | _ => none
  | _ => none
section
variable {K : Kp} {σ : L2.St} {H : Hp}
theorem HoldKV.vals {K : PySem.W.Frag} {F : Hp} {κ : Type} {f : κ → D} : ∀ {a : List (κ × V)} {c : List (D × D)}, HoldKV K F f a c → DpAll K F (a.map (·.2)) (c.map (·.2))
  | _, _, .nil => .nil
  | _, _, .cons h t => .cons h (HoldKV.vals t)
theorem rd_sortedV {i : Nat} {Q : VK} (h : rdE K (fSortedV i) σ H Q) : tCB (rSortedV K) (tCons (tBM0 K "dict" rValues (tVar i)) tNil) σ H Q := by
  obtain ⟨F, σd, R, fr, d, σd', e, k⟩ := h
  unfold fSortedV at e
  split at e
  · rename_i es e0
    split at e
    · rename_i hk
      cases e
      obtain ⟨a, o, h1, h2, h3, h4⟩ := R.own i _ e0
      obtain ⟨kvs, rfl, hs⟩ := h4.dict
      refine ⟨.ref a, h1, .inr (.inr (.inl ⟨rfl, .inl ⟨kvs, h3⟩⟩)), a, kvs, rfl, rfl, h3, fun p hp => ?_⟩
      have hpa : a ≠ p := fun z => by rw [z] at h3; rw [hp] at h3; cases h3
      have g1 : Grow F H F (upd H p (valuesO p a)) := new_grow R.fh hp
      refine ⟨p, a, kvs, es.map (·.2), rfl, upd_same, by rw [upd_ne hpa]; exact h3, (DpAll.mono g1.fh hs.vals).old, kindOk_ok hk, fun q hq => ?_⟩
      have g2 : Grow F (upd H p (valuesO p a)) F (upd (upd H p (valuesO p a)) q (.lst ((isort (fun a b => leD a.2 b.2) ((kvs.map (·.2)).zip (es.map (·.2)))).map (·.1)))) := new_grow g1.fh hq
      have hq0 : H q = none := g1.hh.none hq
      refine k _ _ (.ref q) (g2.rl (g1.rl R)) (g1.go.trans g2.go) ⟨q, _, rfl, hq0, R.fh.none hq0, upd_same, ?_, fun z => ?_⟩
      · show DpAll K F _ _
        have := dp_map (K := K.K) (l := isort (fun a b => leD a.2 b.2) ((kvs.map (·.2)).zip (es.map (·.2)))) fun b hb => zip_dp hs.vals b (isort_mem hb)
        rw [isort_map (le := fun a b : V × D => leD a.2 b.2) (le' := leD) (f := (·.2)) fun _ _ _ _ => rfl, List.map_snd_zip (by rw [hs.vals.len]; exact Nat.le_refl _)] at this
        exact this
      · obtain ⟨j, d', q1, q2⟩ := z
        obtain ⟨a', o', z1, z2, z3, z4⟩ := R.own j d' q1
        rw [q2] at z1; cases z1
        rw [hq0] at z3; cases z3
    · cases e
  · cases e
theorem slot_lst {F : Hp} {σd : SD} {i : Nat} {ow : Bool} {ds : List D} (R : Rl K F σd σ H) (h : σd[i]? = some (some ⟨ow, .list ds⟩)) : ∃ a vs, σ[i]? = some (some (.ref a)) ∧ SqL K H a vs ∧ DpAll K F vs ds := by
  cases ow with
  | false =>
    obtain ⟨v, h1, h2⟩ := R.shr i _ h
    cases h2 with
    | lst r hs => exact ⟨_, _, h1, .inl (R.fh.rd r), hs⟩
  | true =>
    obtain ⟨a, o, h1, h2, h3, h4⟩ := R.own i _ h
    obtain ⟨vs, rfl, hs⟩ := h4.list
    exact ⟨a, vs, h1, SqL.of h3, hs⟩
theorem rd_cntI {i : Nat} {f : DW} {Q : VK} (h : rdE K (fCntI i f) σ H Q) : tBM K "list" (rCntI K) (tVar i) (tCons (rdW K f) tNil) σ H Q := by
  obtain ⟨F, σd, R, fr, d, σd', e, k⟩ := h
  unfold fCntI at e
  split at e
  · rename_i ow0 ds0 e0
    split at e
    · rename_i kk σ1 e1
      split at e
      · rename_i ow1 ds e2
        split at e
        · rename_i ns en
          cases e
          obtain ⟨a0, vs0, h01, h02, h03⟩ := slot_lst R e0
          refine ⟨.ref a0, h01, .inl ⟨rfl, vs0, h02⟩, F, σd, R, _, _, e1, fun F1 H1 v R1 g1 hd => ?_⟩
          cases hd
          obtain ⟨a, vs, h1, h2, h3⟩ := slot_lst R1 e2
          rw [h01] at h1; cases h1
          rw [allInt_map en] at h3
          have := DpAll.ints h3
          subst this
          exact ⟨a0, ns, kk, rfl, rfl, h2, k F1 H1 _ R1 g1 (.int _)⟩
        · cases e
      · cases e
    · cases e
  · cases e
theorem rd_cntS {g f : DW} {Q : VK} (h : rdE K (fCntS g f) σ H Q) : tBM K "str" (fun x xs H Q => ∃ a b, x = .str a ∧ xs = [.str b] ∧ Q (.int (Txt.count a b)) H) (rdW K g) (tCons (rdW K f) tNil) σ H Q := by
  obtain ⟨F, σd, R, fr, d, σd', e, k⟩ := h
  unfold fCntS at e
  split at e
  · rename_i a σ1 e1
    split at e
    · rename_i b σ2 e2
      cases e
      refine ⟨F, σd, R, _, _, e1, fun F1 H1 v R1 g1 hd => ?_⟩
      cases hd
      refine ⟨rfl, F1, σ1, R1, _, _, e2, fun F2 H2 v2 R2 g2 hd2 => ?_⟩
      cases hd2
      exact ⟨a, b, rfl, rfl, k F2 H2 _ R2 (g1.trans g2) (.int _)⟩
    · cases e
  · cases e
end
section
variable {X : Cx} {pn : List (Nat × Addr)} {e o : Expr} {pos p p1 p2 p3 : Pos} {x y : Str} {k : Nat}
theorem e_sortedV (hc : X.calm = true) (hu : X.A.units + 64 < cLine) (hg : Gl X y) (hm : X.mg y = none) (hb : bootBuiltins y = some (.builtin "sorted")) (hn : y ≠ ("__name__" : Str)) (hdb : (y == ("__debug__" : Str)) = false)
    (hN : X.N[k]? = some x) (hv : Vis X.env.scope x) (hd : (x == ("__debug__" : Str)) = false) (hcd : (x == ("__classdict__" : Str)) = false) (hline : (p2.endLine == p3.line) = true) :
    PEe X pn (.Call (.Name y p) [.Call (.Attribute (.Name x p1) "values" p2) [] [] p3] [] pos) (fSortedV k) :=
  peMono (pe_callB (cr_sortedV hc hu) hg hm hb (pa_cons (pe_bm0 PySem.F.plainAttrs_dict PySem.F.slot_dict_values PySem.F.type_dict_values mt_values (pe_var hN hv hd hcd) rfl hline) pa_nil rfl) hn hdb rfl rfl) fun _ _ _ => rd_sortedV
theorem e_cntI {f : DW} (hN : X.N[k]? = some x) (hv : Vis X.env.scope x) (hd : (x == ("__debug__" : Str)) = false) (hcd : (x == ("__classdict__" : Str)) = false) (he : PEw X pn e f)
    (hs : starEach [e] X.env = (false, eval e X.env) :: starEach [] X.env) (hline : (p2.endLine == pos.line) = true) : PEe X pn (.Call (.Attribute (.Name x p1) "count" p2) [e] [] pos) (fCntI k f) :=
  peMono (pe_bm PySem.F.plainAttrs_list PySem.F.slot_list_count PySem.F.type_list_count mt_lcount (pe_var hN hv hd hcd) (pa_cons he pa_nil hs) rfl (by rw [hs]; rfl) hline hs rfl) fun _ _ _ => rd_cntI
theorem e_cntS {g f : DW} (ho : PEw X pn o g) (he : PEw X pn e f) (hbase : attributeBase o "count" X.env (eval o X.env) = eval o X.env)
    (hs : starEach [e] X.env = (false, eval e X.env) :: starEach [] X.env) (hline : (p2.endLine == pos.line) = true) : PEe X pn (.Call (.Attribute o "count" p2) [e] [] pos) (fCntS g f) :=
  peMono (pe_bm PySem.F.plainAttrs_str PySem.F.slot_str_count PySem.F.type_str_count mt_count ho (pa_cons he pa_nil hs) hbase (by rw [hs]; rfl) hline hs rfl) fun _ _ _ => rd_cntS
end
end Ev
end
/-! ## EvX5 -/
section
set_option Elab.async false
set_option linter.all false
set_option maxRecDepth 100000
set_option maxHeartbeats 1000000
/-! EvX5: dict comprehensions. -/
namespace Ev
open PySem L2
def dcLoop (p : Pat) (c : DT) (kx vx : DW) (own : List Nat) : List D → List (D × D) → SD → Option (List (D × D) × SD)
  | [], acc, σ => some (acc, σ)
  | d :: ds, acc, σ => match bindP p d σ with
    | some σ1 => match c σ1 with
      | some (true, σ2) => match kx σ2 with
        | some (dk, σ3) => match keyOf dk with
          | some k => match vx σ3 with
            | some (dv, σ4) => dcLoop p c kx vx own ds (putD k dv acc) (wipeD σ4 own)
            | none => none
          | none => none
        | none => none
      | some (false, σ2) => dcLoop p c kx vx own ds acc (wipeD σ2 own)
      | none => none
    | none => none
def fDc (it : DV) (p : Pat) (c : DT) (kx vx : DW) (own : List Nat) : DE := fun σd => match it σd with
  | some (ds, σ1) => if (freeD σ1 own && okLen ds.length) = true then
      match dcLoop p c kx vx own ds [] (wipeD σ1 own) with
      | some (es, σ2) => some (true, .dict es, backD σ1 σ2 own)
      | none => none
    else none
  | none => none
theorem putK_len {kvs : List (Key × V)} {k : Key} {v : V} : (putK kvs k v).length ≤ kvs.length + 1 := length_putK kvs k v
section
variable {K : Kp} {σ : L2.St} {H : Hp}
theorem rd_dc {it : DV} {p : Pat} {c : DT} {kx vx : DW} {own : List Nat} (hp : ∀ j ∈ p.slots, j ∈ own) (hfr : ∀ i ∈ own, K.free i) {Q : VK} (h : rdE K (fDc it p c kx vx own) σ H Q) :
    tDc (rdI K it) (rdG K p) (rdT K c) (rdW K kx) (rdW K vx) own σ H Q := by
  obtain ⟨F, σd, R, fr, d, σd', e, k⟩ := h
  unfold fDc at e
  split at e
  · rename_i ds σ1 e1
    split at e
    · rename_i hb
      rw [Bool.and_eq_true] at hb
      split at e
      · rename_i es σ2 e2
        cases e
        refine ⟨F, σd, R, ds, σ1, e1, fun F1 H1 J R1 g1 itd D hD => ?_⟩
        have RW0 := R1.wipe own hfr
        have hF1D : F1 D = none := R1.fh.none hD
        have nOwn1 : ¬ OwnAt σ1 σ D := fun ⟨i, d', q1, q2⟩ => by
          obtain ⟨a, o, h1, _, h3, _⟩ := R1.own i d' q1
          rw [q2] at h1; cases h1
          rw [hD] at h3; cases h3
        let st (Fc : Hp) (σc : SD) (Hc : Hp) : Prop := Rl K Fc σc (L2.wipe σ own) Hc ∧ Go F1 (wipeD σ1 own) (L2.wipe σ own) H1 Fc σc (L2.wipe σ own) Hc ∧ Fc D = none ∧ ¬ OwnAt σc (L2.wipe σ own) D
        refine ⟨fun i m Hc => m = ds.length - i ∧ i ≤ ds.length ∧ ∃ Fc σc accV accD, st Fc σc Hc ∧ Hc D = some (.dK accV) ∧ HoldKV K Fc keyD accV accD ∧ accV.length ≤ i ∧ dcLoop p c kx vx own (ds.drop i) accD σc = some (es, σ2), ⟨ds.length, by omega, Nat.zero_le _, F1, wipeD σ1 own, [], [], ?_, upd_same, .nil, Nat.le_refl _, by simpa using e2⟩, ?_⟩
        · refine ⟨RW0.hid hF1D fun q => nOwn1 (ownAt_wipe q), (Go.refl _ _ _ _).hid hD, hF1D, fun q => nOwn1 (ownAt_wipe q)⟩
        · rintro i m Hc ⟨rfl, hi, Fc, σc, accV, accD, ⟨Rc, gc, hFD, nO⟩, hHD, hacc, hlen, hloop⟩
          have eF1 : Ex F1 Hc := gc.ff.trans Rc.fh
          by_cases hlt : i < ds.length
          · refine .inr ⟨itd.go i Hc eF1 hlt, _, fun H' N => ⟨ds.length - (i + 1), by omega, rfl, hlt, N⟩, fun x H' y => ?_⟩
            have hd : ds[i]? = some ds[i] := by simp [hlt]
            obtain ⟨F2, gr, hx⟩ := itd.yld i Fc Hc x H' _ gc.ff Rc.fh hd y
            have R2 := gr.rl Rc
            have g2 : Go F1 (wipeD σ1 own) (L2.wipe σ own) H1 F2 σc (L2.wipe σ own) H' := gc.trans gr.go
            have hF2D : F2 D = none := by
              cases q : F2 D with
              | none => rfl
              | some u =>
                rcases gr.fnew D u q with q | q
                · rw [hFD] at q; cases q
                · rw [hHD] at q; cases q
            have hH2D : H' D = some (.dK accV) := gr.hh D _ hHD
            rw [List.drop_eq_getElem_cons hlt] at hloop
            unfold dcLoop at hloop
            split at hloop
            · rename_i σb eb
              have after : ∀ (τ : L2.St) (Fx : Hp) (σx : SD) (Hx : Hp), L2.wipe τ own = L2.wipe σ own → Rl K Fx σx τ Hx → Go F2 σc (L2.wipe σ own) H' Fx σx τ Hx →
                  st Fx (wipeD σx own) Hx ∧ Hx D = some (.dK accV) ∧ Ex F2 Fx := fun τ Fx σx Hx hw Rx gx => by
                have Rw := Rx.wipe own hfr
                have gw : Go Fx σx τ Hx Fx (wipeD σx own) (L2.wipe τ own) Hx := go_slots fun b q => ownAt_wipe q
                rw [hw] at Rw gw
                have gt := (g2.trans gx).trans gw
                refine ⟨⟨Rw, gt, ?_, fun q => ?_⟩, gx.keep D _ hH2D fun q => nO q, gx.ff⟩
                · cases q : Fx D with
                  | none => rfl
                  | some u =>
                    rcases gx.fnew D u q with q | q | q
                    · rw [hF2D] at q; cases q
                    · rw [hH2D] at q; cases q
                    · exact (nO q).elim
                · rcases (gx.trans gw).own D q with q | q
                  · exact nO q
                  · rw [hH2D] at q; cases q
              have wq : ∀ {τ : L2.St}, τ.length = (L2.wipe σ own).length → (∀ j, j ∉ p.slots → τ[j]? = (L2.wipe σ own)[j]?) → L2.wipe τ own = L2.wipe σ own := fun {τ} hl h => by
                refine wipe_eq (by rw [hl, wipe_length]) fun j hj => ?_
                rw [h j fun z => hj (hp j z), wipe_out hj]
              refine ⟨F2, σc, _, R2, hx, σb, eb, fun τ Rb gb hτl hτ => ⟨wq hτl hτ, ?_⟩⟩
              have hw : L2.wipe τ own = L2.wipe σ own := wq hτl hτ
              split at hloop
              · rename_i σt et
                split at hloop
                · rename_i dk σk ek
                  split at hloop
                  · rename_i kk ekk
                    split at hloop
                    · rename_i dv σv ev
                      refine ⟨F2, σb, Rb, true, _, et, fun F3 H3 R3 g3 => ?_⟩
                      refine PyProof.Rows.ite_tt ?_
                      refine ⟨F3, σt, R3, dk, _, ek, fun F4 H4 yv R4 g4 hy => ?_⟩
                      refine ⟨F4, σk, R4, dv, _, ev, fun F5 H5 zv R5 g5 hz => ?_⟩
                      obtain ⟨⟨Rw, gw, hF5, nO5⟩, hH5, ff5⟩ := after τ F5 σv H5 hw R5 (((gb.trans g3).trans g4).trans g5)
                      obtain ⟨rfl, _⟩ := keyOf_dp hy ekk
                      refine ⟨accV, kk, rfl, hH5, ?_, F5, _, _, putD kk dv accD, ⟨Rw.hid hF5 nO5, gw.hid hD, hF5, nO5⟩, upd_same, hold_put ((hacc.mono gr.ff).mono ff5) hz, ?_, hloop⟩
                      · have := Nat.le_of_ble_eq_true hb.2
                        exact Nat.lt_of_le_of_lt (show accV.length ≤ 1000000 by omega) (by decide)
                      · have := putK_len (kvs := accV) (k := kk) (v := zv)
                        omega
                    · cases hloop
                  · cases hloop
                · cases hloop
              · rename_i σt et
                refine ⟨F2, σb, Rb, false, _, et, fun F3 H3 R3 g3 => ?_⟩
                refine PyProof.Rows.ite_ff ?_
                obtain ⟨⟨Rw, gw, hF4, nO4⟩, hH4, ff4⟩ := after τ F3 σt H3 hw R3 (gb.trans g3)
                exact ⟨F3, _, accV, accD, ⟨Rw, gw, hF4, nO4⟩, hH4, (hacc.mono gr.ff).mono ff4, by omega, hloop⟩
              · cases hloop
            · cases hloop
          · have ei : i = ds.length := by omega
            subst ei
            rw [List.drop_length] at hloop
            cases hloop
            refine .inl ⟨itd.stop Hc eF1, ?_⟩
            have gB : Go F1 σ1 σ H1 Fc (backD σ1 σ2 own) σ Hc := by
              refine ⟨gc.ff, fun b u q n => gc.keep b u q fun z => n (ownAt_wipe z), fun b u q => ?_, fun b q => ?_, gc.there⟩
              · rcases gc.fnew b u q with z | z | z
                · exact .inl z
                · exact .inr (.inl z)
                · exact .inr (.inr (ownAt_wipe z))
              · rcases gc.own b (ownAt_back hb.1 q) with z | z
                · exact .inl (ownAt_wipe z)
                · exact .inr z
            exact k Fc Hc (.ref D) (Rl.back R1 hb.1 gc.ff Rc) (g1.trans gB) ⟨D, _, rfl, g1.back hD, hFD, hHD, hacc, fun q => nO (ownAt_back hb.1 q)⟩
      · cases e
    · cases e
  · cases e
end
section
variable {X : Cx}
/-- name = {..} on one line, the name a local -/
theorem ps_setDc {i : Nat} {y : Str} {py : Pos} {kx vx tg iter : Expr} {ifs : List Expr} {scope : Scope} {own : List (Str × Nat)} {pos spos : Pos} {wi : TI} {g : TG} {tt : TT} {tk tv : TE} (hc : X.calm = true) (hN : X.N.Nodup) (hy : X.N[i]? = some y) (hyl : X.env.scope.names.lookup y = some .local)
    (hsw : swapsWith (.DictComp kx vx [⟨tg, iter, ifs, 0⟩] scope pos) (some (.Name y py)) spos.line X.env = pure true) (hi : PI X tg iter wi) (ok : BlkOk X.N X.env.scope scope own)
    (hg : ∀ (s : Shared) (H : Hp) (C : Addr) (cl : List (Str × Addr)) (fp : List Addr), PG (X.blk s H scope (compEnvC scope cl C X.env) fp) tg g) (ht : ∀ (s : Shared) (H : Hp) (C : Addr) (cl : List (Str × Addr)) (fp : List Addr), PTs (X.blk s H scope (compEnvC scope cl C X.env) fp) ifs tt)
    (hk : ∀ (s : Shared) (H : Hp) (C : Addr) (cl : List (Str × Addr)) (fp : List Addr), PE (X.blk s H scope (compEnvC scope cl C X.env) fp) kx tk)
    (he : ∀ (s : Shared) (H : Hp) (C : Addr) (cl : List (Str × Addr)) (fp : List Addr), PE (X.blk s H scope (compEnvC scope cl C X.env) fp) vx tv) (hs : ∀ x, foldedSetIterable iter X.env x = pure x) :
    PS X (.Assign [.Name y py] (.DictComp kx vx [⟨tg, iter, ifs, 0⟩] scope pos) spos) (tAsg (tDc wi g tt tk tv (own.map (·.2))) (gName i)) := by
  refine ⟨fun pins s σ H D I h => ?_⟩
  rw [exec_Assign_Name_used _ _ _ _ hsw]
  refine wpAny_bind (wpAny_standAt (wpAny_bind ?_))
  show wpAny _ X.A (do let _ ← comprehension (.DictComp kx vx [⟨tg, iter, ifs, 0⟩] scope pos) scope X.env (firstIterPos [⟨tg, iter, ifs, 0⟩] pos) _ false (eval iter X.env) (some (assign (.Name y py) X.env))) _ _ s
  have h : tDc wi g tt tk tv (own.map (·.2)) σ H (fun x H1 => gName i x σ H1 D.nx) := h
  refine wpAny_bind (thn (dc_core (Qf := fun _ s' => SP X pins D .next s') hc hN I hi ok hg ht hk he hs h fun L C s' m H' I' q hn f => ?_) fun _ s' hq => wpAny_pure (wpAny_pure hq))
  show wpAny _ _ (assign (.Name y py) X.env (.ref L)) _ _ _
  refine wpAny_assign_Name (store_ok2 (v := V.ref L) I' hN hy (.inl hyl) rfl (fun s2 I2 ⟨a, sb, ha⟩ => ?_) (.inr hyl))
  obtain ⟨f0, f1, f2, f3, f4, f5⟩ := f
  have haC : C ≠ a := by
    rcases ha with z | z
    · rw [z]; exact f1
    · exact fun e => f4 y a z e.symm
  refine ⟨m, hn.sameBut sb haC, fun h3 sb3 => ?_⟩
  exact ⟨_, H', I2.turned (t' := s2.toks) (fun b o hb e => (sb3.2 b hb).trans e) f0 f1 f3 f4 f5, q⟩
theorem sw_trueD {kx vx : Expr} {gs : List Comprehension} {scope : Scope} {pos py : Pos} {y : Str} {l : Nat} {env : Env} (hk : env.scope.kind = .function) (hy : env.scope.names.lookup y = some .local) (hl : (py.line == pos.line) = true)
    (ha : (scope.names.any fun (n, k) => n == y && (k == .local || k == .cell)) = false) : swapsWith (.DictComp kx vx gs scope pos) (some (.Name y py)) l env = pure true := by
  have ky : env.kindOf y = some .local := hy
  have hb : env.blockKind = .function := by unfold Env.blockKind; rw [hk]; rfl
  unfold swapsWith
  simp only [hb, ky, ha, Expr.pos, hl]
  rfl
end
end Ev
end
/-! ## EvX6 -/
section
set_option Elab.async false
set_option linter.all false
set_option maxRecDepth 100000
set_option maxHeartbeats 1000000
/-! EvX6: order of any data. -/
namespace Ev
open PySem L2
open PySem.W (alike alikeAll dataLt)
section
variable {X : Cx}
/-- alike both ways, no None, not deep -/
def cmpOk (a b : D) : Bool := alike a b && (alike b a && (!isNone a && Nat.ble a.depth 60))
theorem cmpOk_of {a b : D} (h : cmpOk a b = true) : alike a b = true ∧ alike b a = true ∧ a ≠ .none ∧ a.depth ≤ 60 ∧ (∀ es, a ≠ .dict es) ∧ ∀ es, b ≠ .dict es := by
  unfold cmpOk at h
  simp only [Bool.and_eq_true, Bool.not_eq_true'] at h
  obtain ⟨h1, h2, h3, h4⟩ := h
  refine ⟨h1, h2, fun e => ?_, Nat.le_of_ble_eq_true h4, fun es e => ?_, fun es e => ?_⟩
  · subst e; cases h3
  · subst e; cases b <;> simp [alike] at h1
  · subst e; cases a <;> simp [alike] at h1
def rCmpX (K : PySem.W.Frag) (g : D → D → Bool) : R2 := fun x y H Q => ∃ a b, Dp K H x a ∧ Dp K H y b ∧ cmpOk a b = true ∧ Q (.bl (g a b)) H
theorem cmp_room {a b : D} (hu : X.A.units + 64 < cLine) (h : a.depth ≤ 60) : X.A.units + min a.depth b.depth < cLine := by
  have := Nat.min_le_left a.depth b.depth
  omega
theorem op_ltX (hu : X.A.units + 64 < cLine) : OpR X (compareOp .Lt) (rCmpX X.K fun a b => ltD a b) := by
  intro pins s σ H x y v u Q I rx ry h
  obtain ⟨a, b, ha, hb, ok, q⟩ := h
  obtain ⟨c1, c2, c3, c4, _, _⟩ := cmpOk_of ok
  obtain ⟨as, r1⟩ := L2.Dp.reads I a x v ha.old rx
  obtain ⟨bs, r2⟩ := L2.Dp.reads I b y u hb.old ry
  dsimp only at q
  rw [ltD_eq a b c1] at q
  exact PySem.W.lt_data r1 r2 c1 c3 (cmp_room hu c4) ⟨.bl _, H, I, rfl, q⟩
theorem op_gtX (hu : X.A.units + 64 < cLine) : OpR X (compareOp .Gt) (rCmpX X.K fun a b => ltD b a) := by
  intro pins s σ H x y v u Q I rx ry h
  obtain ⟨a, b, ha, hb, ok, q⟩ := h
  obtain ⟨c1, c2, c3, c4, _, _⟩ := cmpOk_of ok
  obtain ⟨as, r1⟩ := L2.Dp.reads I a x v ha.old rx
  obtain ⟨bs, r2⟩ := L2.Dp.reads I b y u hb.old ry
  dsimp only at q
  rw [ltD_eq b a c2] at q
  exact PySem.W.gt_data r1 r2 c1 c3 (cmp_room hu c4) ⟨.bl _, H, I, rfl, q⟩
theorem op_leX (hu : X.A.units + 64 < cLine) : OpR X (compareOp .LtE) (rCmpX X.K fun a b => !ltD b a) := by
  intro pins s σ H x y v u Q I rx ry h
  obtain ⟨a, b, ha, hb, ok, q⟩ := h
  obtain ⟨c1, c2, c3, c4, _, _⟩ := cmpOk_of ok
  obtain ⟨as, r1⟩ := L2.Dp.reads I a x v ha.old rx
  obtain ⟨bs, r2⟩ := L2.Dp.reads I b y u hb.old ry
  dsimp only at q
  rw [ltD_eq b a c2] at q
  exact PySem.W.le_data r1 r2 c1 c3 (cmp_room hu c4) ⟨.bl _, H, I, rfl, q⟩
theorem op_geX (hu : X.A.units + 64 < cLine) : OpR X (compareOp .GtE) (rCmpX X.K fun a b => !ltD a b) := by
  intro pins s σ H x y v u Q I rx ry h
  obtain ⟨a, b, ha, hb, ok, q⟩ := h
  obtain ⟨c1, c2, c3, c4, _, _⟩ := cmpOk_of ok
  obtain ⟨as, r1⟩ := L2.Dp.reads I a x v ha.old rx
  obtain ⟨bs, r2⟩ := L2.Dp.reads I b y u hb.old ry
  dsimp only at q
  rw [ltD_eq a b c1] at q
  exact PySem.W.ge_data r1 r2 c1 c3 (cmp_room hu c4) ⟨.bl _, H, I, rfl, q⟩
def pCmpX (g : D → D → Bool) : Prim
  | [a, b] => if cmpOk a b = true then some (false, .bool (g a b)) else none
  | _ => none
theorem prim_cmpX {K : PySem.W.Frag} (g : D → D → Bool) : PrimOk K (r2 (rCmpX K g)) (pCmpX g) := by
  intro F H vs ds fr d Q e a eq k
  unfold pCmpX at eq
  split at eq
  · split at eq
    · rename_i hc
      cases eq
      obtain ⟨x, y, rfl, hx, hy⟩ := all2_2 a
      obtain ⟨_, _, _, _, n1, n2⟩ := cmpOk_of hc
      exact ⟨x, y, rfl, _, _, hx.dp e n1, hy.dp e n2, hc, k F H _ (Grow.refl e) (.bl _)⟩
    · cases eq
  · cases eq
abbrev pLtX : Prim := pCmpX fun a b => ltD a b
abbrev pGtX : Prim := pCmpX fun a b => ltD b a
abbrev pLeX : Prim := pCmpX fun a b => !ltD b a
abbrev pGeX : Prim := pCmpX fun a b => !ltD a b
theorem b_ltX (hu : X.A.units + 64 < cLine) : B2 X (compareOp .Lt) pLtX := ⟨_, op_ltX hu, prim_cmpX _⟩
theorem b_gtX (hu : X.A.units + 64 < cLine) : B2 X (compareOp .Gt) pGtX := ⟨_, op_gtX hu, prim_cmpX _⟩
theorem b_leX (hu : X.A.units + 64 < cLine) : B2 X (compareOp .LtE) pLeX := ⟨_, op_leX hu, prim_cmpX _⟩
theorem b_geX (hu : X.A.units + 64 < cLine) : B2 X (compareOp .GtE) pGeX := ⟨_, op_geX hu, prim_cmpX _⟩
end
end Ev
end
/-! ## EvX7 -/
section
set_option Elab.async false
set_option linter.all false
set_option maxRecDepth 100000
set_option maxHeartbeats 1000000
/-! EvX7: t.index(k), min and max of ints, a, b, c = x, y, z, comprehensions with two for. -/
namespace Ev
open PySem L2
/-! ### t.index(k), a tuple of ints -/
def fIdx (i : Nat) (f : DW) : DE := fun σd => match σd[i]? with
  | some (some ⟨false, .tuple ds⟩) => match f σd with
    | some (.int k, σ1) => match allInt ds with
      | some ns => if ns.contains k = true then some (false, .int (ns.idxOf k : Nat), σ1) else none
      | none => none
    | _ => none
  | _ => none
def tIdx (to : TE) (t : TA) : TE := fun σ H Q => to σ H fun x H1 => ∃ (a : Addr) (xs : List V), x = .ref a ∧ TupAt H1 a xs ∧ t σ H1 fun ys H2 => ∃ (ns : List Int) (k : Int), xs = ns.map V.int ∧ ys = [.int k] ∧ k ∈ ns ∧ TupAt H2 a xs ∧ Q (.int (ns.idxOf k : Nat)) H2
section
variable {X : Cx} {o e : Expr} {to : TE} {te : TA} {apos cpos : Pos}
theorem tupAt_is {pins : List (Addr × Obj)} {σ : L2.St} {H : Hp} {s : Shared} {a : Addr} {xs : List V} (I : Inv X pins σ H s) (h : TupAt H a xs) : ∃ its ob, Vals xs its ∧ s.heap.IsTuple a its.toArray ∧ s.heap.get? a = some ob ∧ ob.dict = none ∧ xs.length ≤ sizeLine := by
  obtain ⟨ob, h1, h2⟩ := h
  obtain ⟨its, r, p, z⟩ := I.tuple (.inl (.inr ⟨ob, h1⟩))
  have := I.hok a _ h1
  exact ⟨its, ob, r, p, this.1, h2, z⟩
theorem pe_idx (ho : PE X o to) (ha : PA X [e] te) (hbase : attributeBase o "index" X.env (eval o X.env) = eval o X.env) (hline : (apos.endLine == cpos.line) = true) (hs : starEach [e] X.env = (false, eval e X.env) :: starEach [] X.env) :
    PE X (.Call (.Attribute o "index" apos) [e] [] cpos) (tIdx to te) := by
  refine ⟨fun pins s σ H Q I h => ?_⟩
  refine wpAny_Call_method_late hbase (by rw [hs]; rfl) hline rfl (thn (ho.run pins s σ H _ I h) fun v s1 ⟨x, H1, I1, r1, a, xs, ex, hT, q1⟩ => ?_)
  subst ex
  cases r1
  obtain ⟨its, ob, rv, p, hg, hd, hz⟩ := tupAt_is I1 hT
  refine ⟨"tuple", "tuple.index", PySem.F.plainAttrs_tuple, PySem.F.slot_tuple_index, PySem.F.type_tuple_index, ?_, fun b e2 => ?_, ?_⟩
  · obtain ⟨o', ho', hc', _⟩ := p
    exact ⟨o', ho', hc'⟩
  · cases e2
    exact ⟨ob, hg, hd⟩
  · have hB := ha.run cpos pins s1 σ H1 _ I1 q1
    rw [hs] at hB ⊢
    refine Calls.callWith_builtin (by rfl) (Calls.evalArgs_plain ?_)
    refine thn hB fun us s2 ⟨vs, H2, I2, r2, ns, k, exs, ey, hk, hT2, q⟩ => ?_
    subst ey exs
    cases r2 with
    | cons r rr =>
      cases rr
      obtain ⟨t, rfl⟩ := r
      obtain ⟨its2, ob2, rv2, p2, _, _, hz2⟩ := tupAt_is I2 hT2
      refine PySem.SeqAt.call_tuple_index p2 (PySem.SeqAt.ItemsEq.ints rv2.ints) hk ?_
      exact ⟨.int _, H2, I2.kept (t' := s2.toks + 1) fun b o e => e, ⟨_, rfl⟩, q⟩
end
section
variable {K : Kp} {σ : L2.St} {H : Hp}
theorem rd_idx {i : Nat} {f : DW} {Q : VK} (h : rdE K (fIdx i f) σ H Q) : tIdx (tVar i) (tCons (rdW K f) tNil) σ H Q := by
  obtain ⟨F, σd, R, fr, d, σd', e, k⟩ := h
  unfold fIdx at e
  split at e
  · rename_i ds e0
    split at e
    · rename_i kk σ1 e1
      split at e
      · rename_i ns en
        split at e
        · rename_i hk
          cases e
          obtain ⟨v, h1, h2⟩ := R.shr i _ e0
          cases h2 with
          | tup hT hs =>
            rename_i a xs
            have hs' := hs
            rw [allInt_map en] at hs'
            have := DpAll.ints hs'
            subst this
            refine ⟨.ref a, h1, a, _, rfl, R.fh.tupAt hT, F, σd, R, _, _, e1, fun F1 H1 v R1 g1 hd => ?_⟩
            cases hd
            exact ⟨ns, kk, rfl, rfl, by simpa using hk, R1.fh.tupAt (g1.ff.tupAt hT), k F1 H1 _ R1 g1 (.int _)⟩
        · cases e
      · cases e
    · cases e
  · cases e
end
section
variable {X : Cx} {pn : List (Nat × Addr)} {e : Expr} {pos p1 p2 : Pos} {x : Str} {k : Nat}
theorem e_idx {f : DW} (hN : X.N[k]? = some x) (hv : Vis X.env.scope x) (hd : (x == ("__debug__" : Str)) = false) (hcd : (x == ("__classdict__" : Str)) = false) (he : PEw X pn e f)
    (hs : starEach [e] X.env = (false, eval e X.env) :: starEach [] X.env) (hline : (p2.endLine == pos.line) = true) : PEe X pn (.Call (.Attribute (.Name x p1) "index" p2) [e] [] pos) (fIdx k f) :=
  peMono (pe_idx (pe_var hN hv hd hcd) (pa_cons he pa_nil hs) rfl hline hs) fun _ _ _ => rd_idx
end

/-! ### min(x), max(x) of ints -/
def minI : Int → List Int → Int
  | m, [] => m
  | m, n :: ns => minI (if n < m then n else m) ns
def maxI : Int → List Int → Int
  | m, [] => m
  | m, n :: ns => maxI (if m < n then n else m) ns
theorem minI_ok : ∀ (ns : List Int) (m : Int), minI m ns ∈ m :: ns ∧ ∀ y ∈ m :: ns, minI m ns ≤ y
  | [], m => ⟨by simp [minI], fun y hy => by simp at hy; rw [hy]; exact Int.le_refl _⟩
  | n :: ns, m => by
    obtain ⟨h1, h2⟩ := minI_ok ns (if n < m then n else m)
    have e : minI m (n :: ns) = minI (if n < m then n else m) ns := rfl
    rw [e]
    constructor
    · rcases List.mem_cons.mp h1 with h | h
      · rw [h]; split <;> simp
      · simp [h]
    · intro y hy
      have hm := h2 _ List.mem_cons_self
      have a1 : (if n < m then n else m) ≤ m := by split <;> omega
      have a2 : (if n < m then n else m) ≤ n := by split <;> omega
      rcases List.mem_cons.mp hy with rfl | hy
      · exact Int.le_trans hm a1
      · rcases List.mem_cons.mp hy with rfl | hy
        · exact Int.le_trans hm a2
        · exact h2 y (List.mem_cons_of_mem _ hy)
theorem maxI_ok : ∀ (ns : List Int) (m : Int), maxI m ns ∈ m :: ns ∧ ∀ y ∈ m :: ns, y ≤ maxI m ns
  | [], m => ⟨by simp [maxI], fun y hy => by simp at hy; rw [hy]; exact Int.le_refl _⟩
  | n :: ns, m => by
    obtain ⟨h1, h2⟩ := maxI_ok ns (if m < n then n else m)
    have e : maxI m (n :: ns) = maxI (if m < n then n else m) ns := rfl
    rw [e]
    constructor
    · rcases List.mem_cons.mp h1 with h | h
      · rw [h]; split <;> simp
      · simp [h]
    · intro y hy
      have hm := h2 _ List.mem_cons_self
      have a1 : m ≤ (if m < n then n else m) := by split <;> omega
      have a2 : n ≤ (if m < n then n else m) := by split <;> omega
      rcases List.mem_cons.mp hy with rfl | hy
      · exact Int.le_trans a1 hm
      · rcases List.mem_cons.mp hy with rfl | hy
        · exact Int.le_trans a2 hm
        · exact h2 y (List.mem_cons_of_mem _ hy)
theorem minI_fold : ∀ (ns : List Int) (m : Int), ns.foldl min m = minI m ns
  | [], _ => rfl
  | n :: ns, m => by
    rw [List.foldl_cons, minI_fold ns]
    show minI (min m n) ns = minI (if n < m then n else m) ns
    congr 1
    split <;> omega
theorem maxI_fold : ∀ (ns : List Int) (m : Int), ns.foldl max m = maxI m ns
  | [], _ => rfl
  | n :: ns, m => by
    rw [List.foldl_cons, maxI_fold ns]
    show maxI (max m n) ns = maxI (if m < n then n else m) ns
    congr 1
    split <;> omega
theorem least_one {m m' : Int} {ns : List Int} (h1 : m ∈ ns) (h2 : ∀ y ∈ ns, m ≤ y) (h1' : m' ∈ ns) (h2' : ∀ y ∈ ns, m' ≤ y) : m = m' := by
  have := h2 _ h1'; have := h2' _ h1; omega
theorem most_one {m m' : Int} {ns : List Int} (h1 : m ∈ ns) (h2 : ∀ y ∈ ns, y ≤ m) (h1' : m' ∈ ns) (h2' : ∀ y ∈ ns, y ≤ m') : m = m' := by
  have := h2 _ h1'; have := h2' _ h1; omega
def pMinL : Prim
  | [.list ds] => match allInt ds with
    | some (n :: ns) => some (false, .int (minI n ns))
    | _ => none
  | _ => none
def pMaxL : Prim
  | [.list ds] => match allInt ds with
    | some (n :: ns) => some (false, .int (maxI n ns))
    | _ => none
  | _ => none
def pMinT : Prim
  | [.tuple ds] => match allInt ds with
    | some (n :: ns) => some (false, .int (minI n ns))
    | _ => none
  | _ => none
def pMaxT : Prim
  | [.tuple ds] => match allInt ds with
    | some (n :: ns) => some (false, .int (maxI n ns))
    | _ => none
  | _ => none
section
variable {X : Cx}
theorem c_minL (hc : X.calm = true) : C1 X (.builtin "min") pMinL := by
  refine ⟨_, cr_min hc, fun F H vs ds fr d Q e a eq k => ?_⟩
  unfold pMinL at eq
  split at eq
  · split at eq
    · rename_i n ns ei
      cases eq
      obtain ⟨x, rfl, hx⟩ := all2_1 a
      obtain ⟨p, xs, rfl, h1, h2⟩ := hx.list e
      rw [allInt_map ei] at h2
      have := DpAll.ints h2
      subst this
      refine ⟨p, n :: ns, rfl, .inl h1, by simp, fun m m1 m2 => ?_⟩
      obtain ⟨q1, q2⟩ := minI_ok ns n
      rw [least_one m1 m2 q1 q2]
      exact k F H _ (Grow.refl e) (.int _)
    · cases eq
  · cases eq
theorem c_maxL (hc : X.calm = true) : C1 X (.builtin "max") pMaxL := by
  refine ⟨_, cr_max hc, fun F H vs ds fr d Q e a eq k => ?_⟩
  unfold pMaxL at eq
  split at eq
  · split at eq
    · rename_i n ns ei
      cases eq
      obtain ⟨x, rfl, hx⟩ := all2_1 a
      obtain ⟨p, xs, rfl, h1, h2⟩ := hx.list e
      rw [allInt_map ei] at h2
      have := DpAll.ints h2
      subst this
      refine ⟨p, n :: ns, rfl, .inl h1, by simp, fun m m1 m2 => ?_⟩
      obtain ⟨q1, q2⟩ := maxI_ok ns n
      rw [most_one m1 m2 q1 q2]
      exact k F H _ (Grow.refl e) (.int _)
    · cases eq
  · cases eq
theorem dpInts {K : PySem.W.Frag} {H : Hp} : ∀ ns : List Int, L2.DpAll K H (ns.map V.int) (ns.map PyData.int)
  | [] => .nil
  | n :: ns => .cons (.int n) (dpInts ns)
theorem alikeInts (ns : List Int) : PySem.W.AlikeAll (ns.map PyData.int) := by
  refine ⟨fun x hx y hy => ?_, fun x hx => ?_⟩
  · obtain ⟨a, _, rfl⟩ := List.mem_map.mp hx
    obtain ⟨b, _, rfl⟩ := List.mem_map.mp hy
    rfl
  · obtain ⟨a, _, rfl⟩ := List.mem_map.mp hx
    exact fun z => by cases z
theorem depthInts : ∀ ns : List Int, PyData.depthAll (ns.map PyData.int) = 0
  | [] => by simp [PyData.depthAll]
  | n :: ns => by simp [PyData.depthAll, PyData.depth, depthInts ns]
def rMinT (K : PySem.W.Frag) : List V → Hp → VK → Prop := fun vs H Q => ∃ (a : Addr) (n : Int) (ns : List Int), vs = [V.ref a] ∧ SqT K H a ((n :: ns).map V.int) ∧ Q (.int (minI n ns)) H
def rMaxT (K : PySem.W.Frag) : List V → Hp → VK → Prop := fun vs H Q => ∃ (a : Addr) (n : Int) (ns : List Int), vs = [V.ref a] ∧ SqT K H a ((n :: ns).map V.int) ∧ Q (.int (maxI n ns)) H
theorem cr_minT (hc : X.calm = true) (hu : X.A.units + 64 < cLine) : CallR X (.builtin "min") (rMinT X.K) := by
  intro pins s σ H vs us Q I r h
  obtain ⟨a, n, ns, rfl, hq, q⟩ := h
  obtain ⟨its, rv, p, _⟩ := I.tuple hq
  rw [Vals.ref1 r]
  obtain ⟨as, hr⟩ := L2.Dp.readsAll I ((n :: ns).map PyData.int) ((n :: ns).map V.int) its (dpInts (n :: ns)) rv
  refine PySem.W.min_tuple_data (I.ok.hd hc) (show s.heap.IsTuple a its.toArray from p) (x := .int n) (xs := ns.map .int) hr (alikeInts (n :: ns)) (by rw [show (PyData.int n :: ns.map PyData.int) = (n :: ns).map PyData.int from rfl, depthInts]; omega) fun i v h' tk bs hv r hk => ?_
  rw [PySem.W.minD_ints, minI_fold] at r
  cases r
  exact ⟨.int _, H, I.kept hk, ⟨_, rfl⟩, q⟩
theorem cr_maxT (hc : X.calm = true) (hu : X.A.units + 64 < cLine) : CallR X (.builtin "max") (rMaxT X.K) := by
  intro pins s σ H vs us Q I r h
  obtain ⟨a, n, ns, rfl, hq, q⟩ := h
  obtain ⟨its, rv, p, _⟩ := I.tuple hq
  rw [Vals.ref1 r]
  obtain ⟨as, hr⟩ := L2.Dp.readsAll I ((n :: ns).map PyData.int) ((n :: ns).map V.int) its (dpInts (n :: ns)) rv
  refine PySem.W.max_tuple_data (I.ok.hd hc) (show s.heap.IsTuple a its.toArray from p) (x := .int n) (xs := ns.map .int) hr (alikeInts (n :: ns)) (by rw [show (PyData.int n :: ns.map PyData.int) = (n :: ns).map PyData.int from rfl, depthInts]; omega) fun i v h' tk bs hv r hk => ?_
  rw [PySem.W.maxD_ints, maxI_fold] at r
  cases r
  exact ⟨.int _, H, I.kept hk, ⟨_, rfl⟩, q⟩
theorem c_minT (hc : X.calm = true) (hu : X.A.units + 64 < cLine) : C1 X (.builtin "min") pMinT := by
  refine ⟨_, cr_minT hc hu, fun F H vs ds fr d Q e a eq k => ?_⟩
  unfold pMinT at eq
  split at eq
  · split at eq
    · rename_i n ns ei
      cases eq
      obtain ⟨x, rfl, hx⟩ := all2_1 a
      obtain ⟨p, xs, rfl, h1, h2⟩ := hx.tuple
      rw [allInt_map ei] at h2
      have := DpAll.ints h2
      subst this
      exact ⟨p, n, ns, rfl, .inl (e.rd h1.rd), k F H _ (Grow.refl e) (.int _)⟩
    · cases eq
  · cases eq
theorem c_maxT (hc : X.calm = true) (hu : X.A.units + 64 < cLine) : C1 X (.builtin "max") pMaxT := by
  refine ⟨_, cr_maxT hc hu, fun F H vs ds fr d Q e a eq k => ?_⟩
  unfold pMaxT at eq
  split at eq
  · split at eq
    · rename_i n ns ei
      cases eq
      obtain ⟨x, rfl, hx⟩ := all2_1 a
      obtain ⟨p, xs, rfl, h1, h2⟩ := hx.tuple
      rw [allInt_map ei] at h2
      have := DpAll.ints h2
      subst this
      exact ⟨p, n, ns, rfl, .inl (e.rd h1.rd), k F H _ (Grow.refl e) (.int _)⟩
    · cases eq
  · cases eq
end

/-! ### a, b, c = x, y, z -/
def fPar3 (i j l : Nat) (f g h : DW) : DS := fun σd => match f σd with
  | some (d, σ1) => match g σ1 with
    | some (d', σ2) => match h σ2 with
      | some (d'', σ3) => some (.next, ((σ3.set i (some ⟨false, d⟩)).set j (some ⟨false, d'⟩)).set l (some ⟨false, d''⟩))
      | none => none
    | none => none
  | none => none
section
variable {K : Kp} {σ : L2.St} {H : Hp} {De : Ends}
theorem rd_par3 {i j l : Nat} {f g h : DW} (hfi : K.free i) (hfj : K.free j) (hfl : K.free l) (hh : rdS K (fPar3 i j l f g h) De σ H) : tPar3 i j l (tCons (rdW K f) (tCons (rdW K g) (tCons (rdW K h) tNil))) De σ H := by
  obtain ⟨F, σd, R, fl, σd', e, k⟩ := hh
  unfold fPar3 at e
  split at e
  · rename_i d σ1 e1
    split at e
    · rename_i d' σ2 e2
      split at e
      · rename_i d'' σ3 e3
        cases e
        refine ⟨F, σd, R, d, σ1, e1, fun F1 H1 v R1 g1 r1 => ⟨F1, σ1, R1, d', σ2, e2, fun F2 H2 w R2 g2 r2 => ⟨F2, σ2, R2, d'', σ3, e3, fun F3 H3 u R3 g3 r3 => ⟨v, w, u, rfl, ?_⟩⟩⟩⟩
        have hv := Dp.mono (g2.ff.trans g3.ff) r1
        have hw := Dp.mono g3.ff r2
        have R4 := ((R3.set i hfi hv).set j hfj hw).set l hfl r3
        exact k F3 _ H3 R4 (((g1.trans g2).trans g3).trans (go_slots fun b q => ownAt_set (fun _ z => by cases z) (ownAt_set (fun _ z => by cases z) (ownAt_set (fun _ z => by cases z) q))))
      · cases e
    · cases e
  · cases e
end
section
variable {X : Cx} {pn : List (Nat × Addr)} {pos p1 p2 p3 : Pos}
theorem s_par3 {i j l : Nat} {x y z : Str} {ea eb ec : Expr} {f g h : DW} {kt k2 : Nat} {pt pt2 : Pos} (hfi : Kp.free ⟨X.K, pn⟩ i) (hfj : Kp.free ⟨X.K, pn⟩ j) (hfl : Kp.free ⟨X.K, pn⟩ l) (hc : X.calm = true) (hN : X.N.Nodup) (hi : X.N[i]? = some x) (hj : X.N[j]? = some y) (hl : X.N[l]? = some z) (hij : i ≠ j) (hil : i ≠ l) (hjl : j ≠ l)
    (hx : X.env.scope.names.lookup x = some .local) (hy : X.env.scope.names.lookup y = some .local) (hz : X.env.scope.names.lookup z = some .local) (ha : PEw X pn ea f) (hb : PEw X pn eb g) (hcc : PEw X pn ec h)
    (hs1 : starEach [ea, eb, ec] X.env = (false, eval ea X.env) :: starEach [eb, ec] X.env) (hs2 : starEach [eb, ec] X.env = (false, eval eb X.env) :: starEach [ec] X.env) (hs3 : starEach [ec] X.env = (false, eval ec X.env) :: starEach [] X.env)
    (hw : swappedStores [.Tuple [.Name x p1, .Name y p2, .Name z p3] kt pt] (.Tuple [ea, eb, ec] k2 pt2) X.env = pure (some [x, y, z])) :
    PSd X pn (.Assign [.Tuple [.Name x p1, .Name y p2, .Name z p3] kt pt] (.Tuple [ea, eb, ec] k2 pt2) pos) (fPar3 i j l f g h) :=
  psMono (ps_par3 hc hN hi hj hl hij hil hjl hx hy hz (pa_cons ha (pa_cons hb (pa_cons hcc pa_nil hs3) hs2) hs1) hw rfl) fun _ _ _ => rd_par3 hfi hfj hfl
end
end Ev
end
/-! ## EvX8 -/
section
set_option Elab.async false
set_option linter.all false
set_option maxRecDepth 100000
set_option maxHeartbeats 1000000
/-! EvX8: [elt for p in it if c for p1 in it1 if c1]. -/
namespace Ev
open PySem L2
def lc2Loop (p : Pat) (c : DT) (it1 : DV) (p1 : Pat) (c1 : DT) (elt : DW) (own own1 : List Nat) : List D → SD → Option (List D × SD)
  | [], σ => some ([], σ)
  | d :: ds, σ => match bindP p d σ with
    | some σ1 => match c σ1 with
      | some (true, σ2) => match it1 σ2 with
        | some (ds1, σ3) => match lcLoop p1 c1 elt own1 ds1 (wipeD σ3 own1) with
          | some (es, σ4) => match lc2Loop p c it1 p1 c1 elt own own1 ds (wipeD σ4 own) with
            | some (rest, σ5) => some (es ++ rest, σ5)
            | none => none
          | none => none
        | none => none
      | some (false, σ2) => lc2Loop p c it1 p1 c1 elt own own1 ds (wipeD σ2 own)
      | none => none
    | none => none
def fLc2 (it : DV) (p : Pat) (c : DT) (it1 : DV) (p1 : Pat) (c1 : DT) (elt : DW) (own own1 : List Nat) : DE := fun σd => match it σd with
  | some (ds, σ1) => if freeD σ1 own = true then
      match lc2Loop p c it1 p1 c1 elt own own1 ds (wipeD σ1 own) with
      | some (es, σ2) => if okLen es.length = true then some (true, .list es, backD σ1 σ2 own) else none
      | none => none
    else none
  | none => none
section
variable {K : Kp} {σ : L2.St} {H : Hp}
theorem wipe_wipe {τ : L2.St} {own own1 : List Nat} (h : ∀ j ∈ own1, j ∈ own) : L2.wipe (L2.wipe τ own1) own = L2.wipe τ own :=
  wipe_eq (by rw [wipe_length]) fun j hj => by rw [wipe_out fun z => hj (h j z)]
theorem wipe_eq_of' {σ τ : L2.St} {own : List Nat} {p : Pat} (hl : τ.length = (L2.wipe σ own).length) (h : ∀ j, j ∉ p.slots → τ[j]? = (L2.wipe σ own)[j]?) (hp : ∀ j ∈ p.slots, j ∈ own) : L2.wipe τ own = L2.wipe σ own := by
  refine wipe_eq (by rw [hl, wipe_length]) fun j hj => ?_
  rw [h j fun z => hj (hp j z), wipe_out hj]
theorem rd_lc2 {it it1 : DV} {p p1 : Pat} {c c1 : DT} {elt : DW} {own own1 : List Nat} (hp : ∀ j ∈ p.slots, j ∈ own) (hp1 : ∀ j ∈ p1.slots, j ∈ own1) (h1o : ∀ j ∈ own1, j ∈ own) (hfr : ∀ i ∈ own, K.free i) {Q : VK} (h : rdE K (fLc2 it p c it1 p1 c1 elt own own1) σ H Q) :
    tLc2 (rdI K it) (rdG K p) (rdT K c) (rdI K it1) (rdG K p1) (rdT K c1) (rdW K elt) own own1 σ H Q := by
  have hfr1 : ∀ i ∈ own1, K.free i := fun i hi => hfr i (h1o i hi)
  obtain ⟨F, σd, R, fr, d, σd', e, k⟩ := h
  unfold fLc2 at e
  split at e
  · rename_i ds σ1 e1
    split at e
    · rename_i hb
      split at e
      · rename_i es σ2 e2
        split at e
        · rename_i hlen
          cases e
          have hlen : es.length ≤ 1000000 := Nat.le_of_ble_eq_true hlen
          refine ⟨F, σd, R, ds, σ1, e1, fun F1 H1 J R1 g1 itd D hD => ?_⟩
          have RW0 := R1.wipe own hfr
          have hF1D : F1 D = none := R1.fh.none hD
          have nOwn1 : ¬ OwnAt σ1 σ D := fun ⟨i, d', q1, q2⟩ => by
            obtain ⟨a, o, h1, _, h3, _⟩ := R1.own i d' q1
            rw [q2] at h1; cases h1
            rw [hD] at h3; cases h3
          let st (Fc : Hp) (σc : SD) (Hc : Hp) : Prop := Rl K Fc σc (L2.wipe σ own) Hc ∧ Go F1 (wipeD σ1 own) (L2.wipe σ own) H1 Fc σc (L2.wipe σ own) Hc ∧ Fc D = none ∧ ¬ OwnAt σc (L2.wipe σ own) D
          refine ⟨fun i m Hc => m = ds.length - i ∧ i ≤ ds.length ∧ ∃ Fc σc accV accD rest, st Fc σc Hc ∧ Hc D = some (.lst accV) ∧ DpAll K Fc accV accD ∧ lc2Loop p c it1 p1 c1 elt own own1 (ds.drop i) σc = some (rest, σ2) ∧ accD ++ rest = es, ⟨ds.length, by omega, Nat.zero_le _, F1, wipeD σ1 own, [], [], es, ?_, upd_same, .nil, by simpa using e2, rfl⟩, ?_⟩
          · exact ⟨RW0.hid hF1D fun q => nOwn1 (ownAt_wipe q), (Go.refl _ _ _ _).hid hD, hF1D, fun q => nOwn1 (ownAt_wipe q)⟩
          · rintro i m Hc ⟨rfl, hi, Fc, σc, accV, accD, rest, ⟨Rc, gc, hFD, nO⟩, hHD, hacc, hloop, hes⟩
            have eF1 : Ex F1 Hc := gc.ff.trans Rc.fh
            by_cases hlt : i < ds.length
            · refine .inr ⟨itd.go i Hc eF1 hlt, _, fun H' N => ⟨ds.length - (i + 1), by omega, rfl, hlt, N⟩, fun x H' y => ?_⟩
              have hd : ds[i]? = some ds[i] := by simp [hlt]
              obtain ⟨F2, gr, hx⟩ := itd.yld i Fc Hc x H' _ gc.ff Rc.fh hd y
              have R2 := gr.rl Rc
              have g2 : Go F1 (wipeD σ1 own) (L2.wipe σ own) H1 F2 σc (L2.wipe σ own) H' := gc.trans gr.go
              have hF2D : F2 D = none := by
                cases q : F2 D with
                | none => rfl
                | some u =>
                  rcases gr.fnew D u q with q | q
                  · rw [hFD] at q; cases q
                  · rw [hHD] at q; cases q
              have hH2D : H' D = some (.lst accV) := gr.hh D _ hHD
              rw [List.drop_eq_getElem_cons hlt] at hloop
              unfold lc2Loop at hloop
              split at hloop
              · rename_i σb eb
                have after : ∀ (τ : L2.St) (Fx : Hp) (σx : SD) (Hx : Hp) (acc : List V), L2.wipe τ own = L2.wipe σ own → Rl K Fx σx τ Hx → Go F2 σc (L2.wipe σ own) H' Fx σx τ Hx → Fx D = none → ¬ OwnAt σx τ D →
                    st Fx (wipeD σx own) Hx := fun τ Fx σx Hx acc hw Rx gx hFx nx => by
                  have Rw := Rx.wipe own hfr
                  have gw : Go Fx σx τ Hx Fx (wipeD σx own) (L2.wipe τ own) Hx := go_slots fun b q => ownAt_wipe q
                  have nw : ¬ OwnAt (wipeD σx own) (L2.wipe τ own) D := fun q => nx (ownAt_wipe q)
                  rw [hw] at Rw gw nw
                  exact ⟨Rw, (g2.trans gx).trans gw, hFx, nw⟩
                have fresh : ∀ (τ : L2.St) (Fx : Hp) (σx : SD) (Hx : Hp), Go F2 σc (L2.wipe σ own) H' Fx σx τ Hx → Fx D = none ∧ ¬ OwnAt σx τ D := fun τ Fx σx Hx gx => by
                  constructor
                  · cases q : Fx D with
                    | none => rfl
                    | some u =>
                      rcases gx.fnew D u q with q | q | q
                      · rw [hF2D] at q; cases q
                      · rw [hH2D] at q; cases q
                      · exact (nO q).elim
                  · intro q
                    rcases gx.own D q with q | q
                    · exact nO q
                    · rw [hH2D] at q; cases q
                refine ⟨F2, σc, _, R2, hx, σb, eb, fun τ Rb gb hτl hτ => ⟨wipe_eq_of' hτl hτ hp, ?_⟩⟩
                have hw : L2.wipe τ own = L2.wipe σ own := wipe_eq_of' hτl hτ hp
                split at hloop
                · rename_i σt et
                  split at hloop
                  · rename_i ds1 σu eu
                    split at hloop
                    · rename_i es1 σv ev
                      split at hloop
                      · rename_i rest' σr er
                        cases hloop
                        refine ⟨F2, σb, Rb, true, _, et, fun F3 H3 R3 g3 => ?_⟩
                        refine PyProof.Rows.ite_tt ?_
                        refine ⟨F3, σt, R3, ds1, σu, eu, fun F4 H4 J1 R4 g4 itd1 => ?_⟩
                        have G4 := (gb.trans g3).trans g4
                        obtain ⟨hF4D, nO4⟩ := fresh τ F4 σu H4 G4
                        have hH4D : H4 D = some (.lst accV) := G4.keep D _ hH2D fun q => nO q
                        have RW4 := R4.wipe own1 hfr1
                        let st1 (Fd : Hp) (σe : SD) (Hd : Hp) : Prop := Rl K Fd σe (L2.wipe τ own1) Hd ∧ Go F4 (wipeD σu own1) (L2.wipe τ own1) H4 Fd σe (L2.wipe τ own1) (upd Hd D (.lst accV)) ∧ Fd D = none ∧ ¬ OwnAt σe (L2.wipe τ own1) D
                        refine ⟨fun j kk Hd => kk = ds1.length - j ∧ j ≤ ds1.length ∧ ∃ Fd σe accV1 accD1 rest1, st1 Fd σe Hd ∧ Hd D = some (.lst accV1) ∧ DpAll K Fd accV1 accD1 ∧ lcLoop p1 c1 elt own1 (ds1.drop j) σe = some (rest1, σv) ∧ accD1 ++ (rest1 ++ rest') = es, ⟨ds1.length, by omega, Nat.zero_le _, F4, wipeD σu own1, accV, accD, es1, ?_, hH4D, DpAll.mono G4.ff (DpAll.mono gr.ff hacc), by simpa using ev, hes⟩, ?_⟩
                        · refine ⟨RW4, ?_, hF4D, fun q => nO4 (ownAt_wipe q)⟩
                          have : upd H4 D (.lst accV) = H4 := by
                            funext b
                            by_cases q : b = D
                            · subst q; rw [upd_same, hH4D]
                            · rw [upd_ne q]
                          rw [this]
                          exact Go.refl _ _ _ _
                        · rintro j kk Hd ⟨rfl, hj, Fd, σe, accV1, accD1, rest1, ⟨Rd, gd, hFd, nOd⟩, hHdD, hacc1, hloop1, hes1⟩
                          have eF4 : Ex F4 Hd := gd.ff.trans Rd.fh
                          by_cases hlt1 : j < ds1.length
                          · refine .inr ⟨itd1.go j Hd eF4 hlt1, _, fun H' N => ⟨ds1.length - (j + 1), by omega, rfl, hlt1, N⟩, fun x1 H5 y1 => ?_⟩
                            have hd1 : ds1[j]? = some ds1[j] := by simp [hlt1]
                            obtain ⟨F5, gr5, hx1⟩ := itd1.yld j Fd Hd x1 H5 _ gd.ff Rd.fh hd1 y1
                            have R5 := gr5.rl Rd
                            have hF5D : F5 D = none := by
                              cases q : F5 D with
                              | none => rfl
                              | some u =>
                                rcases gr5.fnew D u q with q | q
                                · rw [hFd] at q; cases q
                                · rw [hHdD] at q; cases q
                            have hH5D : H5 D = some (.lst accV1) := gr5.hh D _ hHdD
                            have g5 : Go Fd σe (L2.wipe τ own1) Hd F5 σe (L2.wipe τ own1) H5 := gr5.go
                            rw [List.drop_eq_getElem_cons hlt1] at hloop1
                            unfold lcLoop at hloop1
                            split at hloop1
                            · rename_i σb1 eb1
                              have after1 : ∀ (τ1 : L2.St) (Fx : Hp) (σx : SD) (Hx : Hp), L2.wipe τ1 own1 = L2.wipe τ own1 → Rl K Fx σx τ1 Hx → Go F5 σe (L2.wipe τ own1) H5 Fx σx τ1 Hx →
                                  (∀ acc', st1 Fx (wipeD σx own1) (upd Hx D (.lst acc'))) ∧ st1 Fx (wipeD σx own1) Hx ∧ Hx D = some (.lst accV1) ∧ Ex F5 Fx := fun τ1 Fx σx Hx hw1 Rx gx => by
                                have Rw := Rx.wipe own1 hfr1
                                have gw : Go Fx σx τ1 Hx Fx (wipeD σx own1) (L2.wipe τ1 own1) Hx := go_slots fun b q => ownAt_wipe q
                                rw [hw1] at Rw gw
                                have gxw := (g5.trans gx).trans gw
                                have hFxD : Fx D = none := by
                                  cases q : Fx D with
                                  | none => rfl
                                  | some u =>
                                    rcases gx.fnew D u q with q | q | q
                                    · rw [hF5D] at q; cases q
                                    · rw [hH5D] at q; cases q
                                    · exact (nOd q).elim
                                have nOx : ¬ OwnAt (wipeD σx own1) (L2.wipe τ own1) D := fun q => by
                                  rcases (gx.trans gw).own D q with q | q
                                  · exact nOd q
                                  · rw [hH5D] at q; cases q
                                have hHx : Hx D = some (.lst accV1) := gx.keep D _ hH5D fun q => nOd q
                                have big : Go F4 (wipeD σu own1) (L2.wipe τ own1) H4 Fx (wipeD σx own1) (L2.wipe τ own1) (upd Hx D (.lst accV)) := by
                                  refine ⟨gd.ff.trans gxw.ff, fun b u q n => ?_, fun b u q => ?_, fun b q => ?_, fun b u q => ?_⟩
                                  · by_cases eb : b = D
                                    · subst eb; rw [upd_same]; rw [hH4D] at q; exact q
                                    · rw [upd_ne eb]
                                      have q1 := gd.keep b u q n
                                      rw [upd_ne eb] at q1
                                      refine gxw.keep b u q1 fun z => ?_
                                      rcases gd.own b z with z | z
                                      · exact n z
                                      · rw [q] at z; cases z
                                  · rcases gxw.fnew b u q with q | q | q
                                    · exact gd.fnew b u q
                                    · have eb : b ≠ D := fun z => by rw [z, hHdD] at q; cases q
                                      refine .inr (.inl ?_)
                                      cases z : H4 b with
                                      | none => rfl
                                      | some w =>
                                        obtain ⟨o', q'⟩ := gd.there b w z
                                        rw [upd_ne eb, q] at q'; cases q'
                                    · rcases gd.own b q with z | z
                                      · exact .inr (.inr z)
                                      · exact .inr (.inl z)
                                  · rcases gxw.own b q with z | z
                                    · exact gd.own b z
                                    · refine .inr ?_
                                      have eb : b ≠ D := fun y => by rw [y, hHdD] at z; cases z
                                      cases y : H4 b with
                                      | none => rfl
                                      | some w =>
                                        obtain ⟨o', q'⟩ := gd.there b w y
                                        rw [upd_ne eb, z] at q'; cases q'
                                  · by_cases eb : b = D
                                    · subst eb; exact ⟨_, upd_same⟩
                                    · obtain ⟨o', q'⟩ := gd.there b u q
                                      rw [upd_ne eb] at q' ⊢
                                      exact gxw.there b o' q'
                                exact ⟨fun acc' => ⟨Rw.hid hFxD nOx, by rw [upd_upd]; exact big, hFxD, nOx⟩, ⟨Rw, big, hFxD, nOx⟩, hHx, gx.ff⟩
                              refine ⟨F5, σe, _, R5, hx1, σb1, eb1, fun τ1 Rb1 gb1 hτl1 hτ1 => ⟨wipe_eq_of' hτl1 hτ1 hp1, ?_⟩⟩
                              have hw1 : L2.wipe τ1 own1 = L2.wipe τ own1 := wipe_eq_of' hτl1 hτ1 hp1
                              split at hloop1
                              · rename_i σt1 et1
                                split at hloop1
                                · rename_i en σn een
                                  split at hloop1
                                  · rename_i rest1' σr1 er1
                                    cases hloop1
                                    refine ⟨F5, σb1, Rb1, true, _, et1, fun F6 H6 R6 g6 => ?_⟩
                                    refine PyProof.Rows.ite_tt ?_
                                    refine ⟨F6, σt1, R6, en, _, een, fun F7 H7 yv R7 g7 hy => ?_⟩
                                    obtain ⟨s1, s2, hH7, ff7⟩ := after1 τ1 F7 σn H7 hw1 R7 ((gb1.trans g6).trans g7)
                                    have hl1 := DpAll.len hacc1
                                    refine ⟨accV1, hH7, ?_, F7, _, accV1 ++ [yv], accD1 ++ [en], rest1', s1 _, upd_same, DpAll.append (DpAll.mono ff7 (DpAll.mono gr5.ff hacc1)) (.cons hy .nil), er1, by rw [← hes1]; simp⟩
                                    have : accD1.length ≤ es.length := by rw [← hes1, List.length_append]; omega
                                    exact Nat.lt_of_le_of_lt (show accV1.length ≤ 1000000 by omega) (by decide)
                                  · cases hloop1
                                · cases hloop1
                              · rename_i σt1 et1
                                refine ⟨F5, σb1, Rb1, false, _, et1, fun F6 H6 R6 g6 => ?_⟩
                                refine PyProof.Rows.ite_ff ?_
                                obtain ⟨s1, s2, hH7, ff7⟩ := after1 τ1 F6 σt1 H6 hw1 R6 (gb1.trans g6)
                                exact ⟨F6, _, accV1, accD1, rest1, s2, hH7, DpAll.mono ff7 (DpAll.mono gr5.ff hacc1), hloop1, hes1⟩
                              · cases hloop1
                            · cases hloop1
                          · have ej : j = ds1.length := by omega
                            subst ej
                            rw [List.drop_length] at hloop1
                            cases hloop1
                            refine .inl ⟨itd1.stop Hd eF4, ?_⟩
                            -- behind the inner loop
                            have Rw := Rd.wipe own hfr
                            rw [wipe_wipe h1o, hw] at Rw
                            have gw : Go Fd σv (L2.wipe τ own1) Hd Fd (wipeD σv own) (L2.wipe σ own) Hd := by
                              have := go_slots (F := Fd) (H := Hd) (σd := σv) (σ := L2.wipe τ own1) (σd' := wipeD σv own) (σ' := L2.wipe (L2.wipe τ own1) own) fun b q => ownAt_wipe q
                              rw [wipe_wipe h1o, hw] at this
                              exact this
                            have nOw : ¬ OwnAt (wipeD σv own) (L2.wipe σ own) D := fun q => by
                              rcases gw.own D q with z | z
                              · exact nOd z
                              · rw [hHdD] at z; cases z
                            have g0 : Go F1 (wipeD σ1 own) (L2.wipe σ own) H1 F4 (wipeD σu own1) (L2.wipe τ own1) H4 := (g2.trans G4).trans (go_slots fun b q => ownAt_wipe q)
                            have gall : Go F1 (wipeD σ1 own) (L2.wipe σ own) H1 Fd (wipeD σv own) (L2.wipe σ own) Hd := by
                              have ga := (g0.trans gd)
                              have gb' : Go F1 (wipeD σ1 own) (L2.wipe σ own) H1 Fd σv (L2.wipe τ own1) Hd := by
                                have e0 : upd (upd Hd D (.lst accV)) D (.lst accV1) = Hd := by
                                  funext b
                                  by_cases q : b = D
                                  · subst q; rw [upd_same, hHdD]
                                  · rw [upd_ne q, upd_ne q]
                                have := ga.hid (A := D) (o := .lst accV1) hD
                                rw [e0] at this
                                exact this
                              exact gb'.trans gw
                            exact ⟨Fd, _, accV1, accD1, rest', ⟨Rw, gall, hFd, nOw⟩, hHdD, hacc1, er, by simpa using hes1⟩
                      · cases hloop
                    · cases hloop
                  · cases hloop
                · rename_i σt et
                  refine ⟨F2, σb, Rb, false, _, et, fun F3 H3 R3 g3 => ?_⟩
                  refine PyProof.Rows.ite_ff ?_
                  have G3 := gb.trans g3
                  obtain ⟨hF3D, nO3⟩ := fresh τ F3 σt H3 G3
                  exact ⟨F3, _, accV, accD, rest, after τ F3 σt H3 accV hw R3 G3 hF3D nO3, G3.keep D _ hH2D fun q => nO q, DpAll.mono G3.ff (DpAll.mono gr.ff hacc), hloop, hes⟩
                · cases hloop
              · cases hloop
            · have ei : i = ds.length := by omega
              subst ei
              rw [List.drop_length] at hloop
              cases hloop
              refine .inl ⟨itd.stop Hc eF1, ?_⟩
              rw [List.append_nil] at hes
              subst hes
              have gB : Go F1 σ1 σ H1 Fc (backD σ1 σ2 own) σ Hc := by
                refine ⟨gc.ff, fun b u q n => gc.keep b u q fun z => n (ownAt_wipe z), fun b u q => ?_, fun b q => ?_, gc.there⟩
                · rcases gc.fnew b u q with z | z | z
                  · exact .inl z
                  · exact .inr (.inl z)
                  · exact .inr (.inr (ownAt_wipe z))
                · rcases gc.own b (ownAt_back hb q) with z | z
                  · exact .inl (ownAt_wipe z)
                  · exact .inr z
              exact k Fc Hc (.ref D) (Rl.back R1 hb gc.ff Rc) (g1.trans gB) ⟨D, _, rfl, g1.back hD, hFD, hHD, hacc, fun q => nO (ownAt_back hb q)⟩
        · cases e
      · cases e
    · cases e
  · cases e
end
section
variable {X : Cx} {pn : List (Nat × Addr)} {elt tg iter tg1 iter1 : Expr} {ifs ifs1 : List Expr} {scope : Scope} {own : List (Str × Nat)} {pos : Pos}
theorem e_lc2 {it it1 : DV} {p p1 : Pat} {ct ct1 : DT} {fe : DW} (hc : X.calm = true) (hN : X.N.Nodup) (hi : PIi X pn tg iter it) (ok : BlkOk X.N X.env.scope scope own) (hp : ∀ j ∈ p.slots, j ∈ own.map (·.2)) (hp1 : ∀ j ∈ p1.slots, j ∈ own.map (·.2)) (hfr : ∀ i ∈ own.map (·.2), Kp.free ⟨X.K, pn⟩ i)
    (hg : ∀ (s : Shared) (H : Hp) (C : Addr) (cl : List (Str × Addr)) (fp : List Addr), PGp (X.blk s H scope (compEnvC scope cl C X.env) fp) pn tg p)
    (ht : ∀ (s : Shared) (H : Hp) (C : Addr) (cl : List (Str × Addr)) (fp : List Addr), PTst (X.blk s H scope (compEnvC scope cl C X.env) fp) pn ifs ct)
    (hi1 : ∀ (s : Shared) (H : Hp) (C : Addr) (cl : List (Str × Addr)) (fp : List Addr), PIi (X.blk s H scope (compEnvC scope cl C X.env) fp) pn tg1 iter1 it1)
    (hg1 : ∀ (s : Shared) (H : Hp) (C : Addr) (cl : List (Str × Addr)) (fp : List Addr), PGp (X.blk s H scope (compEnvC scope cl C X.env) fp) pn tg1 p1)
    (ht1 : ∀ (s : Shared) (H : Hp) (C : Addr) (cl : List (Str × Addr)) (fp : List Addr), PTst (X.blk s H scope (compEnvC scope cl C X.env) fp) pn ifs1 ct1)
    (he : ∀ (s : Shared) (H : Hp) (C : Addr) (cl : List (Str × Addr)) (fp : List Addr), PEw (X.blk s H scope (compEnvC scope cl C X.env) fp) pn elt fe) (hs : ∀ x, foldedSetIterable iter X.env x = pure x) (hs1 : ∀ env x, foldedSetIterable iter1 env x = pure x) :
    PEe X pn (.ListComp elt [⟨tg, iter, ifs, 0⟩, ⟨tg1, iter1, ifs1, 0⟩] scope pos) (fLc2 it p ct it1 p1 ct1 fe (own.map (·.2)) p1.slots) :=
  peMono (pe_lc2 hc hN hi ok hp1 hg ht hi1 hg1 ht1 he hs hs1) fun _ _ _ => rd_lc2 hp (fun _ h => h) hp1 hfr
end
end Ev
end
/-! ## EvX9 -/
section
set_option Elab.async false
set_option linter.all false
set_option maxRecDepth 100000
set_option maxHeartbeats 1000000
/-! EvX9: sorted(set(x)), x a list of pairs of small ints. -/
namespace Ev
open PySem L2
def bd64 (x : Int) : Bool := decide (0 ≤ x) && decide (x < 64)
def isPr : D → Bool
  | .tuple [.int x, .int y] => bd64 x && bd64 y
  | _ => false
def prOf : D → List Int
  | .tuple [.int x, .int y] => [x, y]
  | _ => []
def cdOf : D → Int
  | .tuple [.int x, .int y] => x * 64 + y
  | _ => 0
def upp : List D → Bool
  | [] => true
  | a :: l => l.all (fun b => decide (cdOf a < cdOf b)) && upp l
def memC (l : List D) (d : D) : Bool := l.any fun e => decide (cdOf d = cdOf e)
def insC (x : D) : List D → List D
  | [] => [x]
  | y :: l => if cdOf x < cdOf y then x :: y :: l else if cdOf x = cdOf y then y :: l else y :: insC x l
def sset : List D → List D
  | [] => []
  | x :: l => insC x (sset l)
def ssOk (ds t : List D) : Bool := Nat.blt ds.length 64 && (ds.all isPr && (t.all isPr && (upp t && (ds.all (memC t) && t.all (memC ds)))))
def fSortSet (f : DW) : DE := fun σd => match f σd with
  | some (.list ds, σ1) => if ssOk ds (sset ds) = true then some (true, .list (sset ds), σ1) else none
  | _ => none
theorem isPr_of {d : D} (h : isPr d = true) : ∃ x y : Int, d = .tuple [.int x, .int y] ∧ 0 ≤ x ∧ x < 64 ∧ 0 ≤ y ∧ y < 64 := by
  unfold isPr at h
  split at h
  · simp only [bd64, Bool.and_eq_true, decide_eq_true_eq] at h
    exact ⟨_, _, rfl, h.1.1, h.1.2, h.2.1, h.2.2⟩
  · cases h
theorem cd_inj {d e : D} (hd : isPr d = true) (he : isPr e = true) (h : cdOf d = cdOf e) : d = e := by
  obtain ⟨x, y, rfl, a1, a2, a3, a4⟩ := isPr_of hd
  obtain ⟨x', y', rfl, b1, b2, b3, b4⟩ := isPr_of he
  have h : x * 64 + y = x' * 64 + y' := h
  have e1 : x = x' := by omega
  have e2 : y = y' := by omega
  rw [e1, e2]
theorem upp_pw : ∀ {l : List D}, upp l = true → l.Pairwise (fun a b => cdOf a < cdOf b)
  | [], _ => .nil
  | a :: l, h => by
    rw [upp, Bool.and_eq_true] at h
    exact .cons (fun b hb => by simpa using List.all_eq_true.mp h.1 b hb) (upp_pw h.2)
/-- two rising lists of the same members are one -/
theorem rise_ext {l1 l2 : List D} (h1 : l1.Pairwise (fun a b => cdOf a < cdOf b)) (h2 : l2.Pairwise (fun a b => cdOf a < cdOf b)) (h : ∀ x, x ∈ l1 ↔ x ∈ l2) : l1 = l2 := by
  have n : ∀ {l : List D}, l.Pairwise (fun a b => cdOf a < cdOf b) → l.Nodup := fun p => p.imp fun {a b} h e => by rw [e] at h; omega
  exact List.Perm.eq_of_pairwise (fun a b _ _ x y => by omega) h1 h2 ((List.perm_ext_iff_of_nodup (n h1) (n h2)).mpr h)
section
variable {K : Kp} {σ : L2.St} {H : Hp}
def tupOf (p : Addr × List Int) : D := .tuple (p.2.map .int)
theorem dp_ints {K : PySem.W.Frag} {F : Hp} : ∀ {vs : List V} {is : List Int}, DpAll K F vs (is.map .int) → vs = is.map V.int
  | _, [], .nil => rfl
  | _, i :: is, .cons h t => by
    cases h
    rw [dp_ints t] <;> rfl
theorem dp_prs {K : PySem.W.Frag} {F : Hp} : ∀ {vs : List V} {ds : List D}, DpAll K F vs ds → ds.all isPr = true →
    ∃ ks : List (Addr × List Int), vs = ks.map (fun p => V.ref p.1) ∧ ks.map tupOf = ds ∧ ∀ p ∈ ks, SqT K F p.1 (p.2.map V.int) ∧ Dp K F (.ref p.1) (tupOf p)
  | _, [], .nil, _ => ⟨[], rfl, rfl, fun p hp => by cases hp⟩
  | _, d :: ds, .cons h t, hp => by
    rw [List.all_cons, Bool.and_eq_true] at hp
    obtain ⟨ks, e1, e2, e3⟩ := dp_prs t hp.2
    obtain ⟨x, y, rfl, _⟩ := isPr_of hp.1
    have h' := h
    cases h with
    | @tup a xs _ ht hs =>
      have e := dp_ints (is := [x, y]) hs
      subst e
      refine ⟨(a, [x, y]) :: ks, by rw [e1]; rfl, by rw [← e2]; rfl, fun p hp => ?_⟩
      rcases List.mem_cons.mp hp with rfl | hp
      · exact ⟨.inl ht.rd, h'⟩
      · exact e3 p hp
theorem dp_back {K : PySem.W.Frag} {F : Hp} : ∀ {L : List (Addr × List Int)}, (∀ p ∈ L, Dp K F (.ref p.1) (tupOf p)) → DpAll K F (L.map fun p => V.ref p.1) (L.map tupOf)
  | [], _ => .nil
  | p :: L, h => .cons (h p List.mem_cons_self) (dp_back fun q hq => h q (List.mem_cons_of_mem _ hq))
theorem cd_code {p : Addr × List Int} (h : isPr (tupOf p) = true) : p.2.length = 2 ∧ TS.Bd 64 p.2 ∧ TS.code 64 p.2 = cdOf (tupOf p) := by
  obtain ⟨a, is⟩ := p
  obtain ⟨x, y, e, a1, a2, a3, a4⟩ := isPr_of h
  have e : PyData.tuple (is.map .int) = .tuple [.int x, .int y] := e
  injection e with e
  have e2 : is = [x, y] := by
    have : (is.map PyData.int) = [x, y].map PyData.int := e
    exact (List.map_inj_right (fun a b h => by injection h)).mp this
  subst e2
  refine ⟨rfl, fun m hm => ?_, L2.code_pair x y⟩
  rcases List.mem_cons.mp hm with rfl | hm
  · exact ⟨a1, a2⟩
  · rcases List.mem_cons.mp hm with rfl | hm
    · exact ⟨a3, a4⟩
    · cases hm
theorem rd_sortSet {f : DW} {P : Program} {w : World} {Q : VK} (h : rdE K (fSortSet f) σ H Q) : tCB (rSortedT K P w) (tCons (tCB (rSetOfT K P w) (tCons (rdW K f) tNil)) tNil) σ H Q := by
  obtain ⟨F, σd, R, fr, d, σd', e, k⟩ := h
  unfold fSortSet at e
  split at e
  · rename_i ds σ1 e1
    split at e
    · rename_i hk
      cases e
      unfold ssOk at hk
      simp only [Bool.and_eq_true] at hk
      obtain ⟨k1, k2, k3, k4, k5, k6⟩ := hk
      have k1 : ds.length < 64 := by simpa [Nat.blt_eq] using k1
      refine ⟨F, σd, R, _, _, e1, fun F1 H1 v R1 g1 hd => ?_⟩
      cases hd with
      | @lst l vs _ hl hs =>
      obtain ⟨ks, rfl, ek, hks⟩ := dp_prs hs k2
      refine ⟨l, ks, rfl, .inl (R1.fh.rd hl), fun p hp => R1.fh.sqT (hks p hp).1, ?_, fun a L ha hL hL' => ?_⟩
      · rw [← ek, List.length_map] at k1; exact k1
      have pr : ∀ p ∈ ks, isPr (tupOf p) = true := fun p hp => List.all_eq_true.mp k2 _ (by rw [← ek]; exact List.mem_map_of_mem hp)
      have g2 : Grow F1 H1 F1 (upd H1 a (SetTO P w a L)) := new_grow R1.fh ha
      refine ⟨a, L, 2, 64, rfl, upd_same, fun p hp => g2.fh.sqT (hks p (hL p hp)).1, by omega, fun p hp => ?_, fun L' q pm nd hlen pw hq => ?_⟩
      · obtain ⟨c1, c2, _⟩ := cd_code (pr p (hL p hp))
        exact ⟨c1, c2⟩
      have hL2 : ∀ p ∈ L', p ∈ ks := fun p hp => hL p (pm.mem_iff.mp hp)
      have rise : (L'.map tupOf).Pairwise (fun a b => cdOf a < cdOf b) := by
        rw [List.pairwise_map]
        have nd2 : L'.Pairwise (fun p q => p.2 ≠ q.2) := List.pairwise_map.mp nd
        refine List.Pairwise.imp_of_mem (fun {p q} hp hq hpq => ?_) (List.Pairwise.and pw nd2)
        obtain ⟨hle, hne⟩ := hpq
        obtain ⟨_, _, c1⟩ := cd_code (pr p (hL2 p hp))
        obtain ⟨_, _, c2⟩ := cd_code (pr q (hL2 q hq))
        rw [c1, c2] at hle
        rcases Int.lt_or_eq_of_le hle with h | h
        · exact h
        · exfalso
          have := cd_inj (pr p (hL2 p hp)) (pr q (hL2 q hq)) h
          unfold tupOf at this
          injection this with this
          exact hne ((List.map_inj_right (fun a b h => by injection h)).mp this)
      have same : L'.map tupOf = sset ds := by
        refine rise_ext rise (upp_pw k4) fun x => ⟨fun hx => ?_, fun hx => ?_⟩
        · obtain ⟨p, hp, rfl⟩ := List.mem_map.mp hx
          have hm : tupOf p ∈ ds := by rw [← ek]; exact List.mem_map_of_mem (hL2 p hp)
          obtain ⟨y, hy, ey⟩ := List.any_eq_true.mp (List.all_eq_true.mp k5 _ hm)
          rw [cd_inj (pr p (hL2 p hp)) (List.all_eq_true.mp k3 _ hy) (by simpa using ey)]
          exact hy
        · obtain ⟨y, hy, ey⟩ := List.any_eq_true.mp (List.all_eq_true.mp k6 _ hx)
          have hxy : x = y := cd_inj (List.all_eq_true.mp k3 _ hx) (List.all_eq_true.mp k2 _ hy) (by simpa using ey)
          subst hxy
          rw [← ek] at hy
          obtain ⟨p, hp, rfl⟩ := List.mem_map.mp hy
          obtain ⟨q, hq, eq⟩ := List.mem_map.mp (hL' p hp)
          refine List.mem_map.mpr ⟨q, pm.mem_iff.mpr hq, ?_⟩
          show PyData.tuple (q.2.map .int) = PyData.tuple (p.2.map .int)
          rw [eq]
      have g3 : Grow F1 (upd H1 a (SetTO P w a L)) F1 (upd (upd H1 a (SetTO P w a L)) q (.lst (L'.map fun q => V.ref q.1))) := new_grow g2.fh hq
      have hq0 : H1 q = none := g2.hh.none hq
      refine k _ _ (.ref q) (g3.rl (g2.rl R1)) (g1.trans (g2.go.trans g3.go)) ⟨q, _, rfl, g1.back hq0, R1.fh.none hq0, upd_same, ?_, fun z => ?_⟩
      · show DpAll K F1 _ _
        rw [← same]
        exact dp_back fun p hp => (hks p (hL2 p hp)).2
      · obtain ⟨j, d', q1, q2⟩ := z
        obtain ⟨a', o', z1, z2, z3, z4⟩ := R1.own j d' q1
        rw [q2] at z1; cases z1
        rw [hq0] at z3; cases z3
    · cases e
  · cases e
end
section
variable {X : Cx} {pn : List (Nat × Addr)} {e : Expr} {pos p p1 p2 : Pos} {x y : Str} {f : DW}
theorem e_sortSet (hc : X.calm = true) (hu : X.A.units + 64 < cLine) (hg : Gl X x) (hm : X.mg x = none) (hb : bootBuiltins x = some (.builtin "sorted")) (hn : x ≠ ("__name__" : Str)) (hdb : (x == ("__debug__" : Str)) = false)
    (hg' : Gl X y) (hm' : X.mg y = none) (hb' : bootBuiltins y = some (.type "set")) (hn' : y ≠ ("__name__" : Str)) (hdb' : (y == ("__debug__" : Str)) = false) (he : PEw X pn e f)
    (hs : starEach [e] X.env = (false, eval e X.env) :: starEach [] X.env) :
    PEe X pn (.Call (.Name x p) [.Call (.Name y p1) [e] [] p2] [] pos) (fSortSet f) :=
  peMono (pe_callB (cr_sortedT hc) hg hm hb (pa_cons (pe_callTy (cr_setOfT hc hu) hg' hm' hb' (pa_cons he pa_nil hs) hn' hdb' hs rfl) pa_nil rfl) hn hdb rfl rfl) fun _ _ _ => rd_sortSet
end
end Ev
end
/-! ## EvX10 -/
section
set_option Elab.async false
set_option linter.all false
set_option maxRecDepth 100000
set_option maxHeartbeats 1000000
/-! EvX10: a, b, c = (x, y, z) by a tuple, y a new object. -/
namespace Ev
open PySem L2
def fUnp3 (i j l : Nat) (f : DW) (g : DE) (h : DW) : DS := fun σd => match f σd with
  | some (d, σ1) => match g σ1 with
    | some (fr, d', σ2) => match h σ2 with
      | some (d'', σ3) => some (.next, ((σ3.set i (some ⟨false, d⟩)).set j (some ⟨fr, d'⟩)).set l (some ⟨false, d''⟩))
      | none => none
    | none => none
  | none => none
section
variable {K : Kp} {σ : L2.St} {H : Hp} {De : Ends}
theorem rd_unp3 {i j l : Nat} {f : DW} {g : DE} {h : DW} (hfi : K.free i) (hfj : K.free j) (hfl : K.free l) (hh : rdS K (fUnp3 i j l f g h) De σ H) : tAsg (tTupN (tCons (rdW K f) (tCons (rdE K g) (tCons (rdW K h) tNil)))) (gTup K 3 (gRow [i, j, l])) De σ H := by
  obtain ⟨F, σd, R, fl, σd', e, k⟩ := hh
  unfold fUnp3 at e
  split at e
  · rename_i d σ1 e1
    split at e
    · rename_i fr d' σ2 e2
      split at e
      · rename_i d'' σ3 e3
        cases e
        refine ⟨F, σd, R, d, σ1, e1, fun F1 H1 v R1 g1 r1 => ⟨F1, σ1, R1, fr, d', σ2, e2, fun F2 H2 w R2 g2 r2 => ⟨F2, σ2, R2, d'', σ3, e3, fun F3 H3 u R3 g3 r3 => ⟨by show 3 ≤ sizeLine; rw [sizeLine_eq]; omega, fun p ob hp hb => ?_⟩⟩⟩⟩
        have gr : Grow F3 H3 F3 (upd H3 p (.frz ob (.tup [v, w, u]))) := new_grow R3.fh hp
        have R4 := gr.rl R3
        have G := ((g1.trans g2).trans g3).trans (gr.go (σd := σ3) (σ := σ))
        refine ⟨p, [v, w, u], rfl, .inl (TupAt.put hb).rd, rfl, gRow_ok rfl ?_⟩
        have hv := Dp.mono (g2.ff.trans g3.ff) r1
        have R5 := R4.set i hfi hv
        cases fr with
        | false =>
          have hw : Dp K F3 w d' := Dp.mono g3.ff r2
          exact k F3 _ _ ((R5.set j hfj hw).set l hfl r3) (G.trans (go_slots fun b q => ownAt_set (fun _ z => by cases z) (ownAt_set (fun _ z => by cases z) (ownAt_set (fun _ z => by cases z) q))))
        | true =>
          obtain ⟨a, o, rfl, h0, hf, hh, ho, hn⟩ := r2
          obtain ⟨a', o', ea, hf', hh', ho', hn'⟩ := OpdOk.go (o := .tmp d') g3 ⟨a, o, rfl, hf, hh, ho, hn⟩
          cases ea
          have R6 := R5.setOwn j hfj hf' (gr.hh _ _ hh') ho' fun q => hn' (ownAt_set (fun _ z => by cases z) q)
          refine k F3 _ _ (R6.set l hfl r3) ⟨G.ff, G.keep, G.fnew, fun b q => ?_, G.there⟩
          rcases ownAt_setOwn (ownAt_set (fun _ z => by cases z) q) with q | rfl
          · exact G.own b (ownAt_set (fun _ z => by cases z) q)
          · exact .inr (g1.back h0)
      · cases e
    · cases e
  · cases e
end
section
variable {X : Cx} {pn : List (Nat × Addr)} {pos : Pos}
theorem s_unp3 {i j l : Nat} {ts : List Expr} {ea eb ec : Expr} {f : DW} {g : DE} {h : DW} {kt k2 : Nat} {pt pt2 : Pos} (hfi : ∀ m ∈ [i, j, l], Kp.free ⟨X.K, pn⟩ m) (hc : X.calm = true) (hN : X.N.Nodup) (hnm : Names X ts [i, j, l])
    (ha : PEw X pn ea f) (hb : PEe X pn eb g) (hcc : PEw X pn ec h)
    (hs1 : starEach [ea, eb, ec] X.env = (false, eval ea X.env) :: starEach [eb, ec] X.env) (hs2 : starEach [eb, ec] X.env = (false, eval eb X.env) :: starEach [ec] X.env) (hs3 : starEach [ec] X.env = (false, eval ec X.env) :: starEach [] X.env)
    (hs : swapsWithSole [.Tuple ts kt pt] (.Tuple [ea, eb, ec] k2 pt2) pos.line X.env = pure false) (hw : swappedStores [.Tuple ts kt pt] (.Tuple [ea, eb, ec] k2 pt2) X.env = pure none)
    (h1 : (assignEach [.Tuple ts kt pt] X.env).map (·.2) = [assign (.Tuple ts kt pt) X.env]) :
    PSd X pn (.Assign [.Tuple ts kt pt] (.Tuple [ea, eb, ec] k2 pt2) pos) (fUnp3 i j l f g h) :=
  psMono (ps_asg (pe_tupN (pa_cons ha (pa_cons hb (pa_cons hcc pa_nil hs3) hs2) hs1)) (pg_tup hc (hnm.pgs hN) hnm.each.1 hnm.each.2) hs hw h1) fun _ _ _ => rd_unp3 (hfi i (by simp)) (hfi j (by simp)) (hfi l (by simp))
end
end Ev
end
/-! ## Ev13 -/
section
set_option Elab.async false
set_option linter.all false
set_option maxRecDepth 100000
set_option maxHeartbeats 1000000
/-! Ev13: from the text to its meaning on data. -/
namespace Ev
open PySem L2

structure Sig where
  n : Nat
  io : List Bool
/-- where one stands: the names by slot, the scope that runs, the cells made here, the pinned slots, the defs, the built-ins, the module's constants -/
structure Cs where
  N : List Str
  sc : Scope
  asg : Str → Bool
  io : List Nat
  fns : List (Str × Sig)
  blt : List Str
  con : List (Str × D)
  dic : List Str
abbrev Phi := Str → CallD
def idxOf : List Str → Str → Nat → Option Nat
  | [], _, _ => none
  | y :: ys, x, k => if y = x then some k else idxOf ys x (k + 1)
def Cs.kind (c : Cs) (x : Str) : Option NameKind := c.sc.names.lookup x
def Cs.vis (c : Cs) (x : Str) : Bool := (match c.kind x with | some .local => true | some .cell => true | some .free => true | _ => false) && (!(x == ("__debug__" : Str)) && !(x == ("__classdict__" : Str)))
def Cs.slot (c : Cs) (x : Str) : Option Nat := if c.vis x = true then idxOf c.N x 0 else none
def Cs.loc (c : Cs) (x : Str) : Bool := match c.kind x with | some .local => true | some .cell => c.asg x | _ => false
def Cs.tgt (c : Cs) (x : Str) : Option Nat := if c.loc x = true then (match idxOf c.N x 0 with | some i => if c.io.contains i = true then none else some i | none => none) else none
def Cs.glob (c : Cs) (x : Str) : Bool := (match c.kind x with | some .globalImplicit => true | _ => false) && !(x == ("__debug__" : Str))
def Cs.isB (c : Cs) (x : Str) : Bool := c.glob x && (c.blt.contains x && !(decide (x = ("__name__" : Str))))
def Cs.blk (c : Cs) (scope : Scope) : Cs := { c with sc := relS scope c.sc, asg := fun x => scope.names.lookup x == some .cell }

inductive Blt where
  | len | sum | all | any | abs | sorted | min | max | int | list | tuple
def Blt.name : Blt → String
  | .len => "len" | .sum => "sum" | .all => "all" | .any => "any" | .abs => "abs" | .sorted => "sorted" | .min => "min" | .max => "max" | .int => "int" | .list => "list" | .tuple => "tuple"
def Blt.isTy : Blt → Bool
  | .int => true | .list => true | .tuple => true
  | _ => false
def Blt.prim : Blt → Prim
  | .len => pElse pLen pLenS | .sum => pElse pSum pSumT | .all => pAll | .any => pAny | .abs => pAbs | .sorted => pSorted | .min => pElse pMin2 (pElse pMinL pMinT) | .max => pElse pMax2 (pElse pMaxL pMaxT) | .int => pInt | .list => pList | .tuple => pTuple
def blts : List Blt := [.len, .sum, .all, .any, .abs, .sorted, .min, .max, .int, .list, .tuple]
def bltOf (x : Str) : Option Blt := blts.find? fun b => decide (x = Str.ofString b.name)
def tyOf (x : Str) : Option Ty := [Ty.int, .bool, .str, .list, .tuple, .dict].find? fun b => decide (x = Str.ofString b.name)
def binP : Operator → Option Prim
  | .Add => some (pElse pAddI (pElse pCatL (pElse pCatT pAddS)))
  | .Sub => some pSubI
  | .Mult => some (pElse pMulI (pElse pRepL (pElse pRepT (pElse pRepT1 pRepT0))))
  | .FloorDiv => some pDivI
  | .Mod => some pModI
  | .Pow => some pPowI
  | _ => none
def cmpP : CmpOp → Prim
  | .Eq => pElse pEqS pEqD
  | .NotEq => pElse pNeS pNeD
  | .Lt => pElse pLtI pLtX
  | .LtE => pElse pLeI pLeX
  | .Gt => pElse pGtI pGtX
  | .GtE => pElse pGeI pGeX
  | .In => pElse (pInI false) (pInX false)
  | .NotIn => pElse (pInI true) (pInX true)
  | .Is => pElse (pIsN false) (pIsB false)
  | .IsNot => pElse (pIsN true) (pIsB true)
def isStar : Expr → Bool
  | .Starred .. => true
  | _ => false
/-- what may stand as an index -/
def plainE : Expr → Bool
  | .Name .. => true | .Constant .. => true | .BinOp .. => true | .UnaryOp .. => true | .Call .. => true | .Subscript .. => true | .IfExp .. => true
  | _ => false
/-- whose test is its value's truth -/
def truthE : Expr → Bool
  | .Name .. => true | .Constant .. => true | .BinOp .. => true | .Call .. => true | .Subscript .. => true
  | _ => false
def notSet : Expr → Bool
  | .Set .. => false
  | _ => true
def notComp : Expr → Bool
  | .ListComp .. => false
  | .SetComp .. => false
  | .DictComp .. => false
  | _ => true
def isStrE : Expr → Bool
  | .Constant (.str _) _ _ => true
  | _ => false
def isTupE : Expr → Bool
  | .Tuple .. => true
  | _ => false
/-- the names of a comprehension's block, with their slots -/
def ownOf (N : List Str) : List (Str × NameKind) → Option (List (Str × Nat))
  | [] => some []
  | (x, .local) :: r => match idxOf N x 0, ownOf N r with
    | some i, some os => some ((x, i) :: os)
    | none, some os => some os
    | _, _ => none
  | (x, .cell) :: r => match idxOf N x 0, ownOf N r with
    | some i, some os => some ((x, i) :: os)
    | none, some os => some os
    | _, _ => none
  | _ :: r => ownOf N r
def trNames (c : Cs) : List Expr → Option (List Nat)
  | [] => some []
  | .Name x _ :: es => match c.tgt x, trNames c es with
    | some i, some is => some (i :: is)
    | _, _ => none
  | _ => none
def trSubs (c : Cs) : List Expr → Option (List Sub)
  | [] => some []
  | .Name x _ :: es => match c.tgt x, trSubs c es with
    | some i, some ps => some (.n i :: ps)
    | _, _ => none
  | .Tuple ts _ _ :: es => match trNames c ts, trSubs c es with
    | some is, some ps => some (.t is :: ps)
    | _, _ => none
  | _ => none
def trP (c : Cs) : Expr → Option Pat
  | .Name x _ => match c.tgt x with
    | some i => some (.name i)
    | none => none
  | .Tuple es _ _ => match trNames c es with
    | some is => some (.tup is)
    | none => match trSubs c es with
      | some ps => some (.nst ps)
      | none => none
  | _ => none
/-- a name that is taken as a dict -/
def dicOf (c : Cs) : Expr → Option Nat
  | .Name x _ => if c.dic.contains x = true then c.slot x else none
  | _ => none
/-- the names that a, b = x, y stores at once: as the model says -/
def swapN (c : Cs) (ts vs : List Expr) : Option (Option (List Str)) :=
  if (!(ts.length == 2 || ts.length == 3) || vs.length != ts.length || (match c.sc.kind with | .function => false | _ => true)) = true then some none
  else if (vs.any fun | .Starred .. => true | _ => false) = true then some none
  else
    let line := (ts.head?.map (·.pos.line)).getD 0
    let names := ts.filterMap fun
      | .Name id pos => if (c.kind id == some .local && pos.line == line) = true then some id else none
      | _ => none
    if (names.length != ts.length || names.eraseDups.length != names.length) = true then some none
    else if (vs.all (foldedForSure 8)) = true then some none
    else if (vs.all (constantsAlone 8)) = true then none
    else some (some names)
/-- x, list(..), z -/
def lstE : Expr → Bool
  | .Call (.Name y _) _ _ _ => decide (y = ("list" : Str))
  | .List .. => true
  | _ => false
def mid3 : List Expr → Option (Expr × Expr × Expr)
  | [a, b, d] => if (!isStar a && (!isStar b && (!isStar d && lstE b))) = true then some (a, b, d) else none
  | _ => none
theorem mid3_of {vs : List Expr} {a b d : Expr} (h : mid3 vs = some (a, b, d)) : vs = [a, b, d] ∧ isStar a = false ∧ isStar b = false ∧ isStar d = false := by
  unfold mid3 at h
  split at h
  · split at h
    · rename_i hc
      cases h
      simp only [Bool.and_eq_true, Bool.not_eq_true'] at hc
      exact ⟨rfl, hc.1, hc.2.1, hc.2.2.1⟩
    · cases h
  · cases h
/-- sorted(set(b)) -/
def setArg (c : Cs) (x : Str) : Expr → Option Expr
  | .Call (.Name y _) [b] [] _ => if (decide (x = ("sorted" : Str)) && (c.isB x && (decide (y = ("set" : Str)) && (c.isB y && !isStar b)))) = true then some b else none
  | _ => none
theorem setArg_of {c : Cs} {x : Str} {a b : Expr} (h : setArg c x a = some b) : ∃ y p p2, a = .Call (.Name y p) [b] [] p2 ∧ x = ("sorted" : Str) ∧ c.isB x = true ∧ y = ("set" : Str) ∧ c.isB y = true ∧ isStar b = false := by
  unfold setArg at h
  split at h
  · split at h
    · rename_i hc
      cases h
      simp only [Bool.and_eq_true, decide_eq_true_eq, Bool.not_eq_true'] at hc
      exact ⟨_, _, _, rfl, hc.1, hc.2.1, hc.2.2.1, hc.2.2.2.1, hc.2.2.2.2⟩
    · cases h
  · cases h
mutual
def trE : Nat → Cs → Expr → Option (Phi → DE)
  | 0, _, _ => none
  | n + 1, c, e => match e with
    | .Constant (.int i) _ _ => some fun _ => fLit (.int i)
    | .Constant (.bool i) _ _ => some fun _ => fLit (.bool i)
    | .Constant .none _ _ => some fun _ => fLit .none
    | .Constant (.str i) _ _ => some fun _ => fLit (.str i)
    | .Name x _ => match c.slot x with
      | some i => some fun _ => fVar i
      | none => if c.glob x = true then (match c.con.lookup x with | some d => some fun _ => fLit d | none => none) else none
    | .Tuple es _ _ => match trV n c es with
      | some f => some fun Φ => fTup (f Φ)
      | none => none
    | .List es _ => match trV n c es with
      | some f => some fun Φ => fLst (f Φ)
      | none => none
    | .BinOp a op b _ => match trO n c a, trO n c b, binP op with
      | some f, some g, some p => some fun Φ => fPrim p (aCons (f Φ) (aCons (g Φ) aNil))
      | _, _, _ => none
    | .UnaryOp .USub a _ => match trO n c a with
      | some f => some fun Φ => fPrim pNeg (aCons (f Φ) aNil)
      | none => none
    | .UnaryOp .Not a _ => match trE n c a with
      | some f => some fun Φ => fNot (f Φ)
      | none => none
    | .BoolOp op vs _ => trBV n c op vs
    | .IfExp t a b _ => match trT n c t, trE n c a, trE n c b with
      | some f, some g, some h => some fun Φ => fIf (f Φ) (g Φ) (h Φ)
      | _, _, _ => none
    | .Compare a [op] [b] _ => match trO n c a, trO n c b with
      | some f, some g => if behindInMarks op b = true then none else some fun Φ => fPrim (cmpP op) (aCons (f Φ) (aCons (g Φ) aNil))
      | _, _ => none
    | .Compare a (op :: op' :: ops) (b :: b' :: bs) _ => match trO n c a, trC n c (op :: op' :: ops) (b :: b' :: bs) with
      | some f, some g => if lastMarks (op :: op' :: ops) (b :: b' :: bs) = true then none else some fun Φ => fChain (f Φ) (g Φ)
      | _, _ => none
    | .Subscript a (.Slice lo hi none _) _ => match trO n c a, trPt n c lo, trPt n c hi with
      | some f, some g, some h => some fun Φ => fSl (f Φ) (g Φ) (h Φ)
      | _, _, _ => none
    | .Subscript a (.Slice lo hi (some (.Constant (.int st) _ _)) _) _ => match trO n c a, trPt n c lo, trPt n c hi with
      | some f, some g, some h => if (st == 1 || st == 0) = true then none else some fun Φ => fStepT (f Φ) (g Φ) (h Φ) st
      | _, _, _ => none
    | .Subscript a (.Slice lo hi (some (.UnaryOp .USub (.Constant (.int st) _ _) _)) _) _ => match trO n c a, trPt n c lo, trPt n c hi with
      | some f, some g, some h => if (-st == 1 || -st == 0) = true then none else some fun Φ => fStepT (f Φ) (g Φ) (h Φ) (-st)
      | _, _, _ => none
    | .Subscript a b _ => if plainE b = true then (match dicOf c a with
      | some i => match trE n c b with
        | some g => some fun Φ => fDGet i (vOf (g Φ))
        | none => none
      | none => match trO n c a, trO n c b with
        | some f, some g => some fun Φ => fPrim pIx (aCons (f Φ) (aCons (g Φ) aNil))
        | _, _ => none) else none
    | .Dict [] [] _ => some fun _ => fDict0
    | .DictComp kx vx [⟨tg, it, ifs, k⟩] scope _ => trDc n c kx vx tg it ifs k scope
    | .ListComp elt [⟨tg, it, ifs, k⟩] scope _ => trLc n c elt tg it ifs k scope
    | .ListComp elt [⟨tg, it, ifs, k⟩, ⟨tg1, it1, ifs1, k1⟩] scope _ => trLc2 n c elt tg it ifs k tg1 it1 ifs1 k1 scope
    | .Call (.Name x _) args [] _ => trCall n c x args
    | .Call (.Attribute (.Name x _) m p2) [a] [] pos => if (decide (m = ("append" : Str)) && (p2.endLine == pos.line) && !isStar a) = true then (match c.slot x, trE n c a with
      | some i, some f => some fun Φ => fApp i (vOf (f Φ))
      | _, _ => none)
      else if (decide (m = ("count" : Str)) && (p2.endLine == pos.line) && !isStar a && !isStrE a) = true then (match c.slot x, trE n c a with
      | some i, some f => some fun Φ => fCntI i (vOf (f Φ))
      | _, _ => none)
      else if (decide (m = ("index" : Str)) && (p2.endLine == pos.line) && !isStar a) = true then (match c.slot x, trE n c a with
      | some i, some f => some fun Φ => fIdx i (vOf (f Φ))
      | _, _ => none) else none
    | .Call (.Attribute (.Call g0 (a0 :: as0) ks0 ps0) m p2) [a] [] pos => if (decide (m = ("count" : Str)) && (p2.endLine == pos.line) && !isStar a) = true then (match trE n c (.Call g0 (a0 :: as0) ks0 ps0), trE n c a with
      | some g, some f => some fun Φ => fCntS (vOf (g Φ)) (vOf (f Φ))
      | _, _ => none) else none
    | .Call (.Attribute (.Name x _) m p2) [a, b] [] pos => if (decide (m = ("get" : Str)) && (p2.endLine == pos.line) && !isStar a && !isStar b) = true then (match c.slot x, trE n c a, trE n c b with
      | some i, some f, some g => some fun Φ => fDGetOr i (vOf (f Φ)) (vOf (g Φ))
      | _, _, _ => none) else none
    | _ => none
def trO : Nat → Cs → Expr → Option (Phi → DO)
  | 0, _, _ => none
  | n + 1, c, e => match e with
    | .Name x _ => match c.slot x with
      | some i => some fun _ => oSlot i
      | none => match trE n c e with
        | some f => some fun Φ => oOf (f Φ)
        | none => none
    | _ => match trE n c e with
      | some f => some fun Φ => oOf (f Φ)
      | none => none
def trV : Nat → Cs → List Expr → Option (Phi → DV)
  | 0, _, _ => none
  | n + 1, c, es => match es with
    | [] => some fun _ => vNil
    | e :: es => if isStar e = true then none else match trE n c e, trV n c es with
      | some f, some g => some fun Φ => vCons (vOf (f Φ)) (g Φ)
      | _, _ => none
def trAo : Nat → Cs → List Expr → Option (Phi → DA)
  | 0, _, _ => none
  | n + 1, c, es => match es with
    | [] => some fun _ => aNil
    | e :: es => if isStar e = true then none else match trO n c e, trAo n c es with
      | some f, some g => some fun Φ => aCons (f Φ) (g Φ)
      | _, _ => none
def trBV : Nat → Cs → BoolOp → List Expr → Option (Phi → DE)
  | 0, _, _, _ => none
  | n + 1, c, op, es => match es with
    | [a] => trE n c a
    | a :: b :: rest => match trE n c a, trBV n c op (b :: rest) with
      | some f, some g => (match op with | .And => some fun Φ => fAnd (f Φ) (g Φ) | .Or => some fun Φ => fOr (f Φ) (g Φ))
      | _, _ => none
    | [] => none
def trBT : Nat → Cs → BoolOp → List Expr → Option (Phi → DT)
  | 0, _, _, _ => none
  | n + 1, c, op, es => match es with
    | [a] => trT n c a
    | a :: b :: rest => match trT n c a, trBT n c op (b :: rest) with
      | some f, some g => (match op with | .And => some fun Φ => tAndD (f Φ) (g Φ) | .Or => some fun Φ => tOrD (f Φ) (g Φ))
      | _, _ => none
    | [] => none
def trT : Nat → Cs → Expr → Option (Phi → DT)
  | 0, _, _ => none
  | n + 1, c, e => match e with
    | .UnaryOp .Not a _ => match trT n c a with
      | some f => some fun Φ => tNotD (f Φ)
      | none => none
    | .BoolOp op vs _ => trBT n c op vs
    | .Compare a [op] [b] _ => match trO n c a, trO n c b with
      | some f, some g => if behindInMarks op b = true then none else some fun Φ => tBool (fPrim (cmpP op) (aCons (f Φ) (aCons (g Φ) aNil)))
      | _, _ => none
    | .Compare a (op :: op' :: ops) (b :: b' :: bs) _ => match trO n c a, trC n c (op :: op' :: ops) (b :: b' :: bs) with
      | some f, some g => if lastMarks (op :: op' :: ops) (b :: b' :: bs) = true then none else some fun Φ => tBool (fChain (f Φ) (g Φ))
      | _, _ => none
    | e => if truthE e = true then (match trO n c e with
      | some f => some fun Φ => tTruth (f Φ)
      | none => none) else none
def trC : Nat → Cs → List CmpOp → List Expr → Option (Phi → Opd → DE)
  | 0, _, _, _ => none
  | n + 1, c, ops, es => match ops, es with
    | [op], [b] => match trO n c b with
      | some f => some fun Φ => cOne (cmpP op) (f Φ)
      | none => none
    | op :: op' :: ops, b :: b' :: bs => match trO n c b, trC n c (op' :: ops) (b' :: bs) with
      | some f, some g => some fun Φ => cMore (cmpP op) (f Φ) (g Φ)
      | _, _ => none
    | _, _ => none
def trPt : Nat → Cs → Option Expr → Option (Phi → DP)
  | 0, _, _ => none
  | n + 1, c, e => match e with
    | none => some fun _ => pNone
    | some e => match trE n c e with
      | some f => some fun Φ => pSome (vOf (f Φ))
      | none => none
def trRg : Nat → Cs → Expr → Option (Phi → SD → Option (Int × Int × SD))
  | 0, _, _ => none
  | n + 1, c, e => match e with
    | .Call (.Name x _) [a] [] _ => if (decide (x = ("range" : Str)) && c.isB x && !isStar a) = true then (match trE n c a with
      | some f => some fun Φ => fEnds1 (vOf (f Φ))
      | none => none) else none
    | .Call (.Name x _) [a, b] [] _ => if (decide (x = ("range" : Str)) && c.isB x && !isStar a && !isStar b) = true then (match trE n c a, trE n c b with
      | some f, some g => some fun Φ => fEnds2 (vOf (f Φ)) (vOf (g Φ))
      | _, _ => none) else none
    | _ => none
def trI : Nat → Cs → Expr → Expr → Option (Phi → DV)
  | 0, _, _, _ => none
  | n + 1, c, tg, e => if notSet e = true then (match e with
    | .Call (.Name x p) [a] [] q =>
      if (decide (x = ("range" : Str)) && c.isB x && !isStar a) = true then (match trE n c a with
        | some f => some fun Φ => iRange (vCons (vOf (f Φ)) vNil)
        | none => none)
      else if (decide (x = ("enumerate" : Str)) && c.isB x && !isStar a && isTupE tg) = true then (match trE n c a with
        | some f => some fun Φ => iEnum (vCons (vOf (f Φ)) vNil)
        | none => none)
      else (match trE n c (.Call (.Name x p) [a] [] q) with
        | some f => some fun Φ => iSeq (vOf (f Φ))
        | none => none)
    | .Call (.Name x p) [a, b] [] q =>
      if (decide (x = ("range" : Str)) && c.isB x && !isStar a && !isStar b) = true then (match trE n c a, trE n c b with
        | some f, some g => some fun Φ => iRange (vCons (vOf (f Φ)) (vCons (vOf (g Φ)) vNil))
        | _, _ => none)
      else if (decide (x = ("zip" : Str)) && c.isB x && !isStar a && !isStar b && isTupE tg) = true then (match trE n c a, trE n c b with
        | some f, some g => some fun Φ => iZip (vCons (vOf (f Φ)) (vCons (vOf (g Φ)) vNil))
        | _, _ => none)
      else (match trE n c (.Call (.Name x p) [a, b] [] q) with
        | some f => some fun Φ => iSeq (vOf (f Φ))
        | none => none)
    | .Call (.Name x p) [a, b, d] [] q =>
      if (decide (x = ("range" : Str)) && c.isB x && !isStar a && !isStar b && !isStar d) = true then (match trE n c a, trE n c b, trE n c d with
        | some f, some g, some h => some fun Φ => iRange3 (vCons (vOf (f Φ)) (vCons (vOf (g Φ)) (vCons (vOf (h Φ)) vNil)))
        | _, _, _ => none)
      else if (decide (x = ("zip" : Str)) && c.isB x && !isStar a && !isStar b && !isStar d && isTupE tg) = true then (match trE n c a, trE n c b, trE n c d with
        | some f, some g, some h => some fun Φ => iZip3 (vCons (vOf (f Φ)) (vCons (vOf (g Φ)) (vCons (vOf (h Φ)) vNil)))
        | _, _, _ => none)
      else (match trE n c (.Call (.Name x p) [a, b, d] [] q) with
        | some f => some fun Φ => iSeq (vOf (f Φ))
        | none => none)
    | e => match trE n c e with
      | some f => some fun Φ => iSeq (vOf (f Φ))
      | none => none) else none
def trLc : Nat → Cs → Expr → Expr → Expr → List Expr → Int → Scope → Option (Phi → DE)
  | 0, _, _, _, _, _, _, _ => none
  | n + 1, c, elt, tg, it, ifs, k, scope => match ownOf c.N scope.names with
    | some own => if (decide (k = 0) && blkC c.N c.sc scope own && own.all (fun p => !c.io.contains p.2)) = true then
        (match trI n c tg it, trP (c.blk scope) tg, trE n (c.blk scope) elt with
        | some fi, some p, some fe => if (p.slots.all fun j => (own.map (·.2)).contains j) = true then
            (match ifs with
            | [] => some fun Φ => fLc (fi Φ) p tYesD (vOf (fe Φ)) (own.map (·.2))
            | [t] => match trT n (c.blk scope) t with
              | some ft => some fun Φ => fLc (fi Φ) p (ft Φ) (vOf (fe Φ)) (own.map (·.2))
              | none => none
            | _ => none) else none
        | _, _, _ => none) else none
    | none => none
def trTs : Nat → Cs → List Expr → Option (Phi → DT)
  | 0, _, _ => none
  | n + 1, c, ifs => match ifs with
    | [] => some fun _ => tYesD
    | [t] => trT n c t
    | _ => none
def trLc2 : Nat → Cs → Expr → Expr → Expr → List Expr → Int → Expr → Expr → List Expr → Int → Scope → Option (Phi → DE)
  | 0, _, _, _, _, _, _, _, _, _, _, _ => none
  | n + 1, c, elt, tg, it, ifs, k, tg1, it1, ifs1, k1, scope => match ownOf c.N scope.names with
    | some own => if (decide (k = 0) && decide (k1 = 0) && blkC c.N c.sc scope own && own.all (fun p => !c.io.contains p.2)) = true then
        (match trI n c tg it, trP (c.blk scope) tg, trTs n (c.blk scope) ifs, trI n (c.blk scope) tg1 it1, trP (c.blk scope) tg1, trTs n (c.blk scope) ifs1, trE n (c.blk scope) elt with
        | some fi, some p, some ft, some fi1, some p1, some ft1, some fe => if ((p.slots.all fun j => (own.map (·.2)).contains j) && (p1.slots.all fun j => (own.map (·.2)).contains j)) = true then
            some fun Φ => fLc2 (fi Φ) p (ft Φ) (fi1 Φ) p1 (ft1 Φ) (vOf (fe Φ)) (own.map (·.2)) p1.slots else none
        | _, _, _, _, _, _, _ => none) else none
    | none => none
def trDc : Nat → Cs → Expr → Expr → Expr → Expr → List Expr → Int → Scope → Option (Phi → DE)
  | 0, _, _, _, _, _, _, _, _ => none
  | n + 1, c, kx, vx, tg, it, ifs, k, scope => match ownOf c.N scope.names with
    | some own => if (decide (k = 0) && blkC c.N c.sc scope own && own.all (fun p => !c.io.contains p.2)) = true then
        (match trI n c tg it, trP (c.blk scope) tg, trE n (c.blk scope) kx, trE n (c.blk scope) vx with
        | some fi, some p, some fk, some fv => if (p.slots.all fun j => (own.map (·.2)).contains j) = true then
            (match ifs with
            | [] => some fun Φ => fDc (fi Φ) p tYesD (vOf (fk Φ)) (vOf (fv Φ)) (own.map (·.2))
            | _ => none) else none
        | _, _, _, _ => none) else none
    | none => none
def trArgs : Nat → Cs → List Bool → List Expr → Option (Phi → List Arg)
  | 0, _, _, _ => none
  | n + 1, c, io, es => match io, es with
    | [], [] => some fun _ => []
    | b :: io, e :: es => if isStar e = true then none else match trArgs n c io es with
      | some g => (match b with
        | false => match trE n c e with
          | some f => some fun Φ => .val (vOf (f Φ)) :: g Φ
          | none => none
        | true => match e with
          | .Name x _ => match c.slot x with
            | some i => some fun Φ => .slot i :: g Φ
            | none => none
          | e => match trE n c e with
            | some f => some fun Φ => .tmp (f Φ) :: g Φ
            | none => none)
      | none => none
    | _, _ => none
def trCall : Nat → Cs → Str → List Expr → Option (Phi → DE)
  | 0, _, _, _ => none
  | n + 1, c, x, args => match c.fns.lookup x with
    | some sig => if (c.glob x && decide (args.length = sig.n) && decide (sig.io.length = sig.n)) = true then (match trArgs n c sig.io args with
      | some g => some fun Φ => fCall (Φ x) sig.io (g Φ)
      | none => none) else none
    | none => match args with
      | [a, .Name y q] => if (decide (x = ("isinstance" : Str)) && c.isB x && c.isB y && !isStar a) = true then (match tyOf y, trO n c a with
          | some u, some f => some fun Φ => fIsi u (f Φ)
          | _, _ => none)
        else trBlt n c x [a, .Name y q]
      | [.Call (.Attribute (.Name y _) m p2) [] [] p3] => if (decide (x = ("sorted" : Str)) && c.isB x && decide (m = ("values" : Str)) && (p2.endLine == p3.line)) = true then (match c.slot y with
          | some i => some fun _ => fSortedV i
          | none => none) else none
      | [a] => match setArg c x a with
        | some b => (match trE n c b with
          | some f => some fun Φ => fSortSet (vOf (f Φ))
          | none => none)
        | none =>
        if (decide (x = ("tuple" : Str)) && c.isB x && !isStar a) = true then (match trRg n c a with
          | some f => some fun Φ => fRng true (f Φ)
          | none => trBlt n c x [a])
        else if (decide (x = ("list" : Str)) && c.isB x && !isStar a) = true then (match trRg n c a with
          | some f => some fun Φ => fRng false (f Φ)
          | none => trBlt n c x [a])
        else trBlt n c x [a]
      | args => trBlt n c x args
def trBlt : Nat → Cs → Str → List Expr → Option (Phi → DE)
  | 0, _, _, _ => none
  | n + 1, c, x, args => match args, bltOf x with
    | a :: as, some b => if (c.isB x) = true then (match trAo n c (a :: as) with
      | some f => some fun Φ => fPrim b.prim (f Φ)
      | none => none) else none
    | _, _ => none
end
/-- y = [..] stores within the comprehension's frame -/
def swB (c : Cs) (y : Str) (py : Pos) (scope : Scope) (pos : Pos) : Bool :=
  (match c.sc.kind with | .function => true | _ => false) && (match c.kind y with | some .local => true | _ => false) && py.line == pos.line && !(scope.names.any fun (n, k) => n == y && (k == .local || k == .cell))
mutual
def trS : Nat → Cs → Stmt → Option (Phi → DS)
  | 0, _, _ => none
  | n + 1, c, s => match s with
    | .Pass _ => some fun _ => fNext
    | .Break _ => some fun _ => fBrk
    | .Continue _ => some fun _ => fCont
    | .Raise _ _ _ => some fun _ => fStuck
    | .Return none _ => some fun _ => fRet0
    | .Return (some e) _ => match e with
      | .Name x _ => match c.slot x with
        | some i => some fun _ => fRetN i
        | none => match trE n c e with
          | some f => some fun Φ => fRet (f Φ)
          | none => none
      | _ => match trE n c e with
        | some f => some fun Φ => fRet (f Φ)
        | none => none
    | .Expr e _ => if notComp e = true then (match trE n c e with
      | some f => some fun Φ => fDrop (f Φ)
      | none => none) else none
    | .If t a b _ => match trT n c t, trSs n c a, trSs n c b with
      | some f, some g, some h => some fun Φ => fIfS (f Φ) (g Φ) (h Φ)
      | _, _, _ => none
    | .For tg it body [] _ => match trI n c tg it, trP c tg, trSs n c body with
      | some f, some p, some g => if notSet it = true then some fun Φ => fFor (f Φ) p (g Φ) else none
      | _, _, _ => none
    | .While t body [] _ => match trT n c t, trSs n c body with
      | some f, some g => some fun Φ => fWhile (f Φ) (g Φ) 100000
      | _, _ => none
    | .Assign [.Name x _] e _ => if notComp e = true then (match c.tgt x, trE n c e with
        | some i, some f => some fun Φ => fAsg i (f Φ)
        | _, _ => none)
      else (match c.tgt x, trE n c e with
        | some i, some f => some fun Φ => fAsg i (f Φ)
        | _, _ => none)
    | .Assign [.Subscript (.Name x _) i _] e _ => if notComp e = true then (match c.slot x, trE n c i, trE n c e with
        | some k, some f, some g => if plainE i = true then (if c.dic.contains x = true then some fun Φ => fDPut k (vOf (f Φ)) (vOf (g Φ)) else some fun Φ => fSetIx k (vOf (f Φ)) (vOf (g Φ))) else none
        | _, _, _ => none) else none
    | .Assign [.Tuple ts k p] (.Tuple vs k2 p2) _ => match swapN c ts vs with
      | some none => match mid3 vs with
        | some (a, b, d) => (match trNames c ts, trE n c a, trE n c b, trE n c d with
          | some [i, j, l], some f, some g, some h => some fun Φ => fUnp3 i j l (vOf (f Φ)) (g Φ) (vOf (h Φ))
          | _, _, _, _ => none)
        | none => match trP c (.Tuple ts k p), trE n c (.Tuple vs k2 p2) with
        | some pt, some f => some fun Φ => fUnp pt (vOf (f Φ))
        | _, _ => none
      | some (some _) => match ts, vs with
        | [.Name x _, .Name y _], [a, b] => match c.tgt x, c.tgt y, trE n c a, trE n c b with
          | some i, some j, some f, some g => if (isStar a || isStar b || decide (i = j)) = true then none else some fun Φ => fPar i j (f Φ) (g Φ)
          | _, _, _, _ => none
        | [.Name x _, .Name y _, .Name z _], [a, b, d] => match c.tgt x, c.tgt y, c.tgt z, trE n c a, trE n c b, trE n c d with
          | some i, some j, some l, some f, some g, some h => if (isStar a || isStar b || isStar d || decide (i = j) || decide (i = l) || decide (j = l)) = true then none else some fun Φ => fPar3 i j l (vOf (f Φ)) (vOf (g Φ)) (vOf (h Φ))
          | _, _, _, _, _, _ => none
        | _, _ => none
      | none => none
    | .Assign [.Tuple ts k p] e _ => if (notComp e && !isTupE e) = true then (match trP c (.Tuple ts k p), trE n c e with
        | some pt, some f => some fun Φ => fUnp pt (vOf (f Φ))
        | _, _ => none) else none
    | _ => none
def trSs : Nat → Cs → List Stmt → Option (Phi → DS)
  | 0, _, _ => none
  | n + 1, c, ss => match ss with
    | [] => some fun _ => fNext
    | s :: ss => match trSs n c ss with
      | some g => (match trS n c s with
        | some f => some fun Φ => fSeq (f Φ) (g Φ)
        | none => some fun Φ => fSeq fStuck (g Φ))
      | none => none
end
end Ev
end
/-! ## Ev14 -/
section
set_option Elab.async false
set_option linter.all false
set_option maxRecDepth 100000
set_option maxHeartbeats 1000000
/-! Ev14: the meaning is sound: facts of the text. -/
namespace Ev
open PySem L2

theorem idxOf_get : ∀ {N : List Str} {x : Str} {k i : Nat}, idxOf N x k = some i → k ≤ i ∧ N[i - k]? = some x
  | y :: ys, x, k, i, h => by
    unfold idxOf at h
    split at h
    · rename_i e
      cases h
      exact ⟨Nat.le_refl _, by simp [e]⟩
    · obtain ⟨h1, h2⟩ := idxOf_get h
      refine ⟨by omega, ?_⟩
      have e : i - k = (i - (k + 1)) + 1 := by omega
      rw [e]
      simpa using h2
theorem star_cons {e : Expr} {es : List Expr} {env : Env} (h : isStar e = false) : starEach (e :: es) env = (false, eval e env) :: starEach es env := by
  cases e <;> first | rfl | cases h
theorem star_plain {pos : Pos} {env : Env} : ∀ {es : List Expr}, (∀ e ∈ es, isStar e = false) → (backTo pos (starEach es env)).any (·.1) = false
  | [], _ => rfl
  | e :: es, h => by
    rw [star_cons (h e (by simp))]
    exact star_plain (es := es) fun e he => h e (by simp [he])
theorem plain_ix {b : Expr} (h : plainE b = true) : PlainIx b := by
  intro o i
  cases b <;> first | rfl | cases h
theorem noSl_ix {b : Expr} (h : plainE b = true) : NoSl b := by
  intro o i
  cases b <;> first | rfl | cases h
theorem truth_is {e : Expr} {env : Env} (h : truthE e = true) : ∀ whole, isTrue e env whole = (do let v ← whole; standAt e.pos; holding [v] (truthy v)) := by
  intro whole
  cases e <;> first | rfl | cases h
theorem notSet_is {e : Expr} {env : Env} (h : notSet e = true) : ∀ x, foldedSetIterable e env x = pure x := by
  intro x
  cases e <;> first | rfl | cases h
theorem notComp_is {e : Expr} {env : Env} {t : Option Expr} {l : Nat} (h : notComp e = true) : swapsWith e t l env = pure false := by
  cases e <;> first | rfl | cases h
theorem notTup_is {ts : List Expr} {k : Nat} {p : Pos} {e : Expr} {env : Env} (h : isTupE e = false) : swappedStores [.Tuple ts k p] e env = pure none := by
  cases e <;> first | rfl | cases h
theorem subTup_is {o i : Expr} {p : Pos} {e : Expr} {env : Env} : swappedStores [.Subscript o i p] e env = pure none := by
  cases e <;> rfl
theorem block_fn {env : Env} (h : env.scope.kind = .function) : env.blockKind = .function := by unfold Env.blockKind; rw [h]; rfl

theorem swap_is {c : Cs} {ts vs : List Expr} {k k2 : Nat} {p p2 : Pos} {env : Env} {r : Option (List Str)} (hk : c.sc.kind = .function) (hs : env.scope = c.sc) (h : swapN c ts vs = some r) : swappedStores [.Tuple ts k p] (.Tuple vs k2 p2) env = pure r := by
  have hb : env.blockKind = .function := block_fn (by rw [hs]; exact hk)
  have hki : ∀ id, env.kindOf id = c.kind id := fun id => by unfold Cs.kind; rw [← hs]; rfl
  unfold swappedStores
  unfold swapN at h
  simp only [hk, Bool.or_false] at h
  simp only [hb, hki]
  rw [show (ScopeKind.function != ScopeKind.function) = false from rfl, Bool.or_false]
  by_cases c1 : (!(ts.length == 2 || ts.length == 3) || vs.length != ts.length) = true
  · rw [if_pos c1] at h ⊢; cases h; rfl
  rw [if_neg c1] at h ⊢
  generalize (vs.any fun x => match x with | .Starred .. => true | _ => false) = b2 at h ⊢
  cases b2 with
  | true => rw [if_pos rfl] at h ⊢; cases h; rfl
  | false =>
  rw [if_neg Bool.false_ne_true] at h ⊢
  generalize (List.filterMap _ ts) = nm at h ⊢
  by_cases c3 : (nm.length != ts.length || nm.eraseDups.length != nm.length) = true
  · rw [if_pos c3] at h ⊢; cases h; rfl
  rw [if_neg c3] at h ⊢
  by_cases c4 : vs.all (foldedForSure 8) = true
  · rw [if_pos c4] at h ⊢; cases h; rfl
  rw [if_neg c4] at h ⊢
  by_cases c5 : vs.all (constantsAlone 8) = true
  · rw [if_pos c5] at h; cases h
  rw [if_neg c5] at h ⊢
  cases h
  rfl

/-! ### where a text runs -/
structure Good (c : Cs) (X : Cx) (pn : List (Nat × Addr)) (Φ : Phi) : Prop where
  N : X.N = c.N
  sc : X.env.scope = c.sc
  nd : X.N.Nodup
  kind : c.sc.kind = .function
  calm : X.calm = true
  asg : ∀ x, c.asg x = true → X.fn x = true
  pn : ∀ p ∈ pn, p.1 ∈ c.io
  xe : X.xe = fun _ _ => False
  un : X.A.units + 64 < cLine
  blt : ∀ x ∈ c.blt, X.mg x = none
  con : ∀ x d, c.con.lookup x = some d → ∃ v u, X.mg x = some u ∧ RelV v u ∧ ∀ F, Dp X.K F v d
  fns : ∀ x sig, c.fns.lookup x = some sig → ∃ k f fd ps, FnOk X.prog X.w X.K X.mg X.base CX0 k f fd ps (spD X.K sig.n (Φ x)) ∧ Room k X.A ∧ X.mg x = some (.ref f) ∧ PySem.W.keepIn X.K (.ref f) = true ∧ Binds X.K fd ps []
section
variable {c : Cs} {X : Cx} {pn : List (Nat × Addr)} {Φ : Phi} {x : Str} {i : Nat}
theorem Good.slot (G : Good c X pn Φ) (h : c.slot x = some i) : X.N[i]? = some x ∧ Vis X.env.scope x ∧ (x == ("__debug__" : Str)) = false ∧ (x == ("__classdict__" : Str)) = false := by
  unfold Cs.slot at h
  split at h
  · rename_i hv
    unfold Cs.vis at hv
    rw [Bool.and_eq_true, Bool.and_eq_true] at hv
    obtain ⟨h1, h2, h3⟩ := hv
    have hg := (idxOf_get h).2
    refine ⟨by rw [G.N]; simpa using hg, ?_, by simpa using h2, by simpa using h3⟩
    rw [G.sc]
    unfold Cs.kind at h1
    unfold Vis
    split at h1
    · left; assumption
    · right; left; assumption
    · right; right; assumption
    · cases h1
  · cases h
theorem Good.tgt (G : Good c X pn Φ) (h : c.tgt x = some i) : X.N[i]? = some x ∧ Loc X.env.scope x ∧ (X.fn x = true ∨ X.env.scope.names.lookup x = some .local) ∧ Kp.free ⟨X.K, pn⟩ i := by
  unfold Cs.tgt at h
  split at h
  · rename_i hl
    split at h
    · rename_i j hj
      split at h
      · cases h
      · rename_i hio
        cases h
        have hg := (idxOf_get hj).2
        refine ⟨by rw [G.N]; simpa using hg, ?_, ?_, fun p hp e => hio (by rw [← e]; simpa using G.pn p hp)⟩
        · rw [G.sc]
          unfold Cs.loc Cs.kind at hl
          unfold L2.Loc
          split at hl
          · left; assumption
          · right; assumption
          · cases hl
        · rw [G.sc]
          unfold Cs.loc Cs.kind at hl
          split at hl
          · right; assumption
          · exact .inl (G.asg _ hl)
          · cases hl
    · cases h
  · cases h
theorem Good.glob (G : Good c X pn Φ) (h : c.glob x = true) : Gl X x ∧ (x == ("__debug__" : Str)) = false := by
  unfold Cs.glob at h
  rw [Bool.and_eq_true] at h
  obtain ⟨h1, h2⟩ := h
  refine ⟨?_, by simpa using h2⟩
  unfold Gl
  show X.env.scope.names.lookup x = _
  rw [G.sc]
  unfold Cs.kind at h1
  split at h1
  · assumption
  · cases h1
theorem Good.isB (G : Good c X pn Φ) (h : c.isB x = true) : Gl X x ∧ (x == ("__debug__" : Str)) = false ∧ X.mg x = none ∧ x ≠ ("__name__" : Str) := by
  unfold Cs.isB at h
  rw [Bool.and_eq_true, Bool.and_eq_true] at h
  obtain ⟨h1, h2, h3⟩ := h
  obtain ⟨g1, g2⟩ := G.glob h1
  exact ⟨g1, g2, G.blt x (by simpa using h2), by simpa using h3⟩
theorem Good.names (G : Good c X pn Φ) : ∀ {es : List Expr} {is : List Nat}, trNames c es = some is → Names X es is ∧ ∀ i ∈ is, Kp.free ⟨X.K, pn⟩ i
  | [], is, h => by cases h; exact ⟨.nil, fun i hi => by cases hi⟩
  | e :: es, is, h => by
    cases e with
    | Name x p =>
      simp only [trNames] at h
      split at h
      · rename_i i is' h1 h2
        cases h
        obtain ⟨a, b, d, e⟩ := G.tgt h1
        obtain ⟨n1, n2⟩ := G.names h2
        exact ⟨.cons a b d n1, fun j hj => by
          rcases List.mem_cons.mp hj with rfl | hj
          · exact e
          · exact n2 j hj⟩
      · cases h
    | _ => simp [trNames] at h
theorem Good.subs (G : Good c X pn Φ) : ∀ {es : List Expr} {ps : List Sub}, trSubs c es = some ps → Subs X pn es ps
  | [], ps, h => by cases h; exact .nil
  | e :: es, ps, h => by
    cases e with
    | Name x p =>
      simp only [trSubs] at h
      split at h
      · rename_i i ps' h1 h2
        cases h
        obtain ⟨a, b, d, e⟩ := G.tgt h1
        exact .name e a b d (G.subs h2)
      · cases h
    | Tuple ts k p =>
      simp only [trSubs] at h
      split at h
      · rename_i is ps' h1 h2
        cases h
        obtain ⟨n1, n2⟩ := G.names h1
        exact .tup n2 n1 (G.subs h2)
      · cases h
    | _ => simp [trSubs] at h
theorem Good.pat (G : Good c X pn Φ) {tg : Expr} {p : Pat} (h : trP c tg = some p) : PGp X pn tg p := by
  unfold trP at h
  split at h
  · split at h
    · rename_i i h1
      cases h
      obtain ⟨a, b, d, e⟩ := G.tgt h1
      exact g_name e G.nd a b d
    · cases h
  · split at h
    · rename_i is h1
      cases h
      obtain ⟨n1, n2⟩ := G.names h1
      exact g_tup n2 G.calm G.nd n1
    · split at h
      · rename_i ps h1
        cases h
        exact g_nst G.calm G.nd (G.subs h1)
      · cases h
  · cases h
theorem Good.blk (G : Good c X pn Φ) {scope : Scope} (hk : scope.kind = .function) (s : Shared) (H : Hp) (C : Addr) (cl : List (Str × Addr)) (fp : List Addr) : Good (c.blk scope) (X.blk s H scope (compEnvC scope cl C X.env) fp) pn Φ :=
  ⟨G.N, by show relS scope X.env.scope = relS scope c.sc; rw [G.sc], G.nd, hk, G.calm, fun x h => h, G.pn, rfl, G.un, G.blt, G.con, G.fns⟩
end
end Ev
end
/-! ## Ev15 -/
section
set_option Elab.async false
set_option linter.all false
set_option maxRecDepth 100000
set_option maxHeartbeats 1000000
/-! Ev15: the meaning is sound: expressions. -/
namespace Ev
open PySem L2
section
variable {c : Cs} {X : Cx} {pn : List (Nat × Addr)} {Φ : Phi} {x : Str} {i : Nat} {p pos : Pos}
theorem bin_ok {op : Operator} {q : Prim} (h : binP op = some q) : B2 X (binaryOp op) q := by
  cases op <;> first | (cases h; done) | skip
  all_goals cases h
  · exact b_addI.or (b_catL.or (b_catT.or b_addS))
  · exact b_subI
  · exact b_mulI.or (b_repL.or (b_repT.or (b_repT1.or b_repT0)))
  all_goals first | exact b_divI | exact b_modI | exact b_powI
theorem cmp_ok (hu : X.A.units + 64 < cLine) (op : CmpOp) : B2 X (compareOp op) (cmpP op) := by
  cases op
  · exact b_eqS.or (b_eqD hu)
  · exact b_neS.or (b_neD hu)
  · exact b_ltI.or (b_ltX hu)
  · exact b_leI.or (b_leX hu)
  · exact b_gtI.or (b_gtX hu)
  · exact b_geI.or (b_geX hu)
  · exact b_isN.or b_isB
  · exact b_notN.or b_notB
  · exact b_inI.or (b_inX hu)
  · exact b_notInI.or (b_notInX hu)
theorem blt_boot (b : Blt) : bootBuiltins (Str.ofString b.name) = some (if b.isTy = true then .type b.name else .builtin b.name) := by
  cases b <;> decide +kernel
theorem blt_ok (hc : X.calm = true) (hu : X.A.units + 64 < cLine) (b : Blt) : C1 X (if b.isTy = true then .type b.name else .builtin b.name) b.prim := by
  cases b
  · exact c_len.or c_lenS
  · exact (c_sum hc).or (c_sumT hc)
  · exact c_all hc
  · exact c_any hc
  · exact c_abs
  · exact c_sorted hu
  · exact (c_min2 hc).or ((c_minL hc).or (c_minT hc hu))
  · exact (c_max2 hc).or ((c_maxL hc).or (c_maxT hc hu))
  · exact c_int
  · exact c_list
  · exact c_tuple
theorem bltOf_is {b : Blt} (h : bltOf x = some b) : x = Str.ofString b.name := by
  have := List.find?_some h
  simpa using this
theorem tyOf_is {u : Ty} (h : tyOf x = some u) : x = Str.ofString u.name ∧ u ≠ .none := by
  have h1 := List.find?_some h
  have h2 := List.mem_of_find?_eq_some h
  refine ⟨by simpa using h1, ?_⟩
  rintro rfl
  simp at h2
theorem ty_boot {u : Ty} (h : tyOf x = some u) : bootBuiltins x = some (.type u.name) := by
  obtain ⟨rfl, hn⟩ := tyOf_is h
  cases u <;> first | exact (hn rfl).elim | decide +kernel
theorem e_blt (G : Good c X pn Φ) {a : Expr} {as : List Expr} {b : Blt} {f : DA} (hb : bltOf x = some b) (hx : c.isB x = true) (ha : PAo X pn (a :: as) f) (hs : ∀ e ∈ a :: as, isStar e = false) : PEe X pn (.Call (.Name x p) (a :: as) [] pos) (fPrim b.prim f) := by
  obtain ⟨g1, g2, g3, g4⟩ := G.isB hx
  have e := bltOf_is hb
  obtain ⟨r, h1, h2⟩ := blt_ok (X := X) G.calm G.un b
  have hbt := blt_boot b
  rw [← e] at hbt
  have hs1 := star_cons (es := as) (env := X.env) (hs a (by simp))
  have hs2 : (backTo pos (starEach as X.env)).any (·.1) = false := star_plain fun e he => hs e (by simp [he])
  by_cases ht : b.isTy = true
  · rw [if_pos ht] at h1 hbt
    exact peMono (pe_callTy h1 g1 g3 hbt ha g4 g2 hs1 hs2) fun _ _ _ h => rd_prim h2 h
  · rw [if_neg ht] at h1 hbt
    exact peMono (pe_callB h1 g1 g3 hbt ha g4 g2 hs1 hs2) fun _ _ _ h => rd_prim h2 h
theorem e_con (G : Good c X pn Φ) {d : D} (hg : c.glob x = true) (h : c.con.lookup x = some d) : PEe X pn (.Name x pos) (fLit d) := by
  obtain ⟨g1, g2⟩ := G.glob hg
  obtain ⟨v, u, h1, h2, h3⟩ := G.con x d h
  exact peMono (pe_glob g1 h1 h2 g2) fun _ _ _ => rd_lit h3
end

/-- what is owed at one depth -/
structure Snd (n : Nat) : Prop where
  e : ∀ {c : Cs} {X : Cx} {pn : List (Nat × Addr)} {Φ : Phi} (_ : Good c X pn Φ) {e : Expr} {f : Phi → DE}, trE n c e = some f → PEe X pn e (f Φ)
  o : ∀ {c : Cs} {X : Cx} {pn : List (Nat × Addr)} {Φ : Phi} (_ : Good c X pn Φ) {e : Expr} {f : Phi → DO}, trO n c e = some f → PEo X pn e (f Φ)
  v : ∀ {c : Cs} {X : Cx} {pn : List (Nat × Addr)} {Φ : Phi} (_ : Good c X pn Φ) {es : List Expr} {f : Phi → DV}, trV n c es = some f → PAv X pn es (f Φ)
  ao : ∀ {c : Cs} {X : Cx} {pn : List (Nat × Addr)} {Φ : Phi} (_ : Good c X pn Φ) {es : List Expr} {f : Phi → DA}, trAo n c es = some f → PAo X pn es (f Φ) ∧ ∀ e ∈ es, isStar e = false
  bv : ∀ {c : Cs} {X : Cx} {pn : List (Nat × Addr)} {Φ : Phi} (_ : Good c X pn Φ) {op : BoolOp} {es : List Expr} {f : Phi → DE} {pos : Pos}, trBV n c op es = some f → PEe X pn (.BoolOp op es pos) (f Φ)
  bt : ∀ {c : Cs} {X : Cx} {pn : List (Nat × Addr)} {Φ : Phi} (_ : Good c X pn Φ) {op : BoolOp} {es : List Expr} {f : Phi → DT} {pos : Pos}, trBT n c op es = some f → PWt X pn (.BoolOp op es pos) (f Φ)
  t : ∀ {c : Cs} {X : Cx} {pn : List (Nat × Addr)} {Φ : Phi} (_ : Good c X pn Φ) {e : Expr} {f : Phi → DT}, trT n c e = some f → PTt X pn e (f Φ)
  ch : ∀ {c : Cs} {X : Cx} {pn : List (Nat × Addr)} {Φ : Phi} (_ : Good c X pn Φ) {ops : List CmpOp} {es : List Expr} {f : Phi → Opd → DE}, trC n c ops es = some f → PCc X pn ops es (f Φ)
  pt : ∀ {c : Cs} {X : Cx} {pn : List (Nat × Addr)} {Φ : Phi} (_ : Good c X pn Φ) {e : Option Expr} {f : Phi → DP}, trPt n c e = some f → POp X pn e (f Φ)
  rg : ∀ {c : Cs} {X : Cx} {pn : List (Nat × Addr)} {Φ : Phi} (_ : Good c X pn Φ) {e : Expr} {f : Phi → SD → Option (Int × Int × SD)}, trRg n c e = some f → PRr X pn e (f Φ)
  it : ∀ {c : Cs} {X : Cx} {pn : List (Nat × Addr)} {Φ : Phi} (_ : Good c X pn Φ) {tg e : Expr} {f : Phi → DV}, trI n c tg e = some f → PIi X pn tg e (f Φ) ∧ notSet e = true
  args : ∀ {c : Cs} {X : Cx} {pn : List (Nat × Addr)} {Φ : Phi} (_ : Good c X pn Φ) {io : List Bool} {es : List Expr} {f : Phi → List Arg}, trArgs n c io es = some f → PAb X pn es (f Φ) ∧ (∀ e ∈ es, isStar e = false) ∧ (f Φ).length = es.length
  call : ∀ {c : Cs} {X : Cx} {pn : List (Nat × Addr)} {Φ : Phi} (_ : Good c X pn Φ) {x : Str} {args : List Expr} {f : Phi → DE} {p pos : Pos}, trCall n c x args = some f → PEe X pn (.Call (.Name x p) args [] pos) (f Φ)
  blt : ∀ {c : Cs} {X : Cx} {pn : List (Nat × Addr)} {Φ : Phi} (_ : Good c X pn Φ) {x : Str} {args : List Expr} {f : Phi → DE} {p pos : Pos}, trBlt n c x args = some f → PEe X pn (.Call (.Name x p) args [] pos) (f Φ)
  lc : ∀ {c : Cs} {X : Cx} {pn : List (Nat × Addr)} {Φ : Phi} (_ : Good c X pn Φ) {elt tg it : Expr} {ifs : List Expr} {k : Int} {scope : Scope} {f : Phi → DE}, trLc n c elt tg it ifs k scope = some f →
    ∃ (fi : DV) (p : Pat) (ct : DT) (fe : DW) (own : List (Str × Nat)), k = 0 ∧ f Φ = fLc fi p ct fe (own.map (·.2)) ∧ PIi X pn tg it fi ∧ BlkOk X.N X.env.scope scope own ∧ (∀ j ∈ p.slots, j ∈ own.map (·.2)) ∧ (∀ i ∈ own.map (·.2), Kp.free ⟨X.K, pn⟩ i) ∧
      (∀ (s : Shared) (H : Hp) (C : Addr) (cl : List (Str × Addr)) (fp : List Addr), PGp (X.blk s H scope (compEnvC scope cl C X.env) fp) pn tg p) ∧
      (∀ (s : Shared) (H : Hp) (C : Addr) (cl : List (Str × Addr)) (fp : List Addr), PTst (X.blk s H scope (compEnvC scope cl C X.env) fp) pn ifs ct) ∧
      (∀ (s : Shared) (H : Hp) (C : Addr) (cl : List (Str × Addr)) (fp : List Addr), PEw (X.blk s H scope (compEnvC scope cl C X.env) fp) pn elt fe) ∧ (∀ x, foldedSetIterable it X.env x = pure x)
  dc : ∀ {c : Cs} {X : Cx} {pn : List (Nat × Addr)} {Φ : Phi} (_ : Good c X pn Φ) {kx vx tg it : Expr} {ifs : List Expr} {k : Int} {scope : Scope} {f : Phi → DE}, trDc n c kx vx tg it ifs k scope = some f →
    ∃ (fi : DV) (p : Pat) (ct : DT) (fk fe : DW) (own : List (Str × Nat)), k = 0 ∧ f Φ = fDc fi p ct fk fe (own.map (·.2)) ∧ PIi X pn tg it fi ∧ BlkOk X.N X.env.scope scope own ∧ (∀ j ∈ p.slots, j ∈ own.map (·.2)) ∧ (∀ i ∈ own.map (·.2), Kp.free ⟨X.K, pn⟩ i) ∧
      (∀ (s : Shared) (H : Hp) (C : Addr) (cl : List (Str × Addr)) (fp : List Addr), PGp (X.blk s H scope (compEnvC scope cl C X.env) fp) pn tg p) ∧
      (∀ (s : Shared) (H : Hp) (C : Addr) (cl : List (Str × Addr)) (fp : List Addr), PTst (X.blk s H scope (compEnvC scope cl C X.env) fp) pn ifs ct) ∧
      (∀ (s : Shared) (H : Hp) (C : Addr) (cl : List (Str × Addr)) (fp : List Addr), PEw (X.blk s H scope (compEnvC scope cl C X.env) fp) pn kx fk) ∧
      (∀ (s : Shared) (H : Hp) (C : Addr) (cl : List (Str × Addr)) (fp : List Addr), PEw (X.blk s H scope (compEnvC scope cl C X.env) fp) pn vx fe) ∧ (∀ x, foldedSetIterable it X.env x = pure x)
  ts : ∀ {c : Cs} {X : Cx} {pn : List (Nat × Addr)} {Φ : Phi} (_ : Good c X pn Φ) {ifs : List Expr} {f : Phi → DT}, trTs n c ifs = some f → PTst X pn ifs (f Φ)
  lc2 : ∀ {c : Cs} {X : Cx} {pn : List (Nat × Addr)} {Φ : Phi} (_ : Good c X pn Φ) {elt tg it tg1 it1 : Expr} {ifs ifs1 : List Expr} {k k1 : Int} {scope : Scope} {f : Phi → DE}, trLc2 n c elt tg it ifs k tg1 it1 ifs1 k1 scope = some f →
    ∃ (fi fi1 : DV) (p p1 : Pat) (ct ct1 : DT) (fe : DW) (own : List (Str × Nat)), k = 0 ∧ k1 = 0 ∧ f Φ = fLc2 fi p ct fi1 p1 ct1 fe (own.map (·.2)) p1.slots ∧ PIi X pn tg it fi ∧ BlkOk X.N X.env.scope scope own ∧ (∀ j ∈ p.slots, j ∈ own.map (·.2)) ∧ (∀ j ∈ p1.slots, j ∈ own.map (·.2)) ∧ (∀ i ∈ own.map (·.2), Kp.free ⟨X.K, pn⟩ i) ∧
      (∀ (s : Shared) (H : Hp) (C : Addr) (cl : List (Str × Addr)) (fp : List Addr), PGp (X.blk s H scope (compEnvC scope cl C X.env) fp) pn tg p) ∧
      (∀ (s : Shared) (H : Hp) (C : Addr) (cl : List (Str × Addr)) (fp : List Addr), PTst (X.blk s H scope (compEnvC scope cl C X.env) fp) pn ifs ct) ∧
      (∀ (s : Shared) (H : Hp) (C : Addr) (cl : List (Str × Addr)) (fp : List Addr), PIi (X.blk s H scope (compEnvC scope cl C X.env) fp) pn tg1 it1 fi1) ∧
      (∀ (s : Shared) (H : Hp) (C : Addr) (cl : List (Str × Addr)) (fp : List Addr), PGp (X.blk s H scope (compEnvC scope cl C X.env) fp) pn tg1 p1) ∧
      (∀ (s : Shared) (H : Hp) (C : Addr) (cl : List (Str × Addr)) (fp : List Addr), PTst (X.blk s H scope (compEnvC scope cl C X.env) fp) pn ifs1 ct1) ∧
      (∀ (s : Shared) (H : Hp) (C : Addr) (cl : List (Str × Addr)) (fp : List Addr), PEw (X.blk s H scope (compEnvC scope cl C X.env) fp) pn elt fe) ∧ (∀ x, foldedSetIterable it X.env x = pure x) ∧ (∀ env x, foldedSetIterable it1 env x = pure x)

section
variable {n : Nat} (S : Snd n) {c : Cs} {X : Cx} {pn : List (Nat × Addr)} {Φ : Phi} (G : Good c X pn Φ)
include S G
theorem snd_o {e : Expr} {f : Phi → DO} (h : trO (n + 1) c e = some f) : PEo X pn e (f Φ) := by
  unfold trO at h
  split at h
  · split at h
    · rename_i i h1
      cases h
      obtain ⟨a, b, d, e⟩ := G.slot h1
      exact o_slot a b d e
    · split at h
      · rename_i g h2
        cases h
        exact (S.e G h2).o
      · cases h
  · split at h
    · rename_i g h2
      cases h
      exact (S.e G h2).o
    · cases h
theorem snd_v {es : List Expr} {f : Phi → DV} (h : trV (n + 1) c es = some f) : PAv X pn es (f Φ) := by
  unfold trV at h
  split at h
  · cases h; exact pv_nil
  · rename_i e es
    split at h
    · cases h
    · rename_i hs
      split at h
      · rename_i f g h1 h2
        cases h
        exact pv_cons (S.e G h1).w (S.v G h2) (star_cons (by simpa using hs))
      · cases h
theorem snd_ao {es : List Expr} {f : Phi → DA} (h : trAo (n + 1) c es = some f) : PAo X pn es (f Φ) ∧ ∀ e ∈ es, isStar e = false := by
  unfold trAo at h
  split at h
  · cases h; exact ⟨po_nil, fun e he => by cases he⟩
  · rename_i e es
    split at h
    · cases h
    · rename_i hs
      split at h
      · rename_i f g h1 h2
        cases h
        obtain ⟨q1, q2⟩ := S.ao G h2
        refine ⟨po_cons (S.o G h1) q1 (star_cons (by simpa using hs)), fun z hz => ?_⟩
        rcases List.mem_cons.mp hz with rfl | hz
        · simpa using hs
        · exact q2 z hz
      · cases h
theorem snd_bv {op : BoolOp} {es : List Expr} {f : Phi → DE} {pos : Pos} (h : trBV (n + 1) c op es = some f) : PEe X pn (.BoolOp op es pos) (f Φ) := by
  unfold trBV at h
  split at h
  · exact e_one (S.e G h)
  · split at h
    · rename_i f g h1 h2
      cases op with
      | And => cases h; exact e_and (S.e G h1) (S.bv G h2)
      | Or => cases h; exact e_or (S.e G h1) (S.bv G h2)
    · cases h
  · cases h
theorem snd_bt {op : BoolOp} {es : List Expr} {f : Phi → DT} {pos : Pos} (h : trBT (n + 1) c op es = some f) : PWt X pn (.BoolOp op es pos) (f Φ) := by
  unfold trBT at h
  split at h
  · cases op with
    | And => exact w_and1 (S.t G h)
    | Or => exact w_or1 (S.t G h)
  · split at h
    · rename_i f g h1 h2
      cases op with
      | And => cases h; exact w_and (S.t G h1) (S.bt G h2)
      | Or => cases h; exact w_or (S.t G h1) (S.bt G h2)
    · cases h
  · cases h
theorem snd_t {e : Expr} {f : Phi → DT} (h : trT (n + 1) c e = some f) : PTt X pn e (f Φ) := by
  unfold trT at h
  split at h
  · split at h
    · rename_i g h1
      cases h
      exact t_not (S.t G h1)
    · cases h
  · exact (S.bt G h).pt
  · split at h
    · rename_i f g h1 h2
      split at h
      · cases h
      · rename_i hm
        cases h
        obtain ⟨r, q1, q2⟩ := cmp_ok (X := X) G.un _
        exact t_cmp q1 q2 (S.o G h1) (S.o G h2) (by simpa using hm)
    · cases h
  · split at h
    · rename_i f g h1 h2
      split at h
      · cases h
      · rename_i hm
        cases h
        exact t_chain (S.o G h1) (S.ch G h2) (by simpa using hm)
    · cases h
  · split at h
    · rename_i ht
      split at h
      · rename_i g h1
        cases h
        exact t_truth (S.o G h1) (truth_is ht)
      · cases h
    · cases h
theorem snd_ch {ops : List CmpOp} {es : List Expr} {f : Phi → Opd → DE} (h : trC (n + 1) c ops es = some f) : PCc X pn ops es (f Φ) := by
  unfold trC at h
  split at h
  · split at h
    · rename_i g h1
      cases h
      obtain ⟨r, q1, q2⟩ := cmp_ok (X := X) G.un _
      exact c_one q1 q2 (S.o G h1)
    · cases h
  · split at h
    · rename_i f g h1 h2
      cases h
      obtain ⟨r, q1, q2⟩ := cmp_ok (X := X) G.un _
      exact c_more q1 q2 (S.o G h1) (S.ch G h2)
    · cases h
  · cases h
theorem snd_pt {e : Option Expr} {f : Phi → DP} (h : trPt (n + 1) c e = some f) : POp X pn e (f Φ) := by
  unfold trPt at h
  split at h
  · cases h; exact p_none
  · split at h
    · rename_i g h1
      cases h
      exact p_some (S.e G h1).w
    · cases h
theorem snd_rg {e : Expr} {f : Phi → SD → Option (Int × Int × SD)} (h : trRg (n + 1) c e = some f) : PRr X pn e (f Φ) := by
  unfold trRg at h
  split at h
  · split at h
    · rename_i hc
      simp only [Bool.and_eq_true, decide_eq_true_eq, Bool.not_eq_true'] at hc
      obtain ⟨⟨rfl, hb⟩, hs⟩ := hc
      obtain ⟨g1, g2, g3, g4⟩ := G.isB hb
      split at h
      · rename_i g h1
        cases h
        exact g_rng1 g1 g3 (S.e G h1).w (star_cons hs)
      · cases h
    · cases h
  · split at h
    · rename_i hc
      simp only [Bool.and_eq_true, decide_eq_true_eq, Bool.not_eq_true'] at hc
      obtain ⟨⟨⟨rfl, hb⟩, hs⟩, hs'⟩ := hc
      obtain ⟨g1, g2, g3, g4⟩ := G.isB hb
      split at h
      · rename_i f g h1 h2
        cases h
        exact g_rng2 g1 g3 (S.e G h1).w (S.e G h2).w (star_cons hs) (star_cons hs')
      · cases h
    · cases h
  · cases h
theorem snd_it {tg e : Expr} {f : Phi → DV} (h : trI (n + 1) c tg e = some f) : PIi X pn tg e (f Φ) ∧ notSet e = true := by
  unfold trI at h
  split at h
  · rename_i hns
    refine ⟨?_, hns⟩
    split at h
    · split at h
      · rename_i hc
        simp only [Bool.and_eq_true, decide_eq_true_eq, Bool.not_eq_true'] at hc
        obtain ⟨⟨rfl, hb⟩, hs⟩ := hc
        obtain ⟨g1, g2, g3, g4⟩ := G.isB hb
        split at h
        · rename_i g h1
          cases h
          exact i_range1 g1 g3 (S.e G h1).w (star_cons hs)
        · cases h
      · split at h
        · rename_i hc
          simp only [Bool.and_eq_true, decide_eq_true_eq, Bool.not_eq_true'] at hc
          obtain ⟨⟨⟨rfl, hb⟩, hs⟩, ht⟩ := hc
          obtain ⟨g1, g2, g3, g4⟩ := G.isB hb
          split at h
          · rename_i g h1
            cases h
            cases tg with
            | Tuple elts kk tpos => exact i_enum g1 g3 (S.e G h1).w (star_cons hs)
            | _ => cases ht
          · cases h
        · split at h
          · rename_i g h1
            cases h
            exact i_seq (S.e G h1).w
          · cases h
    · split at h
      · rename_i hc
        simp only [Bool.and_eq_true, decide_eq_true_eq, Bool.not_eq_true'] at hc
        obtain ⟨⟨⟨rfl, hb⟩, hs⟩, hs'⟩ := hc
        obtain ⟨g1, g2, g3, g4⟩ := G.isB hb
        split at h
        · rename_i f g h1 h2
          cases h
          exact i_range2 g1 g3 (S.e G h1).w (S.e G h2).w (star_cons hs) (star_cons hs')
        · cases h
      · split at h
        · rename_i hc
          simp only [Bool.and_eq_true, decide_eq_true_eq, Bool.not_eq_true'] at hc
          obtain ⟨⟨⟨⟨rfl, hb⟩, hs⟩, hs'⟩, ht⟩ := hc
          obtain ⟨g1, g2, g3, g4⟩ := G.isB hb
          split at h
          · rename_i f g h1 h2
            cases h
            cases tg with
            | Tuple elts kk tpos => exact i_zip g1 g3 (S.e G h1).w (S.e G h2).w (star_cons hs) (star_cons hs')
            | _ => cases ht
          · cases h
        · split at h
          · rename_i g h1
            cases h
            exact i_seq (S.e G h1).w
          · cases h
    · split at h
      · rename_i hc
        simp only [Bool.and_eq_true, decide_eq_true_eq, Bool.not_eq_true'] at hc
        obtain ⟨⟨⟨⟨rfl, hb⟩, hs⟩, hs'⟩, hs''⟩ := hc
        obtain ⟨g1, g2, g3, g4⟩ := G.isB hb
        split at h
        · rename_i f g q h1 h2 h3
          cases h
          exact i_range3 g1 g3 (S.e G h1).w (S.e G h2).w (S.e G h3).w (star_cons hs) (star_cons hs') (star_cons hs'')
        · cases h
      · split at h
        · rename_i hc
          simp only [Bool.and_eq_true, decide_eq_true_eq, Bool.not_eq_true'] at hc
          obtain ⟨⟨⟨⟨⟨rfl, hb⟩, hs⟩, hs'⟩, hs''⟩, ht⟩ := hc
          obtain ⟨g1, g2, g3, g4⟩ := G.isB hb
          split at h
          · rename_i f g q h1 h2 h3
            cases h
            cases tg with
            | Tuple elts kk tpos => exact i_zip3 g1 g3 (S.e G h1).w (S.e G h2).w (S.e G h3).w (star_cons hs) (star_cons hs') (star_cons hs'')
            | _ => cases ht
          · cases h
        · split at h
          · rename_i g h1
            cases h
            exact i_seq (S.e G h1).w
          · cases h
    · split at h
      · rename_i g h1
        cases h
        exact i_seq (S.e G h1).w
      · cases h
  · cases h
theorem snd_args {io : List Bool} {es : List Expr} {f : Phi → List Arg} (h : trArgs (n + 1) c io es = some f) : PAb X pn es (f Φ) ∧ (∀ e ∈ es, isStar e = false) ∧ (f Φ).length = es.length := by
  unfold trArgs at h
  split at h
  · cases h; exact ⟨b_nil, fun e he => (by cases he), rfl⟩
  · rename_i b io e es
    split at h
    · cases h
    · rename_i hs
      have hs : isStar e = false := by simpa using hs
      split at h
      · rename_i g h1
        obtain ⟨q1, q2, q3⟩ := S.args G h1
        have key : ∀ a, PEg X pn e a → PAb X pn (e :: es) (a :: g Φ) ∧ (∀ z ∈ e :: es, isStar z = false) ∧ (a :: g Φ).length = (e :: es).length := fun a ha =>
          ⟨b_cons ha q1 (star_cons hs), fun z hz => by
            rcases List.mem_cons.mp hz with rfl | hz
            · exact hs
            · exact q2 z hz, by simp [q3]⟩
        split at h
        · split at h
          · rename_i f h2
            cases h
            exact key _ (S.e G h2).w
          · cases h
        · split at h
          · split at h
            · rename_i i h2
              cases h
              obtain ⟨a, b, d, e⟩ := G.slot h2
              exact key (.slot i) (pe_var a b d e)
            · cases h
          · split at h
            · rename_i f h2
              cases h
              exact key (.tmp _) (S.e G h2)
            · cases h
      · cases h
  · cases h
theorem snd_blt {x : Str} {args : List Expr} {f : Phi → DE} {p pos : Pos} (h : trBlt (n + 1) c x args = some f) : PEe X pn (.Call (.Name x p) args [] pos) (f Φ) := by
  unfold trBlt at h
  split at h
  · rename_i hb
    split at h
    · rename_i hx
      split at h
      · rename_i g h1
        cases h
        obtain ⟨q1, q2⟩ := S.ao G h1
        exact e_blt G hb hx q1 q2
      · cases h
    · cases h
  · cases h
theorem snd_call {x : Str} {args : List Expr} {f : Phi → DE} {p pos : Pos} (h : trCall (n + 1) c x args = some f) : PEe X pn (.Call (.Name x p) args [] pos) (f Φ) := by
  unfold trCall at h
  split at h
  · rename_i sig hf
    split at h
    · rename_i hc
      simp only [Bool.and_eq_true, decide_eq_true_eq] at hc
      obtain ⟨⟨hg, hl⟩, hl'⟩ := hc
      obtain ⟨g1, g2⟩ := G.glob hg
      obtain ⟨k, fa, fd, ps, F1, F2, F3, F4, F5⟩ := G.fns x sig hf
      split at h
      · rename_i g h1
        cases h
        obtain ⟨q1, q2, q3⟩ := S.args G h1
        cases args with
        | nil =>
          have e1 : sig.n = 0 := hl.symm
          have e2 : sig.io = [] := List.eq_nil_of_length_eq_zero (hl'.trans e1)
          have e3 : g Φ = [] := List.eq_nil_of_length_eq_zero q3
          rw [e1] at F1
          show PEe X pn _ (fCall (Φ x) sig.io (g Φ))
          rw [e2, e3]
          exact e_call0 F1 F2 g1 F3 F4 F5 pass0 g2
        | cons a as =>
          exact e_call F1 F2 g1 F3 F4 F5 pass0 q1 (q3.trans hl) g2 (star_cons (q2 a (by simp))) (star_plain fun e he => q2 e (by simp [he]))
      · cases h
    · cases h
  · split at h
    · split at h
      · rename_i hc
        simp only [Bool.and_eq_true, decide_eq_true_eq, Bool.not_eq_true'] at hc
        obtain ⟨⟨⟨rfl, hb⟩, hb'⟩, hs⟩ := hc
        obtain ⟨g1, g2, g3, g4⟩ := G.isB hb
        obtain ⟨k1, k2, k3, k4⟩ := G.isB hb'
        split at h
        · rename_i u f hu h1
          cases h
          exact e_isi (tyOf_is hu).2 (ty_boot hu) g1 g3 k1 k3 k4 k2 (S.o G h1) (star_cons hs)
        · cases h
      · exact S.blt G h
    · split at h
      · rename_i hc
        simp only [Bool.and_eq_true, decide_eq_true_eq] at hc
        obtain ⟨⟨⟨rfl, hb⟩, rfl⟩, hl⟩ := hc
        obtain ⟨g1, g2, g3, g4⟩ := G.isB hb
        split at h
        · rename_i i h1
          cases h
          obtain ⟨a, b, d, e⟩ := G.slot h1
          exact e_sortedV G.calm G.un g1 g3 (by decide +kernel) g4 g2 a b d e hl
        · cases h
      · cases h
    · split at h
      · rename_i b hb0
        obtain ⟨y, p, p2, rfl, rfl, hb, rfl, hb', hs⟩ := setArg_of hb0
        obtain ⟨g1, g2, g3, g4⟩ := G.isB hb
        obtain ⟨k1, k2, k3, k4⟩ := G.isB hb'
        split at h
        · rename_i f h1
          cases h
          exact e_sortSet G.calm G.un g1 g3 (by decide +kernel) g4 g2 k1 k3 (by decide +kernel) k4 k2 ((S.e G h1).w) (star_cons hs)
        · cases h
      · split at h
        · rename_i hc
          simp only [Bool.and_eq_true, decide_eq_true_eq, Bool.not_eq_true'] at hc
          obtain ⟨⟨rfl, hb⟩, hs⟩ := hc
          obtain ⟨g1, g2, g3, g4⟩ := G.isB hb
          split at h
          · rename_i f h1
            cases h
            exact e_tupRng G.calm g1 g3 (S.rg G h1) (star_cons hs)
          · exact S.blt G h
        · split at h
          · rename_i hc
            simp only [Bool.and_eq_true, decide_eq_true_eq, Bool.not_eq_true'] at hc
            obtain ⟨⟨rfl, hb⟩, hs⟩ := hc
            obtain ⟨g1, g2, g3, g4⟩ := G.isB hb
            split at h
            · rename_i f h1
              cases h
              exact e_lstRng G.calm g1 g3 (S.rg G h1) (star_cons hs)
            · exact S.blt G h
          · exact S.blt G h
    · exact S.blt G h
end
end Ev
end
/-! ## Ev16 -/
section
set_option Elab.async false
set_option linter.all false
set_option maxRecDepth 100000
set_option maxHeartbeats 1000000
/-! Ev16: the meaning is sound: expressions whole, statements. -/
namespace Ev
open PySem L2
theorem it_notSet {n : Nat} {c : Cs} {tg e : Expr} {f : Phi → DV} (h : trI n c tg e = some f) : notSet e = true := by
  cases n with
  | zero => unfold trI at h; cases h
  | succ n =>
    unfold trI at h
    split at h
    · rename_i hn; exact hn
    · cases h
section
variable {n : Nat} (S : Snd n) {c : Cs} {X : Cx} {pn : List (Nat × Addr)} {Φ : Phi} (G : Good c X pn Φ)
include S G
theorem snd_lc {elt tg it : Expr} {ifs : List Expr} {k : Int} {scope : Scope} {f : Phi → DE} (h : trLc (n + 1) c elt tg it ifs k scope = some f) :
    ∃ (fi : DV) (p : Pat) (ct : DT) (fe : DW) (own : List (Str × Nat)), k = 0 ∧ f Φ = fLc fi p ct fe (own.map (·.2)) ∧ PIi X pn tg it fi ∧ BlkOk X.N X.env.scope scope own ∧ (∀ j ∈ p.slots, j ∈ own.map (·.2)) ∧ (∀ i ∈ own.map (·.2), Kp.free ⟨X.K, pn⟩ i) ∧
      (∀ (s : Shared) (H : Hp) (C : Addr) (cl : List (Str × Addr)) (fp : List Addr), PGp (X.blk s H scope (compEnvC scope cl C X.env) fp) pn tg p) ∧
      (∀ (s : Shared) (H : Hp) (C : Addr) (cl : List (Str × Addr)) (fp : List Addr), PTst (X.blk s H scope (compEnvC scope cl C X.env) fp) pn ifs ct) ∧
      (∀ (s : Shared) (H : Hp) (C : Addr) (cl : List (Str × Addr)) (fp : List Addr), PEw (X.blk s H scope (compEnvC scope cl C X.env) fp) pn elt fe) ∧ (∀ x, foldedSetIterable it X.env x = pure x) := by
  unfold trLc at h
  split at h
  · rename_i own ho
    split at h
    · rename_i hc
      simp only [Bool.and_eq_true, decide_eq_true_eq, List.all_eq_true, Bool.not_eq_true'] at hc
      obtain ⟨⟨rfl, hb⟩, hio⟩ := hc
      have ok : BlkOk X.N X.env.scope scope own := by
        rw [G.N, G.sc]; exact blkOk_by hb
      have hfr : ∀ i ∈ own.map (·.2), Kp.free ⟨X.K, pn⟩ i := fun i hi p hp e => by
        obtain ⟨q, hq, rfl⟩ := List.mem_map.mp hi
        have h1 := hio q hq
        have h2 := G.pn p hp
        rw [e] at h2
        have : c.io.contains q.2 = true := by simpa using h2
        rw [h1] at this
        cases this
      split at h
      · rename_i fi p fe h1 h2 h3
        split at h
        · rename_i hsl
          simp only [List.all_eq_true] at hsl
          have hsl : ∀ j ∈ p.slots, j ∈ own.map (·.2) := fun j hj => by simpa using hsl j hj
          obtain ⟨i1, i2⟩ := S.it G h1
          split at h
          · cases h
            exact ⟨fi Φ, p, _, _, own, rfl, rfl, i1, ok, hsl, hfr, fun s H C cl fp => (G.blk ok.kind s H C cl fp).pat h2, fun s H C cl fp => ts_nil, fun s H C cl fp => (S.e (G.blk ok.kind s H C cl fp) h3).w, notSet_is i2⟩
          · split at h
            · rename_i ft h4
              cases h
              exact ⟨fi Φ, p, _, _, own, rfl, rfl, i1, ok, hsl, hfr, fun s H C cl fp => (G.blk ok.kind s H C cl fp).pat h2, fun s H C cl fp => ts_one (S.t (G.blk ok.kind s H C cl fp) h4), fun s H C cl fp => (S.e (G.blk ok.kind s H C cl fp) h3).w, notSet_is i2⟩
            · cases h
          · cases h
        · cases h
      · cases h
    · cases h
  · cases h
theorem snd_dc {kx vx tg it : Expr} {ifs : List Expr} {k : Int} {scope : Scope} {f : Phi → DE} (h : trDc (n + 1) c kx vx tg it ifs k scope = some f) :
    ∃ (fi : DV) (p : Pat) (ct : DT) (fk fe : DW) (own : List (Str × Nat)), k = 0 ∧ f Φ = fDc fi p ct fk fe (own.map (·.2)) ∧ PIi X pn tg it fi ∧ BlkOk X.N X.env.scope scope own ∧ (∀ j ∈ p.slots, j ∈ own.map (·.2)) ∧ (∀ i ∈ own.map (·.2), Kp.free ⟨X.K, pn⟩ i) ∧
      (∀ (s : Shared) (H : Hp) (C : Addr) (cl : List (Str × Addr)) (fp : List Addr), PGp (X.blk s H scope (compEnvC scope cl C X.env) fp) pn tg p) ∧
      (∀ (s : Shared) (H : Hp) (C : Addr) (cl : List (Str × Addr)) (fp : List Addr), PTst (X.blk s H scope (compEnvC scope cl C X.env) fp) pn ifs ct) ∧
      (∀ (s : Shared) (H : Hp) (C : Addr) (cl : List (Str × Addr)) (fp : List Addr), PEw (X.blk s H scope (compEnvC scope cl C X.env) fp) pn kx fk) ∧
      (∀ (s : Shared) (H : Hp) (C : Addr) (cl : List (Str × Addr)) (fp : List Addr), PEw (X.blk s H scope (compEnvC scope cl C X.env) fp) pn vx fe) ∧ (∀ x, foldedSetIterable it X.env x = pure x) := by
  unfold trDc at h
  split at h
  · rename_i own ho
    split at h
    · rename_i hc
      simp only [Bool.and_eq_true, decide_eq_true_eq, List.all_eq_true, Bool.not_eq_true'] at hc
      obtain ⟨⟨rfl, hb⟩, hio⟩ := hc
      have ok : BlkOk X.N X.env.scope scope own := by
        rw [G.N, G.sc]; exact blkOk_by hb
      have hfr : ∀ i ∈ own.map (·.2), Kp.free ⟨X.K, pn⟩ i := fun i hi p hp e => by
        obtain ⟨q, hq, rfl⟩ := List.mem_map.mp hi
        have h1 := hio q hq
        have h2 := G.pn p hp
        rw [e] at h2
        have : c.io.contains q.2 = true := by simpa using h2
        rw [h1] at this
        cases this
      split at h
      · rename_i fi p fk fv h1 h2 h3 h4
        split at h
        · rename_i hsl
          simp only [List.all_eq_true] at hsl
          have hsl : ∀ j ∈ p.slots, j ∈ own.map (·.2) := fun j hj => by simpa using hsl j hj
          obtain ⟨i1, i2⟩ := S.it G h1
          split at h
          · cases h
            exact ⟨fi Φ, p, _, _, _, own, rfl, rfl, i1, ok, hsl, hfr, fun s H C cl fp => (G.blk ok.kind s H C cl fp).pat h2, fun s H C cl fp => ts_nil, fun s H C cl fp => (S.e (G.blk ok.kind s H C cl fp) h3).w, fun s H C cl fp => (S.e (G.blk ok.kind s H C cl fp) h4).w, notSet_is i2⟩
          · cases h
        · cases h
      · cases h
    · cases h
  · cases h
theorem snd_ts {ifs : List Expr} {f : Phi → DT} (h : trTs (n + 1) c ifs = some f) : PTst X pn ifs (f Φ) := by
  unfold trTs at h
  split at h
  · cases h; exact ts_nil
  · exact ts_one (S.t G h)
  · cases h
theorem snd_lc2 {elt tg it tg1 it1 : Expr} {ifs ifs1 : List Expr} {k k1 : Int} {scope : Scope} {f : Phi → DE} (h : trLc2 (n + 1) c elt tg it ifs k tg1 it1 ifs1 k1 scope = some f) :
    ∃ (fi fi1 : DV) (p p1 : Pat) (ct ct1 : DT) (fe : DW) (own : List (Str × Nat)), k = 0 ∧ k1 = 0 ∧ f Φ = fLc2 fi p ct fi1 p1 ct1 fe (own.map (·.2)) p1.slots ∧ PIi X pn tg it fi ∧ BlkOk X.N X.env.scope scope own ∧ (∀ j ∈ p.slots, j ∈ own.map (·.2)) ∧ (∀ j ∈ p1.slots, j ∈ own.map (·.2)) ∧ (∀ i ∈ own.map (·.2), Kp.free ⟨X.K, pn⟩ i) ∧
      (∀ (s : Shared) (H : Hp) (C : Addr) (cl : List (Str × Addr)) (fp : List Addr), PGp (X.blk s H scope (compEnvC scope cl C X.env) fp) pn tg p) ∧
      (∀ (s : Shared) (H : Hp) (C : Addr) (cl : List (Str × Addr)) (fp : List Addr), PTst (X.blk s H scope (compEnvC scope cl C X.env) fp) pn ifs ct) ∧
      (∀ (s : Shared) (H : Hp) (C : Addr) (cl : List (Str × Addr)) (fp : List Addr), PIi (X.blk s H scope (compEnvC scope cl C X.env) fp) pn tg1 it1 fi1) ∧
      (∀ (s : Shared) (H : Hp) (C : Addr) (cl : List (Str × Addr)) (fp : List Addr), PGp (X.blk s H scope (compEnvC scope cl C X.env) fp) pn tg1 p1) ∧
      (∀ (s : Shared) (H : Hp) (C : Addr) (cl : List (Str × Addr)) (fp : List Addr), PTst (X.blk s H scope (compEnvC scope cl C X.env) fp) pn ifs1 ct1) ∧
      (∀ (s : Shared) (H : Hp) (C : Addr) (cl : List (Str × Addr)) (fp : List Addr), PEw (X.blk s H scope (compEnvC scope cl C X.env) fp) pn elt fe) ∧ (∀ x, foldedSetIterable it X.env x = pure x) ∧ (∀ env x, foldedSetIterable it1 env x = pure x) := by
  unfold trLc2 at h
  split at h
  · rename_i own ho
    split at h
    · rename_i hc
      simp only [Bool.and_eq_true, decide_eq_true_eq, List.all_eq_true, Bool.not_eq_true'] at hc
      obtain ⟨⟨⟨rfl, rfl⟩, hb⟩, hio⟩ := hc
      have ok : BlkOk X.N X.env.scope scope own := by
        rw [G.N, G.sc]; exact blkOk_by hb
      have hfr : ∀ i ∈ own.map (·.2), Kp.free ⟨X.K, pn⟩ i := fun i hi p hp e => by
        obtain ⟨q, hq, rfl⟩ := List.mem_map.mp hi
        have h1 := hio q hq
        have h2 := G.pn p hp
        rw [e] at h2
        have : c.io.contains q.2 = true := by simpa using h2
        rw [h1] at this
        cases this
      split at h
      · rename_i fi p ft fi1 p1 ft1 fe h1 h2 h3 h4 h5 h6 h7
        split at h
        · rename_i hsl
          simp only [Bool.and_eq_true, List.all_eq_true] at hsl
          have hsl1 : ∀ j ∈ p.slots, j ∈ own.map (·.2) := fun j hj => by simpa using hsl.1 j hj
          have hsl2 : ∀ j ∈ p1.slots, j ∈ own.map (·.2) := fun j hj => by simpa using hsl.2 j hj
          obtain ⟨i1, i2⟩ := S.it G h1
          cases h
          refine ⟨fi Φ, fi1 Φ, p, p1, _, _, _, own, rfl, rfl, rfl, i1, ok, hsl1, hsl2, hfr, fun s H C cl fp => (G.blk ok.kind s H C cl fp).pat h2, fun s H C cl fp => S.ts (G.blk ok.kind s H C cl fp) h3, fun s H C cl fp => (S.it (G.blk ok.kind s H C cl fp) h4).1, fun s H C cl fp => (G.blk ok.kind s H C cl fp).pat h5, fun s H C cl fp => S.ts (G.blk ok.kind s H C cl fp) h6, fun s H C cl fp => (S.e (G.blk ok.kind s H C cl fp) h7).w, notSet_is i2, fun env => notSet_is ?_⟩
          exact it_notSet h4
        · cases h
      · cases h
    · cases h
  · cases h
theorem snd_e {e : Expr} {f : Phi → DE} (h : trE (n + 1) c e = some f) : PEe X pn e (f Φ) := by
  unfold trE at h
  split at h
  · cases h; exact e_int
  · cases h; exact e_bl
  · cases h; exact e_non
  · cases h; exact e_str
  · split at h
    · rename_i i h1
      cases h
      obtain ⟨a, b, d, e⟩ := G.slot h1
      exact e_var a b d e
    · split at h
      · rename_i hg
        split at h
        · rename_i d h2
          cases h
          exact e_con G hg h2
        · cases h
      · cases h
  · split at h
    · rename_i g h1
      cases h
      exact e_tup (S.v G h1)
    · cases h
  · split at h
    · rename_i g h1
      cases h
      exact e_lst (S.v G h1)
    · cases h
  · split at h
    · rename_i f g q h1 h2 h3
      cases h
      obtain ⟨r, q1, q2⟩ := bin_ok (X := X) h3
      exact e_bin q1 q2 (S.o G h1) (S.o G h2)
    · cases h
  · split at h
    · rename_i g h1
      cases h
      obtain ⟨r, q1, q2⟩ := u_neg (X := X)
      exact e_un q1 q2 (S.o G h1)
    · cases h
  · split at h
    · rename_i g h1
      cases h
      exact e_not (S.e G h1)
    · cases h
  · exact S.bv G h
  · split at h
    · rename_i f g q h1 h2 h3
      cases h
      exact e_if (S.t G h1) (S.e G h2) (S.e G h3)
    · cases h
  · split at h
    · rename_i f g h1 h2
      split at h
      · cases h
      · rename_i hm
        cases h
        obtain ⟨r, q1, q2⟩ := cmp_ok (X := X) G.un _
        exact e_cmp q1 q2 (S.o G h1) (S.o G h2) (by simpa using hm)
    · cases h
  · split at h
    · rename_i f g h1 h2
      split at h
      · cases h
      · rename_i hm
        cases h
        exact e_chain (S.o G h1) (S.ch G h2) (by simpa using hm)
    · cases h
  · split at h
    · rename_i f g q h1 h2 h3
      cases h
      exact e_slice (S.o G h1) (S.pt G h2) (S.pt G h3)
    · cases h
  · split at h
    · rename_i f g q h1 h2 h3
      split at h
      · cases h
      · rename_i hst
        cases h
        have hst : ¬ _ := hst
        rw [Bool.or_eq_true, not_or] at hst
        exact e_stepT (by simpa using hst.1) (by simpa using hst.2) (S.o G h1) (S.pt G h2) (S.pt G h3)
    · cases h
  · split at h
    · rename_i f g q h1 h2 h3
      split at h
      · cases h
      · rename_i hst
        cases h
        have hst : ¬ _ := hst
        rw [Bool.or_eq_true, not_or] at hst
        exact e_stepN (by simpa using hst.1) (by simpa using hst.2) (S.o G h1) (S.pt G h2) (S.pt G h3)
    · cases h
  · split at h
    · rename_i hp
      split at h
      · rename_i i hd
        split at h
        · rename_i g h1
          cases h
          unfold dicOf at hd
          split at hd
          · split at hd
            · obtain ⟨a, b, d, e⟩ := G.slot hd
              exact e_dget G.un a b d e (S.e G h1).w (noSl_ix hp)
            · cases hd
          · cases hd
        · cases h
      · split at h
        · rename_i f g h1 h2
          cases h
          obtain ⟨r, q1, q2⟩ := i_ix (X := X)
          exact e_ix q1 q2 (S.o G h1) (S.o G h2) (plain_ix hp)
        · cases h
    · cases h
  · cases h; exact e_dict0
  · obtain ⟨fi, p, ct, fk, fe, own, rfl, e1, hi, ok, hp, hfr, hg, ht, hk, he, hs⟩ := S.dc G h
    rw [e1]
    exact peMono (pe_dc G.calm G.nd hi ok hg ht hk he hs) fun _ _ _ => rd_dc hp hfr
  · obtain ⟨fi, p, ct, fe, own, rfl, e1, hi, ok, hp, hfr, hg, ht, he, hs⟩ := S.lc G h
    rw [e1]
    exact e_lc G.calm G.nd hi ok hp hfr hg ht he hs
  · obtain ⟨fi, fi1, p, p1, ct, ct1, fe, own, rfl, rfl, e1, hi, ok, hp, hp1, hfr, hg, ht, hi1, hg1, ht1, he, hs, hs1⟩ := S.lc2 G h
    rw [e1]
    exact e_lc2 G.calm G.nd hi ok hp hp1 hfr hg ht hi1 hg1 ht1 he hs hs1
  · exact S.call G h
  · split at h
    · rename_i hc
      simp only [Bool.and_eq_true, decide_eq_true_eq, Bool.not_eq_true'] at hc
      obtain ⟨⟨rfl, hl⟩, hs⟩ := hc
      split at h
      · rename_i i f h1 h2
        cases h
        obtain ⟨a, b, d, e⟩ := G.slot h1
        exact e_app a b d e (S.e G h2).w (star_cons hs) hl
      · cases h
    · split at h
      · rename_i hc
        simp only [Bool.and_eq_true, decide_eq_true_eq, Bool.not_eq_true'] at hc
        obtain ⟨⟨⟨rfl, hl⟩, hs⟩, _⟩ := hc
        split at h
        · rename_i i f h1 h2
          cases h
          obtain ⟨a, b, d, e⟩ := G.slot h1
          exact e_cntI a b d e (S.e G h2).w (star_cons hs) hl
        · cases h
      · split at h
        · rename_i hc
          simp only [Bool.and_eq_true, decide_eq_true_eq, Bool.not_eq_true'] at hc
          obtain ⟨⟨rfl, hl⟩, hs⟩ := hc
          split at h
          · rename_i i f h1 h2
            cases h
            obtain ⟨a, b, d, e⟩ := G.slot h1
            exact e_idx a b d e (S.e G h2).w (star_cons hs) hl
          · cases h
        · cases h
  · split at h
    · rename_i hc
      simp only [Bool.and_eq_true, decide_eq_true_eq, Bool.not_eq_true'] at hc
      obtain ⟨⟨rfl, hl⟩, hs⟩ := hc
      split at h
      · rename_i g f h1 h2
        cases h
        exact e_cntS (S.e G h1).w (S.e G h2).w (by unfold attributeBase; split <;> first | rfl | (rename_i q; cases q)) (star_cons hs) hl
      · cases h
    · cases h
  · split at h
    · rename_i hc
      simp only [Bool.and_eq_true, decide_eq_true_eq, Bool.not_eq_true'] at hc
      obtain ⟨⟨⟨rfl, hl⟩, hs⟩, hs'⟩ := hc
      split at h
      · rename_i i f g h1 h2 h3
        cases h
        obtain ⟨a, b, d, e⟩ := G.slot h1
        refine e_dgetOr G.un a b d e (S.e G h2).w (S.e G h3).w ⟨rfl, ?_, hl, ?_⟩
        · rw [star_cons hs, star_cons hs']; rfl
        · rw [star_cons hs, star_cons hs']; rfl
      · cases h
    · cases h
  · cases h
end
theorem snd : ∀ n, Snd n
  | 0 => by
    refine ⟨?_, ?_, ?_, ?_, ?_, ?_, ?_, ?_, ?_, ?_, ?_, ?_, ?_, ?_, ?_, ?_, ?_, ?_⟩
    · intro c X pn Φ G e f h; unfold trE at h; cases h
    · intro c X pn Φ G e f h; unfold trO at h; cases h
    · intro c X pn Φ G e f h; unfold trV at h; cases h
    · intro c X pn Φ G e f h; unfold trAo at h; cases h
    · intro c X pn Φ G op e f pos h; unfold trBV at h; cases h
    · intro c X pn Φ G op e f pos h; unfold trBT at h; cases h
    · intro c X pn Φ G e f h; unfold trT at h; cases h
    · intro c X pn Φ G ops e f h; unfold trC at h; cases h
    · intro c X pn Φ G e f h; unfold trPt at h; cases h
    · intro c X pn Φ G e f h; unfold trRg at h; cases h
    · intro c X pn Φ G tg e f h; unfold trI at h; cases h
    · intro c X pn Φ G io e f h; unfold trArgs at h; cases h
    · intro c X pn Φ G x e f p pos h; unfold trCall at h; cases h
    · intro c X pn Φ G x e f p pos h; unfold trBlt at h; cases h
    · intro c X pn Φ G elt tg it ifs k scope f h; unfold trLc at h; cases h
    · intro c X pn Φ G kx vx tg it ifs k scope f h; unfold trDc at h; cases h
    · intro c X pn Φ G ifs f h; unfold trTs at h; cases h
    · intro c X pn Φ G elt tg it tg1 it1 ifs ifs1 k k1 scope f h; unfold trLc2 at h; cases h
  | n + 1 => 
    have S := snd n
    ⟨snd_e S, snd_o S, snd_v S, snd_ao S, snd_bv S, snd_bt S, snd_t S, snd_ch S, snd_pt S, snd_rg S, snd_it S, snd_args S, snd_call S, snd_blt S, snd_lc S, snd_dc S, snd_ts S, snd_lc2 S⟩
end Ev
end
/-! ## Ev17 -/
section
set_option Elab.async false
set_option linter.all false
set_option maxRecDepth 100000
set_option maxHeartbeats 1000000
/-! Ev17: the meaning is sound: statements. -/
namespace Ev
open PySem L2
structure SndS (n : Nat) : Prop where
  s : ∀ {c : Cs} {X : Cx} {pn : List (Nat × Addr)} {Φ : Phi} (_ : Good c X pn Φ) {s : Stmt} {f : Phi → DS}, trS n c s = some f → PSd X pn s (f Φ)
  ss : ∀ {c : Cs} {X : Cx} {pn : List (Nat × Addr)} {Φ : Phi} (_ : Good c X pn Φ) {s : List Stmt} {f : Phi → DS}, trSs n c s = some f → PSsd X pn s (f Φ)
theorem sole_is {t e : Expr} {env : Env} {l : Nat} (h : notComp e = true) : swapsWithSole [t] e l env = pure false := by
  unfold swapsWithSole
  exact notComp_is h
theorem ite_no {α : Type} {p : Prop} [Decidable p] {a b r : α} (h : (if p then a else b) = r) (ha : a ≠ r) : ¬ p ∧ b = r := by
  by_cases q : p
  · rw [if_pos q] at h; exact (ha h).elim
  · rw [if_neg q] at h; exact ⟨q, h⟩
theorem swapN2 {c : Cs} {x y : Str} {p1 p2 : Pos} {vs : List Expr} {nm : List Str} (h : swapN c [.Name x p1, .Name y p2] vs = some (some nm)) : nm = [x, y] ∧ c.kind x = some .local ∧ c.kind y = some .local := by
  unfold swapN at h
  obtain ⟨_, h⟩ := ite_no h (by simp)
  obtain ⟨_, h⟩ := ite_no h (by simp)
  obtain ⟨hn, h⟩ := ite_no h (by simp)
  obtain ⟨_, h⟩ := ite_no h (by simp)
  obtain ⟨_, h⟩ := ite_no h (by simp)
  cases h
  simp only [Bool.or_eq_true, not_or] at hn
  have hn := hn.1
  simp only [List.filterMap_cons, List.filterMap_nil] at hn ⊢
  by_cases q1 : (c.kind x == some NameKind.local && p1.line == (Option.map (fun x => x.pos.line) [Expr.Name x p1, Expr.Name y p2].head?).getD 0) = true
  · by_cases q2 : (c.kind y == some NameKind.local && p2.line == (Option.map (fun x => x.pos.line) [Expr.Name x p1, Expr.Name y p2].head?).getD 0) = true
    · rw [if_pos q1, if_pos q2]
      rw [Bool.and_eq_true] at q1 q2
      exact ⟨rfl, by simpa using q1.1, by simpa using q2.1⟩
    · rw [if_pos q1, if_neg q2] at hn
      exact (hn rfl).elim
  · rw [if_neg q1] at hn
    by_cases q2 : (c.kind y == some NameKind.local && p2.line == (Option.map (fun x => x.pos.line) [Expr.Name x p1, Expr.Name y p2].head?).getD 0) = true
    · rw [if_pos q2] at hn
      exact (hn rfl).elim
    · rw [if_neg q2] at hn
      exact (hn rfl).elim
theorem filt_names {c : Cs} {l : Nat} {g : Expr → Option Str} (hg : ∀ x p, g (.Name x p) = if (c.kind x == some .local && p.line == l) = true then some x else none) {x : Str} {p : Pos} {es : List Expr} (h : (List.filterMap g (.Name x p :: es)).length = es.length + 1) :
    c.kind x = some .local ∧ List.filterMap g (.Name x p :: es) = x :: List.filterMap g es ∧ (List.filterMap g es).length = es.length := by
  have hle : (List.filterMap g es).length ≤ es.length := List.length_filterMap_le _ _
  rw [List.filterMap_cons, hg] at h ⊢
  by_cases q : (c.kind x == some NameKind.local && p.line == l) = true
  · rw [if_pos q] at h ⊢
    rw [Bool.and_eq_true] at q
    exact ⟨by simpa using q.1, rfl, by simpa using h⟩
  · rw [if_neg q] at h
    have h : (List.filterMap g es).length = es.length + 1 := h
    omega
theorem swapN3 {c : Cs} {x y z : Str} {p1 p2 p3 : Pos} {vs : List Expr} {nm : List Str} (h : swapN c [.Name x p1, .Name y p2, .Name z p3] vs = some (some nm)) : nm = [x, y, z] ∧ c.kind x = some .local ∧ c.kind y = some .local ∧ c.kind z = some .local := by
  unfold swapN at h
  obtain ⟨_, h⟩ := ite_no h (by simp)
  obtain ⟨_, h⟩ := ite_no h (by simp)
  obtain ⟨hn, h⟩ := ite_no h (by simp)
  obtain ⟨_, h⟩ := ite_no h (by simp)
  obtain ⟨_, h⟩ := ite_no h (by simp)
  cases h
  simp only [Bool.or_eq_true, not_or] at hn
  have hn := hn.1
  have hl := hn
  simp only [bne_iff_ne, ne_eq, Classical.not_not] at hl
  obtain ⟨k1, e1, l1⟩ := filt_names (c := c) (fun x p => rfl) hl
  obtain ⟨k2, e2, l2⟩ := filt_names (c := c) (fun x p => rfl) l1
  obtain ⟨k3, e3, l3⟩ := filt_names (c := c) (fun x p => rfl) l2
  rw [e1, e2, e3]
  exact ⟨rfl, k1, k2, k3⟩
section
variable {n : Nat} {c : Cs} {X : Cx} {pn : List (Nat × Addr)} {Φ : Phi} (G : Good c X pn Φ)
include G
theorem pass_own : PassesOwn (model X.prog X.w) X.A X.env X.xe := by
  rw [G.xe]
  exact PassesOwn.never
theorem s_asgAny {x : Str} {p pos : Pos} {e : Expr} {i : Nat} {f : Phi → DE} (hi : c.tgt x = some i) (he : trE n c e = some f) : PSd X pn (.Assign [.Name x p] e pos) (fAsg i (f Φ)) := by
  obtain ⟨h1, h2, h3, h4⟩ := G.tgt hi
  by_cases hc : notComp e = true
  · exact s_set h4 G.nd h1 h2 ((snd n).e G he) (notComp_is hc) h3
  · cases e with
    | ListComp elt gs scope pos' =>
      have sw : ∃ b, swapsWith (.ListComp elt gs scope pos') (some (.Name x p)) pos.line X.env = pure b ∧ (b = true → X.env.scope.names.lookup x = some .local) := by
        refine ⟨_, rfl, fun hb => ?_⟩
        simp only [Bool.and_eq_true] at hb
        obtain ⟨⟨⟨_, hb⟩, _⟩, _⟩ := hb
        have hb : X.env.kindOf x = some .local := by simpa using hb
        exact hb
      obtain ⟨b, hb, hl⟩ := sw
      cases b with
      | false => exact s_set h4 G.nd h1 h2 ((snd n).e G he) hb h3
      | true =>
        cases n with
        | zero => unfold trE at he; cases he
        | succ n =>
        match gs, he, hb with
        | [⟨tg, it, ifs, k⟩], he, hb =>
          have he : trLc n c elt tg it ifs k scope = some f := he
          obtain ⟨fi, p, ct, fe, own, rfl, e1, hi, ok, hp, hfr, hg, ht, he, hs⟩ := (snd n).lc G he
          rw [e1]
          exact psMono (ps_setLc G.calm G.nd h1 (hl rfl) hb hi ok hg ht he hs) fun D σ H h => rd_lc hp hfr (rd_asg h4 h)
        | [⟨tg, it, ifs, k⟩, ⟨tg1, it1, ifs1, k1⟩], he, hb =>
          have he : trLc2 n c elt tg it ifs k tg1 it1 ifs1 k1 scope = some f := he
          obtain ⟨fi, fi1, p, p1, ct, ct1, fe, own, rfl, rfl, e1, hi, ok, hp, hp1, hfr, hg, ht, hi1, hg1, ht1, he, hs, hs1⟩ := (snd n).lc2 G he
          rw [e1]
          exact psMono (ps_setLc2 G.calm G.nd h1 (hl rfl) hb hi ok hp1 hg ht hi1 hg1 ht1 he hs hs1) fun D σ H h => rd_lc2 hp (fun _ h => h) hp1 hfr (rd_asg h4 h)
        | [], he, _ => cases (show none = some f from he)
        | ⟨_, _, _, _⟩ :: ⟨_, _, _, _⟩ :: _ :: _, he, _ => cases (show none = some f from he)
    | SetComp elt gs scope pos' => cases n with
      | zero => unfold trE at he; cases he
      | succ n => cases (show none = some f from he)
    | DictComp kx vx gs scope pos' =>
      have sw : ∃ b, swapsWith (.DictComp kx vx gs scope pos') (some (.Name x p)) pos.line X.env = pure b ∧ (b = true → X.env.scope.names.lookup x = some .local) := by
        refine ⟨_, rfl, fun hb => ?_⟩
        simp only [Bool.and_eq_true] at hb
        obtain ⟨⟨⟨_, hb⟩, _⟩, _⟩ := hb
        have hb : X.env.kindOf x = some .local := by simpa using hb
        exact hb
      obtain ⟨b, hb, hl⟩ := sw
      cases b with
      | false => exact s_set h4 G.nd h1 h2 ((snd n).e G he) hb h3
      | true =>
        cases n with
        | zero => unfold trE at he; cases he
        | succ n =>
        match gs, he, hb with
        | [⟨tg, it, ifs, k⟩], he, hb =>
          have he : trDc n c kx vx tg it ifs k scope = some f := he
          obtain ⟨fi, p, ct, fk, fe, own, rfl, e1, hi, ok, hp, hfr, hg, ht, hk, he, hs⟩ := (snd n).dc G he
          rw [e1]
          exact psMono (ps_setDc G.calm G.nd h1 (hl rfl) hb hi ok hg ht hk he hs) fun D σ H h => rd_dc hp hfr (rd_asg h4 h)
        | [], he, _ => cases (show none = some f from he)
        | ⟨_, _, _, _⟩ :: _ :: _, he, _ => cases (show none = some f from he)
    | _ => exact (hc rfl).elim
theorem snd_s {n : Nat} (S : SndS n) {s : Stmt} {f : Phi → DS} (h : trS (n + 1) c s = some f) : PSd X pn s (f Φ) := by
  have E := snd n
  unfold trS at h
  split at h
  · cases h; exact s_pass
  · cases h; exact s_brk
  · cases h; exact s_cont
  · cases h; exact s_stuck
  · cases h; exact s_ret0
  · split at h
    · split at h
      · rename_i i h1
        cases h
        obtain ⟨a, b, d, e⟩ := G.slot h1
        exact s_retN a b d e
      · split at h
        · rename_i g h1
          cases h
          exact s_ret (E.e G h1)
        · cases h
    · split at h
      · rename_i g h1
        cases h
        exact s_ret (E.e G h1)
      · cases h
  · split at h
    · rename_i hc
      split at h
      · rename_i g h1
        cases h
        exact s_expr (E.e G h1) (notComp_is hc)
      · cases h
    · cases h
  · split at h
    · rename_i f g q h1 h2 h3
      cases h
      exact s_if (E.t G h1) (S.ss G h2) (S.ss G h3)
    · cases h
  · split at h
    · rename_i f p g h1 h2 h3
      split at h
      · rename_i hs
        cases h
        exact s_for (pass_own G) G.calm (E.it G h1).1 (G.pat h2) (S.ss G h3) (notSet_is hs)
      · cases h
    · cases h
  · split at h
    · rename_i f g h1 h2
      cases h
      exact s_while 100000 (pass_own G) (E.t G h1) (S.ss G h2)
    · cases h
  · split at h
    · split at h
      · rename_i i f h1 h2
        cases h
        exact s_asgAny G h1 h2
      · cases h
    · split at h
      · rename_i i f h1 h2
        cases h
        exact s_asgAny G h1 h2
      · cases h
  · split at h
    · rename_i hc
      split at h
      · rename_i k f g h1 h2 h3
        split at h
        · rename_i hp
          obtain ⟨a, b, d, e⟩ := G.slot h1
          split at h
          · cases h
            exact s_dput G.un a b d e (E.e G h2).w (E.e G h3).w (notComp_is hc)
          · cases h
            refine s_setIx a b d e (E.e G h2).w (E.e G h3).w (fun v => ?_) (sole_is hc) subTup_is rfl
            rename_i ix _ _ _ _ _ _ _
            cases ix <;> first | rfl | cases hp
        · cases h
      · cases h
    · cases h
  · split at h
    · rename_i hw
      split at h
      · rename_i a b d hm
        obtain ⟨rfl, n1, n2, n3⟩ := mid3_of hm
        split at h
        · rename_i i j l f g q h1 h2 h3 h4
          cases h
          obtain ⟨y1, y2⟩ := G.names h1
          exact s_unp3 y2 G.calm G.nd y1 (E.e G h2).w (E.e G h3) (E.e G h4).w (star_cons n1) (star_cons n2) (star_cons n3) (sole_is rfl) (swap_is G.kind G.sc hw) rfl
        · cases h
      · split at h
        · rename_i pt f h1 h2
          cases h
          exact s_unp (E.e G h2).w (G.pat h1) (sole_is rfl) (swap_is G.kind G.sc hw) rfl
        · cases h
    · rename_i nm hw
      split at h
      · rename_i x p1 y p2 a b _ 
        split at h
        · rename_i i j f g h1 h2 h3 h4
          split at h
          · cases h
          · rename_i hn
            cases h
            simp only [Bool.or_eq_true, decide_eq_true_eq, not_or, Bool.not_eq_true] at hn
            obtain ⟨⟨n1, n2⟩, n3⟩ := hn
            obtain ⟨rfl, k1, k2⟩ := swapN2 hw
            obtain ⟨a1, _, _, a4⟩ := G.tgt h1
            obtain ⟨b1, _, _, b4⟩ := G.tgt h2
            exact s_par a4 b4 G.calm G.nd a1 b1 n3 (by rw [G.sc]; exact k1) (by rw [G.sc]; exact k2) (E.e G h3) (E.e G h4) (star_cons n1) (star_cons n2) (swap_is G.kind G.sc hw)
        · cases h
      · rename_i x p1 y p2 z p3 a b d _
        split at h
        · rename_i i j l f g q h1 h2 h3 h4 h5 h6
          split at h
          · cases h
          · rename_i hn
            cases h
            simp only [Bool.or_eq_true, decide_eq_true_eq, not_or, Bool.not_eq_true] at hn
            obtain ⟨⟨⟨⟨⟨n1, n2⟩, n3⟩, n4⟩, n5⟩, n6⟩ := hn
            obtain ⟨rfl, k1, k2, k3⟩ := swapN3 hw
            obtain ⟨a1, _, _, a4⟩ := G.tgt h1
            obtain ⟨b1, _, _, b4⟩ := G.tgt h2
            obtain ⟨c1, _, _, c4⟩ := G.tgt h3
            exact s_par3 a4 b4 c4 G.calm G.nd a1 b1 c1 n4 n5 n6 (by rw [G.sc]; exact k1) (by rw [G.sc]; exact k2) (by rw [G.sc]; exact k3) (E.e G h4).w (E.e G h5).w (E.e G h6).w (star_cons n1) (star_cons n2) (star_cons n3) (swap_is G.kind G.sc hw)
        · cases h
      · cases h
    · cases h
  · split at h
    · rename_i hc
      rw [Bool.and_eq_true, Bool.not_eq_true'] at hc
      split at h
      · rename_i pt f h1 h2
        cases h
        exact s_unp (E.e G h2).w (G.pat h1) (sole_is hc.1) (notTup_is hc.2) rfl
      · cases h
    · cases h
  · cases h
theorem snd_ss {n : Nat} (S : SndS n) {s : List Stmt} {f : Phi → DS} (h : trSs (n + 1) c s = some f) : PSsd X pn s (f Φ) := by
  unfold trSs at h
  split at h
  · cases h; exact ss_nil
  · split at h
    · rename_i g h1
      split at h
      · rename_i f h2
        cases h
        exact ss_cons (S.s G h2) (S.ss G h1)
      · cases h
        exact ss_cons s_stuck (S.ss G h1)
    · cases h
end
theorem sndS : ∀ n, SndS n
  | 0 => by
    refine ⟨?_, ?_⟩
    · intro c X pn Φ G e f h; unfold trS at h; cases h
    · intro c X pn Φ G e f h; unfold trSs at h; cases h
  | n + 1 =>
    have S := sndS n
    ⟨fun G _ _ h => snd_s G S h, fun G _ _ h => snd_ss G S h⟩
end Ev
end
/-! ## Ev18 -/
section
set_option Elab.async false
set_option linter.all false
set_option maxRecDepth 100000
set_option maxHeartbeats 1000000
/-! Ev18: defs. -/
namespace Ev
open PySem L2
def flagsOk : List Bool → List Sl → Bool
  | [], [] => true
  | true :: bs, ⟨true, _⟩ :: ss => flagsOk bs ss
  | false :: bs, ⟨false, _⟩ :: ss => flagsOk bs ss
  | _, _ => false
def ioIx : List Bool → Nat → List Nat
  | [], _ => []
  | true :: bs, i => i :: ioIx bs (i + 1)
  | false :: bs, i => ioIx bs (i + 1)
theorem flags_ix : ∀ {io : List Bool} {ss : List Sl} {i j : Nat} {d : D}, flagsOk io ss = true → ss[j]? = some (Sl.mk true d) → i + j ∈ ioIx io i
  | [], [], i, j, d, _, h => by simp at h
  | true :: bs, ⟨true, _⟩ :: ss, i, j, d, hf, h => by
    cases j with
    | zero => simp [ioIx]
    | succ j =>
      have := flags_ix (i := i + 1) (j := j) (d := d) (show flagsOk bs ss = true from hf) (by simpa using h)
      simp only [ioIx, List.mem_cons]
      right
      have e : i + (j + 1) = i + 1 + j := by omega
      rw [e]; exact this
  | false :: bs, ⟨false, _⟩ :: ss, i, j, d, hf, h => by
    cases j with
    | zero => simp at h
    | succ j =>
      have := flags_ix (i := i + 1) (j := j) (d := d) (show flagsOk bs ss = true from hf) (by simpa using h)
      simp only [ioIx]
      have e : i + (j + 1) = i + 1 + j := by omega
      rw [e]; exact this
  | true :: bs, ⟨false, _⟩ :: ss, i, j, d, hf, h => by cases hf
  | false :: bs, ⟨true, _⟩ :: ss, i, j, d, hf, h => by cases hf
  | _ :: _, [], i, j, d, hf, h => by simp at h
  | [], _ :: _, i, j, d, hf, h => by simp [flagsOk] at hf
/-- the promise takes its arguments as io tells -/
def gate (io : List Bool) (φ : CallD) : CallD := fun sls => match flagsOk io sls with
  | true => φ sls
  | false => none
theorem gate_reads {K : PySem.W.Frag} {n : Nat} {io : List Bool} {N : List Str} {body : DS} {vs : List V} {H : Hp} {Q : VK} {E : XK} (h : spD K n (gate io (defD N.length body)) vs H Q E) :
    ∃ pn : List (Nat × Addr), (∀ p ∈ pn, p.1 ∈ ioIx io 0) ∧ rdS ⟨K, pn⟩ body { nx := fun _ H' => Q .non H', rt := Q } (start N vs) H := by
  obtain ⟨hn, F, sls, e, hs, nd, fr, d, outs, ef, k⟩ := h
  have hfl : flagsOk io sls = true ∧ defD N.length body sls = some (fr, d, outs) := by
    unfold gate at ef
    split at ef
    · rename_i q; exact ⟨q, ef⟩
    · cases ef
  obtain ⟨hfl, ef⟩ := hfl
  refine ⟨pinsOf vs sls 0, fun p hp => ?_, ?_⟩
  · obtain ⟨_, _, d, h3⟩ := pins_at hs p hp
    have := flags_ix (i := 0) hfl h3
    simpa using this
  · have R := rl_start N e hs nd
    unfold defD at ef
    have fin : ∀ {F' : Hp} {σd' : SD} {σ' : L2.St} {H' : Hp} {v : V} {xs : List D} {fr : Bool} {d : D}, Rl ⟨K, pinsOf vs sls 0⟩ F' σd' σ' H' → Go F (startD N.length sls) (start N vs) H F' σd' σ' H' → outsOf sls 0 σd' = some xs →
        NewRes K H F' H' fr d v → Aft K F H (ioA vs sls) xs fr d F' H' v := fun {F' σd' σ' H' v xs fr d} R' g eo r => by
      obtain ⟨k1, k2⟩ := outs_ok R' hs (fun p hp => hp) eo
      refine ⟨g.ff, R'.fh, fun b o hb nb => g.keep b o hb fun q => nb (ownAt_start hs q), fun b o q => ?_, g.there, k1, r⟩
      rcases g.fnew b o q with z | z | z
      · exact .inl z
      · exact .inr z
      · have hm := ownAt_start hs z
        obtain ⟨i, x, y1, y2⟩ := k2 b hm
        obtain ⟨a', o', h1, h2, _⟩ := R'.own i x y1
        rw [y2] at h1; cases h1
        rw [h2] at q; cases q
    split at ef
    · rename_i σd' eb
      split at ef
      · rename_i xs eo
        cases ef
        exact ⟨F, _, R, .next, σd', eb, fun F' σ' H' R' g => k F' H' .non (fin R' g eo .non)⟩
      · cases ef
    · rename_i fr' d' σd' eb
      split at ef
      · rename_i xs eo
        cases ef
        refine ⟨F, _, R, .ret fr d, σd', eb, fun F' σ' H' v R' g r => k F' H' v (fin R' g eo ?_)⟩
        cases fr with
        | false => exact r
        | true =>
          obtain ⟨a, o, rfl, h0, hf, hh, ho, hn⟩ := r
          refine ⟨a, o, rfl, ?_, hf, hh, ho⟩
          rcases h0 with h0 | h0
          · exact h0
          · obtain ⟨_, k2⟩ := outs_ok R' hs (fun p hp => hp) eo
            exact (hn (k2 a (ownAt_start hs h0))).elim
      · cases ef
    · cases ef

/-- a def's promise, by its name -/
def OkF (P : Program) (w : World) (K : PySem.W.Frag) (mg : Str → Option Value) (base : Heap) (k : Nat) (x : Str) (n : Nat) (φ : CallD) : Prop :=
  ∃ f fd ps, FnOk P w K mg base CX0 k f fd ps (spD K n φ) ∧ mg x = some (.ref f) ∧ PySem.W.keepIn K (.ref f) = true ∧ Binds K fd ps []
structure BaseOk (K : PySem.W.Frag) (mg : Str → Option Value) (blt : List Str) (con : List (Str × D)) : Prop where
  blt : ∀ x ∈ blt, mg x = none
  con : ∀ x d, con.lookup x = some d → ∃ v u, mg x = some u ∧ RelV v u ∧ ∀ F, Dp K F v d
abbrev Tab := List (Str × Sig × CallD)
def Tab.fns (l : Tab) : List (Str × Sig) := l.map fun t => (t.1, t.2.1)
def Tab.phi (l : Tab) : Phi := fun x => match l.lookup x with
  | some t => t.2
  | none => fun _ => none
section
variable {P : Program} {w : World} {K : PySem.W.Frag} {mg : Str → Option Value} {base : Heap}
theorem OkF.mono {j k : Nat} {x : Str} {n : Nat} {φ : CallD} (h : OkF P w K mg base j x n φ) (hk : j ≤ k) : OkF P w K mg base k x n φ := by
  obtain ⟨f, fd, ps, h1, h2⟩ := h
  exact ⟨f, fd, ps, h1.mono hk, h2⟩
theorem Tab.ok {k : Nat} : ∀ {l : Tab}, (∀ t ∈ l, OkF P w K mg base k t.1 t.2.1.n t.2.2) → ∀ x sig, l.fns.lookup x = some sig → OkF P w K mg base k x sig.n (l.phi x)
  | [], _, x, sig, h => by simp [Tab.fns] at h
  | (y, s, φ) :: l, hl, x, sig, h => by
    by_cases e : x = y
    · subst e
      have e1 : Tab.phi ((x, s, φ) :: l) x = φ := by simp [Tab.phi, List.lookup]
      rw [e1]
      have e2 : sig = s := by simpa [Tab.fns, List.lookup] using h.symm
      rw [e2]
      exact hl (x, s, φ) (by simp)
    · have hb : (x == y) = false := by simpa using e
      have e1 : Tab.phi ((y, s, φ) :: l) x = Tab.phi l x := by simp [Tab.phi, List.lookup, hb]
      rw [e1]
      refine Tab.ok (l := l) (fun t ht => hl t (by simp [ht])) x sig ?_
      simpa [Tab.fns, List.lookup, hb] using h
def mkC (N : List Str) (sc : Scope) (io : List Bool) (l : Tab) (blt : List Str) (con : List (Str × D)) (dic : List Str) : Cs := ⟨N, sc, fun _ => true, ioIx io 0, l.fns, blt, con, dic⟩
theorem def_okF {x qual : Str} {st : Stmt} {f : Addr} {fd : FuncData} {N ps : List Str} {k fuel : Nat} {io : List Bool} {l : Tab} {blt : List Str} {con : List (Str × D)} {dic : List Str} {b : Phi → DS} (F : FunD K x qual (defArgs st) (defBody st) (defScope st) [] [] f fd)
    (S : FnScope N ps (defScope st)) (Bo : BaseOk K mg blt con) (hl : ∀ t ∈ l, OkF P w K mg base k t.1 t.2.1.n t.2.2)
    (hb : trSs fuel (mkC N (defScope st) io l blt con dic) (defBody st) = some b) :
    FnOk P w K mg base CX0 (k + 1) f fd ps (spD K ps.length (gate io (defD N.length (b l.phi)))) := by
  refine F.ok S (fun vs H Q E h => h.1) fun cdv A outer s H vs Q E hr h => ?_
  obtain ⟨pn, h1, h2⟩ := gate_reads h
  refine ⟨rdS ⟨K, pn⟩ (b l.phi), PSs.nox ?_, h2⟩
  have G : Good (mkC N (defScope st) io l blt con dic) (cxOf CX0 P w K mg base N qual (defScope st) f cdv A outer s H E).nox pn l.phi := by
    refine ⟨rfl, rfl, S.nd, S.kind, rfl, fun _ _ => rfl, h1, rfl, ?_, Bo.blt, Bo.con, fun x sig hx => ?_⟩
    · have := hr.un
      show (A.deeper _).units + 64 < cLine
      omega
    · obtain ⟨f', fd', ps', q1, q2, q3, q4⟩ := Tab.ok hl x sig hx
      exact ⟨k, f', fd', ps', q1, hr, q2, q3, q4⟩
  exact (sndS fuel).ss G hb
theorem okF_of {x qual : Str} {st : Stmt} {f : Addr} {fd : FuncData} {N ps : List Str} {k fuel : Nat} {io : List Bool} {l : Tab} {blt : List Str} {con : List (Str × D)} {dic : List Str} {b : Phi → DS} {φ : CallD} (F : FunD K x qual (defArgs st) (defBody st) (defScope st) [] [] f fd)
    (hm : mg x = some (.ref f)) (S : FnScope N ps (defScope st)) (hbn : Binds K fd ps []) (Bo : BaseOk K mg blt con) (hl : ∀ t ∈ l, OkF P w K mg base k t.1 t.2.1.n t.2.2)
    (hb : trSs fuel (mkC N (defScope st) io l blt con dic) (defBody st) = some b) (he : gate io (defD N.length (b l.phi)) = φ) : OkF P w K mg base (k + 1) x ps.length φ :=
  ⟨f, fd, ps, he ▸ def_okF F S Bo hl hb, hm, F.kp, hbn⟩
/-- nothing is promised -/
theorem okF_zero {x qual : Str} {st : Stmt} {f : Addr} {fd : FuncData} {ps : List Str} {k n : Nat} (F : FunD K x qual (defArgs st) (defBody st) (defScope st) [] [] f fd) (hm : mg x = some (.ref f)) (hbn : Binds K fd ps []) : OkF P w K mg base k x n (fun _ => none) :=
  have no : ∀ vs H Q E, ¬ spD K n (fun _ => none) vs H Q E := fun vs H Q E h => by
    obtain ⟨_, _, _, _, _, _, _, _, _, e, _⟩ := h
    exact absurd e (by simp)
  ⟨f, fd, ps, ⟨fun vs H Q E h => (no _ _ _ _ h).elim, fun A outer s H args us vs Q E _ _ _ _ h => (no _ _ _ _ h).elim⟩, hm, F.kp, hbn⟩
/-- the law's promise -/
def spLaw (K : PySem.W.Frag) : Sp := fun vs H Q _ => ∃ (a : Addr) (ns : List Int), vs = [.ref a] ∧ Only H ∧ SqL K H a (ns.map V.int) ∧ ∀ H', Q (.bl true) H'
end
end Ev
end
/-! ## Ev19 -/
section
set_option Elab.async false
set_option linter.all false
set_option maxRecDepth 100000
set_option maxHeartbeats 1000000
/-! Ev19: behind the head. -/
namespace Ev
open PySem L2
/-- lists of the module are forgotten -/
def isL (o : Obj) : Bool := match o.data with
  | .seq _ _ => decide (o.cls = .type "list")
  | _ => false
def dropRow (K : PySem.W.Frag) (b : Addr) : Option (Addr × Obj) := match K.lookup b with
  | some o => if isL o = true then none else some (b, o)
  | none => none
def dropL (K : PySem.W.Frag) : PySem.W.Frag := (K.map (·.1)).filterMap (dropRow K)
theorem dropL_look {K : PySem.W.Frag} {b : Addr} {o : Obj} : ∀ (as : List Addr), List.lookup b (as.filterMap (dropRow K)) = some o → K.lookup b = some o ∧ isL o = false
  | [], h => by cases h
  | a :: as, h => by
    rw [List.filterMap_cons] at h
    split at h
    · exact dropL_look as h
    · rename_i p hp
      unfold dropRow at hp
      split at hp
      · rename_i o' ho
        split at hp
        · cases hp
        · rename_i hi
          cases hp
          by_cases e : b = a
          · subst e
            rw [List.lookup_cons_self] at h
            cases h
            exact ⟨ho, by simpa using hi⟩
          · have hb : (b == a) = false := by simpa using e
            rw [List.lookup, hb] at h
            exact dropL_look as h
      · cases hp
theorem dropL_has {K : PySem.W.Frag} {b : Addr} {o : Obj} (h : K.lookup b = some o) (hi : isL o = false) : ∀ (as : List Addr), b ∈ as → List.lookup b (as.filterMap (dropRow K)) = some o
  | a :: as, hm => by
    rw [List.filterMap_cons]
    by_cases e : b = a
    · subst e
      have hr : dropRow K b = some (b, o) := by
        unfold dropRow; rw [h]; simp [hi]
      rw [hr]
      exact List.lookup_cons_self
    · have hm : b ∈ as := by
        rcases List.mem_cons.mp hm with q | q
        · exact (e q).elim
        · exact q
      have ih := dropL_has h hi as hm
      have hb : (b == a) = false := by simpa using e
      cases hr : dropRow K a with
      | none => simpa using ih
      | some p =>
        have hp : p.1 = a := by
          unfold dropRow at hr
          split at hr
          · split at hr
            · cases hr
            · cases hr; rfl
          · cases hr
        obtain ⟨p1, p2⟩ := p
        subst hp
        simp only [List.lookup, hb]
        exact ih
theorem mem_keys {K : PySem.W.Frag} {b : Addr} {o : Obj} (h : K.lookup b = some o) : b ∈ K.map (·.1) := by
  induction K with
  | nil => cases h
  | cons p K ih =>
    obtain ⟨a, q⟩ := p
    by_cases e : b = a
    · simp [e]
    · have hb : (b == a) = false := by simpa using e
      rw [List.lookup, hb] at h
      exact List.mem_cons_of_mem _ (ih h)
theorem dropL_some {K : PySem.W.Frag} {b : Addr} {o : Obj} (h : (dropL K).lookup b = some o) : K.lookup b = some o ∧ isL o = false := dropL_look _ h
theorem dropL_of {K : PySem.W.Frag} {b : Addr} {o : Obj} (h : K.lookup b = some o) (hi : isL o = false) : (dropL K).lookup b = some o := dropL_has h hi _ (mem_keys h)
theorem dropL_in {K : PySem.W.Frag} {h : Heap} (X : K.In h) : (dropL K).In h := fun b o e => X b o (dropL_some e).1
theorem dropL_rd {K : PySem.W.Frag} {H : Hp} {a : Addr} {xs : List V} (h : SqL (dropL K) H a xs) : Rd H a (.lst xs) := by
  rcases h with h | ⟨o, its, n, h1, h2, h3, h4, _⟩
  · exact h
  · have := (dropL_some h1).2
    unfold isL at this
    rw [h4] at this
    simp [h2] at this
theorem dropL_fun {K : PySem.W.Frag} {x qual : Str} {params : Arguments} {body : List Stmt} {scope : Scope} {f : Addr} {fd : FuncData} (F : FunD K x qual params body scope [] [] f fd) : FunD (dropL K) x qual params body scope [] [] f fd := by
  obtain ⟨⟨oc, od, dV, kV, doc, pm, an, cdv, ct, osl, h1, h2, h3, h4, h5⟩, kp⟩ := F
  have lk := dropL_of h2 rfl
  refine ⟨⟨oc, od, dV, kV, doc, pm, an, cdv, ct, osl, h1, lk, ?_, ?_, .inl rfl⟩, ?_⟩
  · unfold PySem.W.codeIn at h3 ⊢
    split at h3
    · split at h3
      · rename_i vs _ ho
        rw [dropL_of ho rfl]
        exact h3
      · cases h3
    · cases h3
  · rcases h4 with h4 | ⟨h4, _⟩
    · exact .inl h4
    · exact (h4 rfl).elim
  · unfold PySem.W.keepIn
    simp only [lk]
/-- the law's promise from its answer -/
theorem law_sp {K : PySem.W.Frag} {φ : CallD} {H : Hp} {a : Addr} {ns : List Int} {E : XK} (hS : SqL (dropL K) H a (ns.map V.int)) (h : φ [⟨false, .list (ns.map .int)⟩] = some (false, .bool true, [])) : spD (dropL K) 1 φ [.ref a] H (fun v _ => v = .bl true) E := by
  have hd : ∀ ns : List Int, DpAll (dropL K) H (ns.map V.int) (ns.map PyData.int) := by
    intro ns
    induction ns with
    | nil => exact .nil
    | cons n ns ih => exact .cons (.int n) ih
  refine ⟨rfl, H, [⟨false, .list (ns.map .int)⟩], Ex.refl _, .cons ?_ .nil, ?_, false, .bool true, [], h, fun F' H' v A => ?_⟩
  · exact (Dp.lst (dropL_rd hS) (hd ns) : Dp (dropL K) H _ _)
  · exact List.nodup_nil
  · have r : Dp (dropL K) F' v (.bool true) := A.res
    cases r
    rfl
/-- the defs and facts of a row, as the head tells them -/
structure HeadOk (fn : List He.DefD) (K : PySem.W.Frag) (mg : Str → Option Value) (blt : List Str) (con : List (Str × D)) : Prop where
  d : ∀ (i : Nat) (d : He.DefD), fn[i]? = some d → ∃ f fd, FunD K d.name d.qual d.params d.body d.scope [] [] f fd ∧ mg d.name = some (.ref f)
  b : BaseOk K mg blt con
def mkD (x : Str) (st : Stmt) : He.DefD := ⟨(x, none), x, x, defArgs st, defBody st, defScope st, [], []⟩
def gloFa (fn : List He.DefD) : List He.Fa := fn.map fun d => .glo d.name
def freeFa (blt : List Str) : List He.Fa := blt.map .free
def conFa (con : List (Str × Int)) : List He.Fa := con.map fun q => .int q.1 q.2
theorem head_ok {fn : List He.DefD} {blt : List Str} {con : List (Str × Int)} {K : PySem.W.Frag} {h : Heap} {mg : Str → Option Value} (X : K.In h) (G : h.Ns mainGlobals mg) (hfn : ∀ d ∈ fn, ∃ x st, d = mkD x st) (c : He.SaysD (gloFa fn ++ (freeFa blt ++ conFa con)) fn K) :
    HeadOk fn (dropL K) mg blt (con.map fun q => (q.1, .int q.2)) := by
  have ft : ∀ f ∈ gloFa fn ++ (freeFa blt ++ conFa con), f.ok K = true := fun f hf => by
    obtain ⟨i, hi⟩ := List.mem_iff_getElem?.mp hf
    exact c.fact i hi
  refine ⟨fun i d hd => ?_, ⟨fun x hx => ?_, fun x d hl => ?_⟩⟩
  · obtain ⟨fd, F⟩ := c.def_ i hd
    have hm := List.mem_of_getElem? hd
    obtain ⟨x, st, rfl⟩ := hfn d hm
    refine ⟨_, fd, dropL_fun F, ?_⟩
    exact He.glo_ok X G (ft (.glo x) (List.mem_append_left _ (List.mem_map.mpr ⟨_, hm, rfl⟩)))
  · exact He.free_ok X G (ft (.free x) (List.mem_append_right _ (List.mem_append_left _ (List.mem_map.mpr ⟨x, hx, rfl⟩))))
  · have key : ∀ l : List (Str × Int), List.lookup x (l.map fun q => (q.1, (PyData.int q.2))) = some d → ∃ i, d = .int i ∧ (x, i) ∈ l := by
      intro l
      induction l with
      | nil => intro h; cases h
      | cons q l ih =>
        intro h
        obtain ⟨y, i⟩ := q
        by_cases e : x = y
        · subst e
          simp only [List.map_cons, List.lookup_cons_self] at h
          cases h
          exact ⟨i, rfl, by simp⟩
        · have hb : (x == y) = false := by simpa using e
          simp only [List.map_cons, List.lookup, hb] at h
          obtain ⟨j, h1, h2⟩ := ih h
          exact ⟨j, h1, by simp [h2]⟩
    obtain ⟨i, rfl, hm⟩ := key con hl
    obtain ⟨t, ht⟩ := He.int_ok X G (ft (.int x i) (List.mem_append_right _ (List.mem_append_right _ (List.mem_map.mpr ⟨_, hm, rfl⟩))))
    exact ⟨.int i, _, ht, ⟨t, rfl⟩, fun F => .int i⟩
theorem allNil {α : Type} {P : α → Prop} : ∀ t ∈ ([] : List α), P t := fun _ h => by cases h
theorem allCons {α : Type} {P : α → Prop} {a : α} {l : List α} (h : P a) (hs : ∀ t ∈ l, P t) : ∀ t ∈ a :: l, P t := fun t ht => by
  rcases List.mem_cons.mp ht with rfl | ht
  · exact h
  · exact hs t ht
abbrev qAdd : Prim := pElse pAddI (pElse pCatL (pElse pCatT pAddS))
abbrev qMul : Prim := pElse pMulI (pElse pRepL (pElse pRepT (pElse pRepT1 pRepT0)))
abbrev qMin : Prim := pElse pMin2 (pElse pMinL pMinT)
abbrev qMax : Prim := pElse pMax2 (pElse pMaxL pMaxT)
abbrev qEq : Prim := pElse pEqS pEqD
abbrev qNe : Prim := pElse pNeS pNeD
abbrev qIs : Prim := pElse (pIsN false) (pIsB false)
abbrev qNot : Prim := pElse (pIsN true) (pIsB true)
abbrev qLt : Prim := pElse pLtI pLtX
abbrev qLe : Prim := pElse pLeI pLeX
abbrev qGt : Prim := pElse pGtI pGtX
abbrev qGe : Prim := pElse pGeI pGeX
abbrev qIn : Prim := pElse (pInI false) (pInX false)
abbrev qNotIn : Prim := pElse (pInI true) (pInX true)
abbrev qLen : Prim := pElse pLen pLenS
abbrev qSum : Prim := pElse pSum pSumT
end Ev
end
/-! ## EvR -/
section
set_option Elab.async false
set_option linter.all false
set_option maxRecDepth 100000
set_option maxHeartbeats 1000000
/-! EvR: the meanings step by step. -/
namespace Ev
open PySem L2
theorem call_def {io : List Bool} {n : Nat} {body : DS} {sls : List Sl} {fr : Bool} {d : D} {σ : SD} {xs : List D} (hf : flagsOk io sls = true) (hb : body (startD n sls) = some (.ret fr d, σ)) (ho : outsOf sls 0 σ = some xs) : gate io (defD n body) sls = some (fr, d, xs) := by
  unfold gate; rw [hf]; unfold defD; simp only [hb, ho]
theorem call_end {io : List Bool} {n : Nat} {body : DS} {sls : List Sl} {σ : SD} {xs : List D} (hf : flagsOk io sls = true) (hb : body (startD n sls) = some (.next, σ)) (ho : outsOf sls 0 σ = some xs) : gate io (defD n body) sls = some (false, .none, xs) := by
  unfold gate; rw [hf]; unfold defD; simp only [hb, ho]
theorem seq_next {f g : DS} {σ σ1 : SD} {r : Option (Fl × SD)} (h : f σ = some (.next, σ1)) (h2 : g σ1 = r) : fSeq f g σ = r := by
  unfold fSeq; rw [h]; exact h2
theorem seq_ret {f g : DS} {σ σ1 : SD} {fr : Bool} {d : D} (h : f σ = some (.ret fr d, σ1)) : fSeq f g σ = some (.ret fr d, σ1) := by
  unfold fSeq; rw [h]
theorem asg_ok {f : DE} {σ σ1 : SD} {i : Nat} {fr : Bool} {d : D} (h : f σ = some (fr, d, σ1)) : fAsg i f σ = some (.next, σ1.set i (some ⟨fr, d⟩)) := by
  unfold fAsg; rw [h]
theorem for_ok {it : DV} {p : Pat} {body : DS} {σ σ1 : SD} {ds : List D} {r : Option (Fl × SD)} (h : it σ = some (ds, σ1)) (h2 : forLoop p body ds σ1 = r) : fFor it p body σ = r := by
  unfold fFor; rw [h]; exact h2
theorem loop_nil {p : Pat} {body : DS} {σ : SD} : forLoop p body [] σ = some (.next, σ) := rfl
theorem loop_cons {p : Pat} {body : DS} {σ σ1 σ2 : SD} {d : D} {ds : List D} {r : Option (Fl × SD)} (h : bindP p d σ = some σ1) (h1 : body σ1 = some (.next, σ2)) (h2 : forLoop p body ds σ2 = r) : forLoop p body (d :: ds) σ = r := by
  unfold forLoop; simp only [h, h1]; exact h2
theorem range1 {f : DW} {σ σ1 : SD} {j : Int} (h : f σ = some (.int j, σ1)) (hj : small62 j = true) : iRange (vCons f vNil) σ = some (rngs 0 j.toNat, σ1) := by
  unfold iRange vCons vNil; simp only [h, hj, if_true]
theorem range2 {f g : DW} {σ σ1 σ2 : SD} {i j : Int} (h : f σ = some (.int i, σ1)) (h' : g σ1 = some (.int j, σ2)) (hi : small62 i = true) (hj : small62 j = true) : iRange (vCons f (vCons g vNil)) σ = some (rngs i (j - i).toNat, σ2) := by
  unfold iRange vCons vNil; simp only [h, h', hi, hj, Bool.and_self, if_true]
theorem ret_ok {f : DE} {σ σ1 : SD} {fr : Bool} {d : D} (h : f σ = some (fr, d, σ1)) : fRet f σ = some (.ret fr d, σ1) := by
  unfold fRet; rw [h]
theorem prim_ok {p : Prim} {a : DA} {σ σ1 : SD} {os : List Opd} {ds : List D} {fr : Bool} {d : D} (h : a σ = some (os, σ1)) (h1 : resAll σ1 os = some ds) (h2 : p ds = some (fr, d)) : fPrim p a σ = some (fr, d, σ1) := by
  unfold fPrim; simp only [h, h1, h2]
theorem ifT {t : DT} {f g : DE} {σ σ1 : SD} {r : Option (Bool × D × SD)} (h : t σ = some (true, σ1)) (h1 : f σ1 = r) : fIf t f g σ = r := by
  unfold fIf; rw [h]; exact h1
theorem ifF {t : DT} {f g : DE} {σ σ1 : SD} {r : Option (Bool × D × SD)} (h : t σ = some (false, σ1)) (h1 : g σ1 = r) : fIf t f g σ = r := by
  unfold fIf; rw [h]; exact h1
theorem ifsT {t : DT} {f g : DS} {σ σ1 : SD} {r : Option (Fl × SD)} (h : t σ = some (true, σ1)) (h1 : f σ1 = r) : fIfS t f g σ = r := by
  unfold fIfS; rw [h]; exact h1
theorem ifsF {t : DT} {f g : DS} {σ σ1 : SD} {r : Option (Fl × SD)} (h : t σ = some (false, σ1)) (h1 : g σ1 = r) : fIfS t f g σ = r := by
  unfold fIfS; rw [h]; exact h1
theorem bool_ok {f : DE} {σ σ1 : SD} {b : Bool} (h : f σ = some (false, .bool b, σ1)) : tBool f σ = some (b, σ1) := by
  unfold tBool; rw [h]
theorem vOf_f {f : DE} {σ σ1 : SD} {d : D} (h : f σ = some (false, d, σ1)) : vOf f σ = some (d, σ1) := by
  unfold vOf; rw [h]
theorem vOf_t {f : DE} {σ σ1 : SD} {ds : List D} (h : f σ = some (true, .list ds, σ1)) : vOf f σ = some (.list ds, σ1) := by
  unfold vOf; rw [h]
theorem oOf_f {f : DE} {σ σ1 : SD} {d : D} (h : f σ = some (false, d, σ1)) : oOf f σ = some (.val d, σ1) := by
  unfold oOf; rw [h]
theorem oOf_t {f : DE} {σ σ1 : SD} {d : D} (h : f σ = some (true, d, σ1)) : oOf f σ = some (.tmp d, σ1) := by
  unfold oOf; rw [h]
theorem args_cons {o : DO} {r : DA} {σ σ1 σ2 : SD} {x : Opd} {xs : List Opd} (h : o σ = some (x, σ1)) (h1 : r σ1 = some (xs, σ2)) : aCons o r σ = some (x :: xs, σ2) := by
  unfold aCons; simp only [h, h1]
theorem args_nil {σ : SD} : aNil σ = some ([], σ) := rfl
theorem else_l {p q : Prim} {ds : List D} {r : Bool × D} (h : p ds = some r) : pElse p q ds = some r := by
  unfold pElse; rw [h]
theorem else_r {p q : Prim} {ds : List D} {r : Option (Bool × D)} (h : p ds = none) (h1 : q ds = r) : pElse p q ds = r := by
  unfold pElse; rw [h]; exact h1
theorem ii_ok {c : Int → Int → Bool} {g : Int → Int → D} {i j : Int} (h : c i j = true) : pII c g [.int i, .int j] = some (false, g i j) := by
  unfold pII; simp only [h, if_true]
theorem ii0_ok {g : Int → Int → D} {i j : Int} : pII0 g [.int i, .int j] = some (false, g i j) := rfl
theorem fcall_ok {φ : CallD} {io : List Bool} {as : List Arg} {σ σ1 : SD} {os : List Opd} {sls : List Sl} {fr : Bool} {d : D} {outs : List D} (h : argsEv as σ = some (os, σ1)) (h1 : slsOf σ1 io os = some sls) (h2 : (diffs (slotsIn os) && Nat.ble (tmpsIn os) 1) = true) (h3 : φ sls = some (fr, d, outs)) :
    fCall φ io as σ = some (fr, d, writeB os outs σ1) := by
  unfold fCall; simp only [h, h1, h2, if_true, h3]
end Ev
end
/-! ## EvR2 -/
section
set_option Elab.async false
set_option linter.all false
set_option maxRecDepth 100000
set_option maxHeartbeats 1000000
/-! EvR2: more step rules. -/
namespace Ev
open PySem L2
theorem call1 {φ : CallD} {f : DW} {σ σ1 : SD} {a : D} {fr : Bool} {d : D} (ha : f σ = some (a, σ1)) (h : φ [⟨false, a⟩] = some (fr, d, [])) : fCall φ [false] (.val f :: []) σ = some (fr, d, σ1) :=
  fcall_ok (os := [.val a]) (σ1 := σ1) (sls := [⟨false, a⟩]) (by simp only [argsEv, argEv, ha]) (by simp only [slsOf]) (by simp [slotsIn, tmpsIn, diffs]) h
theorem call2 {φ : CallD} {f g : DW} {σ σ1 σ2 : SD} {a b : D} {fr : Bool} {d : D} (ha : f σ = some (a, σ1)) (hb : g σ1 = some (b, σ2)) (h : φ [⟨false, a⟩, ⟨false, b⟩] = some (fr, d, [])) : fCall φ [false, false] (.val f :: (.val g :: [])) σ = some (fr, d, σ2) :=
  fcall_ok (os := [.val a, .val b]) (σ1 := σ2) (sls := [⟨false, a⟩, ⟨false, b⟩]) (by simp only [argsEv, argEv, ha, hb]) (by simp only [slsOf]) (by simp [slotsIn, tmpsIn, diffs]) h
/-- a call with an object of one's own and a value -/
theorem callS {φ : CallD} {i : Nat} {f : DW} {σ σ1 : SD} {a x x' : D} {sl : Sl} {fr : Bool} {d : D} (h0 : σ[i]? = some (some sl)) (ha : f σ = some (a, σ1)) (h1 : σ1[i]? = some (some ⟨true, x⟩)) (h : φ [⟨true, x⟩, ⟨false, a⟩] = some (fr, d, [x'])) :
    fCall φ [true, false] (.slot i :: (.val f :: [])) σ = some (fr, d, σ1.set i (some ⟨true, x'⟩)) :=
  fcall_ok (os := [.slot i, .val a]) (σ1 := σ1) (sls := [⟨true, x⟩, ⟨false, a⟩]) (by simp only [argsEv, argEv, oSlot, h0, ha]) (by simp only [slsOf, h1]) (by simp [slotsIn, tmpsIn, diffs]) h
/-- a call with a new object and a value -/
theorem callT {φ : CallD} {t : DE} {f : DW} {σ σ1 σ2 : SD} {a x x' : D} {fr : Bool} {d : D} (ht : t σ = some (true, x, σ1)) (ha : f σ1 = some (a, σ2)) (h : φ [⟨true, x⟩, ⟨false, a⟩] = some (fr, d, [x'])) :
    fCall φ [true, false] (.tmp t :: (.val f :: [])) σ = some (fr, d, σ2) :=
  fcall_ok (os := [.tmp x, .val a]) (σ1 := σ2) (sls := [⟨true, x⟩, ⟨false, a⟩]) (by simp only [argsEv, argEv, ht, ha]) (by simp only [slsOf]) (by simp [slotsIn, tmpsIn, diffs]) h
theorem par_ok {i j : Nat} {f g : DE} {σ σ1 σ2 : SD} {fr fr' : Bool} {d d' : D} (h : f σ = some (fr, d, σ1)) (h1 : g σ1 = some (fr', d', σ2)) : fPar i j f g σ = some (.next, (σ2.set i (some ⟨fr, d⟩)).set j (some ⟨fr', d'⟩)) := by
  unfold fPar; simp only [h, h1]
theorem unp_ok {p : Pat} {f : DW} {σ σ1 σ2 : SD} {d : D} (h : f σ = some (d, σ1)) (h1 : bindP p d σ1 = some σ2) : fUnp p f σ = some (.next, σ2) := by
  unfold fUnp; simp only [h, h1]
theorem tup2 {f g : DW} {σ σ1 σ2 : SD} {a b : D} (ha : f σ = some (a, σ1)) (hb : g σ1 = some (b, σ2)) : fTup (vCons f (vCons g vNil)) σ = some (false, .tuple [a, b], σ2) := by
  simp only [fTup, vCons, vNil, ha, hb]; rfl
theorem o2 {p : Prim} {f g : DE} {σ σ1 σ2 : SD} {a b : D} {fr : Bool} {d : D} (ha : f σ = some (false, a, σ1)) (hb : g σ1 = some (false, b, σ2)) (h : p [a, b] = some (fr, d)) : fPrim p (aCons (oOf f) (aCons (oOf g) aNil)) σ = some (fr, d, σ2) := by
  simp only [fPrim, aCons, aNil, oOf, resAll, res, ha, hb, h]
theorem o2x {p : Prim} {f g : DE} {σ σ1 σ2 : SD} {a b : D} {x y fr : Bool} {d : D} (ha : f σ = some (x, a, σ1)) (hb : g σ1 = some (y, b, σ2)) (h : p [a, b] = some (fr, d)) : fPrim p (aCons (oOf f) (aCons (oOf g) aNil)) σ = some (fr, d, σ2) := by
  cases x <;> cases y <;> simp only [fPrim, aCons, aNil, oOf, resAll, res, ha, hb, h]
theorem o1x {p : Prim} {f : DE} {σ σ1 : SD} {a : D} {x fr : Bool} {d : D} (ha : f σ = some (x, a, σ1)) (h : p [a] = some (fr, d)) : fPrim p (aCons (oOf f) aNil) σ = some (fr, d, σ1) := by
  cases x <;> simp only [fPrim, aCons, aNil, oOf, resAll, res, ha, h]
theorem o1 {p : Prim} {f : DE} {σ σ1 : SD} {a : D} {fr : Bool} {d : D} (ha : f σ = some (false, a, σ1)) (h : p [a] = some (fr, d)) : fPrim p (aCons (oOf f) aNil) σ = some (fr, d, σ1) := by
  simp only [fPrim, aCons, aNil, oOf, resAll, res, ha, h]
theorem o2s {p : Prim} {f : DE} {i : Nat} {σ σ1 : SD} {a : D} {sl : Sl} {fr : Bool} {d : D} (ha : f σ = some (false, a, σ1)) (hb : σ1[i]? = some (some sl)) (h : p [a, sl.d] = some (fr, d)) : fPrim p (aCons (oOf f) (aCons (oSlot i) aNil)) σ = some (fr, d, σ1) := by
  simp only [fPrim, aCons, aNil, oOf, oSlot, resAll, res, ha, hb, h]
theorem os2 {p : Prim} {f : DE} {i : Nat} {σ σ1 : SD} {a : D} {sl sl' : Sl} {fr : Bool} {d : D} (h0 : σ[i]? = some (some sl')) (ha : f σ = some (false, a, σ1)) (hb : σ1[i]? = some (some sl)) (h : p [sl.d, a] = some (fr, d)) : fPrim p (aCons (oSlot i) (aCons (oOf f) aNil)) σ = some (fr, d, σ1) := by
  simp only [fPrim, aCons, aNil, oOf, oSlot, resAll, res, h0, ha, hb, h]
theorem oss {p : Prim} {i j : Nat} {σ : SD} {sl sl' : Sl} {fr : Bool} {d : D} (h0 : σ[i]? = some (some sl)) (h1 : σ[j]? = some (some sl')) (h : p [sl.d, sl'.d] = some (fr, d)) : fPrim p (aCons (oSlot i) (aCons (oSlot j) aNil)) σ = some (fr, d, σ) := by
  simp only [fPrim, aCons, aNil, oSlot, resAll, res, h0, h1, h]
theorem os1 {p : Prim} {i : Nat} {σ : SD} {sl : Sl} {fr : Bool} {d : D} (h0 : σ[i]? = some (some sl)) (h : p [sl.d] = some (fr, d)) : fPrim p (aCons (oSlot i) aNil) σ = some (fr, d, σ) := by
  simp only [fPrim, aCons, aNil, oSlot, resAll, res, h0, h]
theorem modP {a b : Int} (h : 0 < b) : pModI [.int a, .int b] = some (false, .int (a % b)) := ii_ok (by simpa using h)
theorem divP {a b : Int} (h : 0 < b) (h' : b < 1073741824) : pDivI [.int a, .int b] = some (false, .int (a / b)) := ii_ok (by simp [h, h'])
theorem mulP {a b : Int} (h : small64 b = true) : qMul [.int a, .int b] = some (false, .int (a * b)) := else_l (ii_ok (by rw [h, Bool.or_true]))
theorem mulP' {a b : Int} (h : small64 a = true) : qMul [.int a, .int b] = some (false, .int (a * b)) := else_l (ii_ok (by rw [h, Bool.true_or]))
theorem addP {a b : Int} : qAdd [.int a, .int b] = some (false, .int (a + b)) := else_l ii0_ok
theorem subP {a b : Int} : pSubI [.int a, .int b] = some (false, .int (a - b)) := ii0_ok
theorem ltP {a b : Int} : qLt [.int a, .int b] = some (false, .bool (decide (a < b))) := rfl
theorem leP {a b : Int} : qLe [.int a, .int b] = some (false, .bool (decide (a ≤ b))) := rfl
theorem gtP {a b : Int} : qGt [.int a, .int b] = some (false, .bool (decide (b < a))) := rfl
theorem geP {a b : Int} : qGe [.int a, .int b] = some (false, .bool (decide (b ≤ a))) := rfl
theorem int_ok {a : Int} : pInt [.int a] = some (false, .int a) := rfl
theorem s64i {a : Int} (h0 : 0 ≤ a) (h : a < 18446744073709551616) : small64 a = true := by
  simp only [small64, Bool.and_eq_true, decide_eq_true_iff]; omega
theorem abs_ok {i : Int} : ∃ c : Int, 0 ≤ c ∧ pAbs [.int i] = some (false, .int c) := by
  refine ⟨if i < 0 then -i else i, ?_, rfl⟩
  split <;> omega
theorem orF {t u : DT} {σ σ1 : SD} {r : Option (Bool × SD)} (h : t σ = some (false, σ1)) (h1 : u σ1 = r) : tOrD t u σ = r := by
  unfold tOrD; rw [h]; exact h1
theorem notT {t : DT} {σ σ1 : SD} (h : t σ = some (true, σ1)) : tNotD t σ = some (false, σ1) := by
  unfold tNotD; rw [h]; rfl
theorem truth {f : DE} {σ σ1 : SD} (h : f σ = some (false, .bool true, σ1)) : tTruth (oOf f) σ = some (true, σ1) := by
  simp only [tTruth, oOf, h, res, truthD]
theorem var_ok {σ : SD} {i : Nat} {d : D} (h : σ[i]? = some (some ⟨false, d⟩)) : fVar i σ = some (false, d, σ) := by
  simp only [fVar, h]
theorem vvar_ok {σ : SD} {i : Nat} {d : D} (h : σ[i]? = some (some ⟨false, d⟩)) : vOf (fVar i) σ = some (d, σ) := by
  simp only [vOf, fVar, h]
theorem andT {f g : DE} {σ σ1 : SD} {r : Option (Bool × D × SD)} (h : f σ = some (false, .bool true, σ1)) (h1 : g σ1 = r) : fAnd f g σ = r := by
  unfold fAnd; rw [h]; exact h1
/-! ### two numbers drawn from -/
abbrev bar (g s : Int) : D := .list [.int g, .int s]
theorem getB0 {g s : Int} {σ : SD} {b : Bool} : fPrim pIx (aCons (oSlot 0) (aCons (oOf (fLit (.int 0))) aNil)) (some ⟨b, bar g s⟩ :: σ) = some (false, .int g, some ⟨b, bar g s⟩ :: σ) := rfl
theorem getB1 {g s : Int} {σ : SD} {b : Bool} : fPrim pIx (aCons (oSlot 0) (aCons (oOf (fLit (.int 1))) aNil)) (some ⟨b, bar g s⟩ :: σ) = some (false, .int s, some ⟨b, bar g s⟩ :: σ) := rfl
theorem setB {i : Nat} {k : Int} {v : Int} {f : DW} {ix : DW} {g s : Int} {σ : SD} {r : D} (hf : f (some ⟨true, bar g s⟩ :: σ) = some (.int v, some ⟨true, bar g s⟩ :: σ)) (hx : ix (some ⟨true, bar g s⟩ :: σ) = some (.int k, some ⟨true, bar g s⟩ :: σ)) (hk : ixN 2 k = some i) (hr : r = .list (([.int g, .int s] : List D).set i (.int v))) : fSetIx 0 ix f (some ⟨true, bar g s⟩ :: σ) = some (.next, some ⟨true, r⟩ :: σ) := by
  subst hr
  simp only [fSetIx, hf, hx, oSlot, List.getElem?_cons_zero, List.length_cons, List.length_nil, hk, List.set_cons_zero]
def Good2 (g s : Int) : Prop := 0 ≤ g ∧ 0 ≤ s ∧ s ≤ 2147483648
end Ev
end
/-! ## EvR3 -/
section
set_option Elab.async false
set_option linter.all false
set_option maxRecDepth 100000
set_option maxHeartbeats 0
namespace Ev
open PySem L2
theorem callS2 {φ : CallD} {i : Nat} {f g : DW} {σ σ1 σ2 : SD} {a b x x' : D} {sl : Sl} {fr : Bool} {d : D} (h0 : σ[i]? = some (some sl)) (ha : f σ = some (a, σ1)) (hb : g σ1 = some (b, σ2)) (h1 : σ2[i]? = some (some ⟨true, x⟩)) (h : φ [⟨true, x⟩, ⟨false, a⟩, ⟨false, b⟩] = some (fr, d, [x'])) :
    fCall φ [true, false, false] (.slot i :: (.val f :: (.val g :: []))) σ = some (fr, d, σ2.set i (some ⟨true, x'⟩)) :=
  fcall_ok (os := [.slot i, .val a, .val b]) (σ1 := σ2) (sls := [⟨true, x⟩, ⟨false, a⟩, ⟨false, b⟩]) (by simp only [argsEv, argEv, oSlot, h0, ha, hb]) (by simp only [slsOf, h1]) (by simp [slotsIn, tmpsIn, diffs]) h
theorem lc_y {p : Pat} {c : DT} {elt : DW} {own : List Nat} {d e : D} {ds es : List D} {σ σ1 σ2 σ3 σ4 : SD} (h1 : bindP p d σ = some σ1) (h2 : c σ1 = some (true, σ2)) (h3 : elt σ2 = some (e, σ3)) (h4 : lcLoop p c elt own ds (wipeD σ3 own) = some (es, σ4)) :
    lcLoop p c elt own (d :: ds) σ = some (e :: es, σ4) := by
  unfold lcLoop; simp only [h1, h2, h3, h4]
theorem lc_n {p : Pat} {c : DT} {elt : DW} {own : List Nat} {d : D} {ds : List D} {σ σ1 σ2 : SD} {r : Option (List D × SD)} (h1 : bindP p d σ = some σ1) (h2 : c σ1 = some (false, σ2)) (h4 : lcLoop p c elt own ds (wipeD σ2 own) = r) :
    lcLoop p c elt own (d :: ds) σ = r := by
  conv => lhs; unfold lcLoop
  simp only [h1, h2, h4]
theorem lc_ok {it : DV} {p : Pat} {c : DT} {elt : DW} {own : List Nat} {σ σ1 σ2 σ3 : SD} {ds es : List D} (h : it σ = some (ds, σ1)) (h1 : (freeD σ1 own && okLen ds.length) = true) (h2 : lcLoop p c elt own ds (wipeD σ1 own) = some (es, σ2)) (h3 : backD σ1 σ2 own = σ3) : fLc it p c elt own σ = some (true, .list es, σ3) := by
  unfold fLc; simp only [h, h1, if_true, h2, h3]
theorem os2x {p : Prim} {f : DE} {i : Nat} {σ σ1 : SD} {a : D} {sl sl' : Sl} {x fr : Bool} {d : D} (h0 : σ[i]? = some (some sl')) (ha : f σ = some (x, a, σ1)) (hb : σ1[i]? = some (some sl)) (h : p [sl.d, a] = some (fr, d)) : fPrim p (aCons (oSlot i) (aCons (oOf f) aNil)) σ = some (fr, d, σ1) := by
  cases x <;> simp [fPrim, aCons, aNil, oSlot, oOf, h0, ha, resAll, res, hb, h]
theorem catP {a b : List D} (h : a.length + b.length ≤ 1000000) : qAdd [.list a, .list b] = some (true, .list (a ++ b)) := by
  have h1 : okLen (a.length + b.length) = true := Nat.ble_eq_true_of_le h
  simp [qAdd, pElse, pAddI, pII0, pCatL, h1]
end Ev
end
/-! ## EvK -/
noncomputable section
set_option Elab.async false
set_option linter.all false
set_option maxRecDepth 100000
set_option maxHeartbeats 1000000
/-! EvK: a strict evaluator by continuations, for the kernel; each word is sound for its meaning. -/
namespace Ev
open PySem L2

abbrev KE := SD → (Bool → D → SD → Bool) → Bool
abbrev KO := SD → (Opd → SD → Bool) → Bool
abbrev KW := SD → (D → SD → Bool) → Bool
abbrev KV := SD → (List D → SD → Bool) → Bool
abbrev KT := SD → (SD → Bool) → (SD → Bool) → Bool
abbrev KA := SD → (List D → SD → Bool) → Bool
abbrev KP := SD → (Option Int → SD → Bool) → Bool
abbrev KS := SD → (SD → Bool) → (Fl → SD → Bool) → Bool
abbrev KR := SD → (Int → Int → SD → Bool) → Bool
abbrev KC := List Sl → (Bool → D → List D → Bool) → Bool
abbrev K2 := D → D → (Bool → D → Bool) → Bool
abbrev K1 := D → (Bool → D → Bool) → Bool

def SE (f : DE) (g : KE) : Prop := ∀ σ k, g σ k = true → ∃ b d σ', f σ = some (b, d, σ') ∧ k b d σ' = true
def SO (f : DO) (g : KO) : Prop := ∀ σ k, g σ k = true → ∃ o σ', f σ = some (o, σ') ∧ k o σ' = true
def SW (f : DW) (g : KW) : Prop := ∀ σ k, g σ k = true → ∃ d σ', f σ = some (d, σ') ∧ k d σ' = true
def SV (f : DV) (g : KV) : Prop := ∀ σ k, g σ k = true → ∃ d σ', f σ = some (d, σ') ∧ k d σ' = true
def ST (f : DT) (g : KT) : Prop := ∀ σ kt kf, g σ kt kf = true → ∃ b σ', f σ = some (b, σ') ∧ (match b with | true => kt σ' | false => kf σ') = true
def SP (f : DP) (g : KP) : Prop := ∀ σ k, g σ k = true → ∃ d σ', f σ = some (d, σ') ∧ k d σ' = true
def SR (f : SD → Option (Int × Int × SD)) (g : KR) : Prop := ∀ σ k, g σ k = true → ∃ i j σ', f σ = some (i, j, σ') ∧ k i j σ' = true
def fin (kn : SD → Bool) (ko : Fl → SD → Bool) : Fl → SD → Bool
  | .next, σ => kn σ
  | fl, σ => ko fl σ
def SS (f : DS) (g : KS) : Prop := ∀ σ kn ko, g σ kn ko = true → ∃ fl σ', f σ = some (fl, σ') ∧ fin kn ko fl σ' = true
def SC (f : CallD) (g : KC) : Prop := ∀ s k, g s k = true → ∃ b d o, f s = some (b, d, o) ∧ k b d o = true
def S2 (p : Prim) (q : K2) : Prop := ∀ a b k, q a b k = true → ∃ fr d, p [a, b] = some (fr, d) ∧ k fr d = true
def S1 (p : Prim) (q : K1) : Prop := ∀ a k, q a k = true → ∃ fr d, p [a] = some (fr, d) ∧ k fr d = true

/-! ### forcing -/
def fN (n : Nat) (k : Nat → Bool) : Bool := @Nat.rec (fun _ => Bool) (k Nat.zero) (fun m _ => k (Nat.succ m)) n
theorem fN_eq (n : Nat) (k : Nat → Bool) : fN n k = k n := by cases n <;> rfl
def fI (i : Int) (k : Int → Bool) : Bool := @Int.rec (fun _ => Bool) (fun n => fN n fun n => k (Int.ofNat n)) (fun n => fN n fun n => k (Int.negSucc n)) i
theorem fI_eq (i : Int) (k : Int → Bool) : fI i k = k i := by cases i <;> simp [fI, fN_eq]
def fB (b : Bool) (k : Bool → Bool) : Bool := @Bool.rec (fun _ => Bool) (k false) (k true) b
theorem fB_eq (b : Bool) (k : Bool → Bool) : fB b k = k b := by cases b <;> rfl
def fNs (l : List Nat) : (List Nat → Bool) → Bool := @List.rec Nat (fun _ => (List Nat → Bool) → Bool) (fun k => k []) (fun n _ ih k => fN n fun n => ih fun t => k (n :: t)) l
theorem fNs_eq : ∀ (l : List Nat) (k : List Nat → Bool), fNs l k = k l
  | [], k => rfl
  | n :: l, k => by
    show (fN n fun n => fNs l fun t => k (n :: t)) = _
    rw [fN_eq, fNs_eq l]
def fSt (s : Str) (k : Str → Bool) : Bool := @Str.rec (fun _ => Bool) (fun a => @Array.rec Nat (fun _ => Bool) (fun l => fNs l fun l => k ⟨⟨l⟩⟩) a) s
theorem fSt_eq (s : Str) (k : Str → Bool) : fSt s k = k s := by
  obtain ⟨⟨l⟩⟩ := s
  show fNs l (fun l => k ⟨⟨l⟩⟩) = _
  rw [fNs_eq]
def fD (d : D) : (D → Bool) → Bool := @PyData.rec (fun _ => (D → Bool) → Bool) (fun _ => (List D → Bool) → Bool) (fun _ => (List (D × D) → Bool) → Bool) (fun _ => (D × D → Bool) → Bool)
  (fun k => k .none) (fun b k => fB b fun b => k (.bool b)) (fun i k => fI i fun i => k (.int i)) (fun s k => fSt s fun s => k (.str s))
  (fun _ ih k => ih fun xs => k (.list xs)) (fun _ ih k => ih fun xs => k (.tuple xs)) (fun _ ih k => ih fun xs => k (.dict xs))
  (fun k => k []) (fun _ _ ih iht k => ih fun h => iht fun t => k (h :: t))
  (fun k => k []) (fun _ _ ih iht k => ih fun h => iht fun t => k (h :: t))
  (fun _ _ ih ih2 k => ih fun a => ih2 fun b => k (a, b)) d
def fDs (xs : List D) : (List D → Bool) → Bool := @PyData.rec_1 (fun _ => (D → Bool) → Bool) (fun _ => (List D → Bool) → Bool) (fun _ => (List (D × D) → Bool) → Bool) (fun _ => (D × D → Bool) → Bool)
  (fun k => k .none) (fun b k => fB b fun b => k (.bool b)) (fun i k => fI i fun i => k (.int i)) (fun s k => fSt s fun s => k (.str s))
  (fun _ ih k => ih fun xs => k (.list xs)) (fun _ ih k => ih fun xs => k (.tuple xs)) (fun _ ih k => ih fun xs => k (.dict xs))
  (fun k => k []) (fun _ _ ih iht k => ih fun h => iht fun t => k (h :: t))
  (fun k => k []) (fun _ _ ih iht k => ih fun h => iht fun t => k (h :: t))
  (fun _ _ ih ih2 k => ih fun a => ih2 fun b => k (a, b)) xs
def fDps (xs : List (D × D)) : (List (D × D) → Bool) → Bool := @PyData.rec_2 (fun _ => (D → Bool) → Bool) (fun _ => (List D → Bool) → Bool) (fun _ => (List (D × D) → Bool) → Bool) (fun _ => (D × D → Bool) → Bool)
  (fun k => k .none) (fun b k => fB b fun b => k (.bool b)) (fun i k => fI i fun i => k (.int i)) (fun s k => fSt s fun s => k (.str s))
  (fun _ ih k => ih fun xs => k (.list xs)) (fun _ ih k => ih fun xs => k (.tuple xs)) (fun _ ih k => ih fun xs => k (.dict xs))
  (fun k => k []) (fun _ _ ih iht k => ih fun h => iht fun t => k (h :: t))
  (fun k => k []) (fun _ _ ih iht k => ih fun h => iht fun t => k (h :: t))
  (fun _ _ ih ih2 k => ih fun a => ih2 fun b => k (a, b)) xs
def fDp (xs : D × D) : (D × D → Bool) → Bool := @PyData.rec_3 (fun _ => (D → Bool) → Bool) (fun _ => (List D → Bool) → Bool) (fun _ => (List (D × D) → Bool) → Bool) (fun _ => (D × D → Bool) → Bool)
  (fun k => k .none) (fun b k => fB b fun b => k (.bool b)) (fun i k => fI i fun i => k (.int i)) (fun s k => fSt s fun s => k (.str s))
  (fun _ ih k => ih fun xs => k (.list xs)) (fun _ ih k => ih fun xs => k (.tuple xs)) (fun _ ih k => ih fun xs => k (.dict xs))
  (fun k => k []) (fun _ _ ih iht k => ih fun h => iht fun t => k (h :: t))
  (fun k => k []) (fun _ _ ih iht k => ih fun h => iht fun t => k (h :: t))
  (fun _ _ ih ih2 k => ih fun a => ih2 fun b => k (a, b)) xs
mutual
theorem fD_eq : ∀ (d : D) (k : D → Bool), fD d k = k d
  | .none, k => rfl
  | .bool b, k => fB_eq b fun b => k (.bool b)
  | .int b, k => fI_eq b fun b => k (.int b)
  | .str b, k => fSt_eq b fun b => k (.str b)
  | .list xs, k => fDs_eq xs fun b => k (.list b)
  | .tuple xs, k => fDs_eq xs fun b => k (.tuple b)
  | .dict xs, k => fDps_eq xs fun b => k (.dict b)
theorem fDs_eq : ∀ (d : List D) (k : List D → Bool), fDs d k = k d
  | [], k => rfl
  | h :: t, k => (fD_eq h fun h => fDs t fun t => k (h :: t)).trans (fDs_eq t fun t => k (h :: t))
theorem fDps_eq : ∀ (d : List (D × D)) (k : List (D × D) → Bool), fDps d k = k d
  | [], k => rfl
  | (a, b) :: t, k => (fD_eq a fun a => fD b fun b => fDps t fun t => k ((a, b) :: t)).trans ((fD_eq b fun b => fDps t fun t => k ((a, b) :: t)).trans (fDps_eq t fun t => k ((a, b) :: t)))
end

/-! ### looking at data -/
def cInt (k : Int → Bool) (d : D) : Bool := @PyData.rec (fun _ => Bool) (fun _ => Bool) (fun _ => Bool) (fun _ => Bool) false (fun _ => false) k (fun _ => false) (fun _ _ => false) (fun _ _ => false) (fun _ _ => false) false (fun _ _ _ _ => false) false (fun _ _ _ _ => false) (fun _ _ _ _ => false) d
theorem cInt_of {k : Int → Bool} {d : D} (h : cInt k d = true) : ∃ i, d = .int i ∧ k i = true := by
  cases d <;> first | exact ⟨_, rfl, h⟩ | cases h
def cBool (kf kt : Bool) (d : D) : Bool := @PyData.rec (fun _ => Bool) (fun _ => Bool) (fun _ => Bool) (fun _ => Bool) false (fun b => @Bool.rec (fun _ => Bool) kf kt b) (fun _ => false) (fun _ => false) (fun _ _ => false) (fun _ _ => false) (fun _ _ => false) false (fun _ _ _ _ => false) false (fun _ _ _ _ => false) (fun _ _ _ _ => false) d
theorem cBool_of {kf kt : Bool} {d : D} (h : cBool kf kt d = true) : (d = .bool true ∧ kt = true) ∨ (d = .bool false ∧ kf = true) := by
  cases d with
  | bool b => cases b with
    | true => exact .inl ⟨rfl, h⟩
    | false => exact .inr ⟨rfl, h⟩
  | _ => cases h
def cList (k : List D → Bool) (d : D) : Bool := @PyData.rec (fun _ => Bool) (fun _ => Bool) (fun _ => Bool) (fun _ => Bool) false (fun _ => false) (fun _ => false) (fun _ => false) (fun ds _ => k ds) (fun _ _ => false) (fun _ _ => false) false (fun _ _ _ _ => false) false (fun _ _ _ _ => false) (fun _ _ _ _ => false) d
theorem cList_of {k : List D → Bool} {d : D} (h : cList k d = true) : ∃ ds, d = .list ds ∧ k ds = true := by
  cases d <;> first | exact ⟨_, rfl, h⟩ | cases h
def cTup (k : List D → Bool) (d : D) : Bool := @PyData.rec (fun _ => Bool) (fun _ => Bool) (fun _ => Bool) (fun _ => Bool) false (fun _ => false) (fun _ => false) (fun _ => false) (fun _ _ => false) (fun ds _ => k ds) (fun _ _ => false) false (fun _ _ _ _ => false) false (fun _ _ _ _ => false) (fun _ _ _ _ => false) d
theorem cTup_of {k : List D → Bool} {d : D} (h : cTup k d = true) : ∃ ds, d = .tuple ds ∧ k ds = true := by
  cases d <;> first | exact ⟨_, rfl, h⟩ | cases h
/-- a list or a tuple -/
def cSeq (k : List D → Bool) (d : D) : Bool := @PyData.rec (fun _ => Bool) (fun _ => Bool) (fun _ => Bool) (fun _ => Bool) false (fun _ => false) (fun _ => false) (fun _ => false) (fun ds _ => k ds) (fun ds _ => k ds) (fun _ _ => false) false (fun _ _ _ _ => false) false (fun _ _ _ _ => false) (fun _ _ _ _ => false) d
theorem cSeq_of {k : List D → Bool} {d : D} (h : cSeq k d = true) : ∃ ds, (d = .list ds ∨ d = .tuple ds) ∧ k ds = true := by
  cases d <;> first | exact ⟨_, .inl rfl, h⟩ | exact ⟨_, .inr rfl, h⟩ | cases h

/-! ### slots -/
def nth (i : Nat) (σ : SD) (k : Bool → D → Bool) : Bool := @Nat.rec (fun _ => SD → Bool)
  (fun σ => @List.rec (Option Sl) (fun _ => Bool) false (fun h _ _ => @Option.rec Sl (fun _ => Bool) false (fun s => @Sl.rec (fun _ => Bool) k s) h) σ)
  (fun _ ih σ => @List.rec (Option Sl) (fun _ => Bool) false (fun _ t _ => ih t) σ) i σ
theorem nth_of {k : Bool → D → Bool} : ∀ {i : Nat} {σ : SD}, nth i σ k = true → ∃ o d, σ[i]? = some (some ⟨o, d⟩) ∧ k o d = true
  | 0, [], h => by cases h
  | 0, none :: t, h => by cases h
  | 0, some ⟨o, d⟩ :: t, h => ⟨o, d, rfl, h⟩
  | i + 1, [], h => by cases h
  | i + 1, x :: t, h => by
    obtain ⟨o, d, h1, h2⟩ := nth_of (k := k) (i := i) (σ := t) h
    exact ⟨o, d, by simpa using h1, h2⟩
def put (i : Nat) (v : Option Sl) (σ : SD) (k : SD → Bool) : Bool := @Nat.rec (fun _ => SD → (SD → Bool) → Bool)
  (fun σ k => @List.rec (Option Sl) (fun _ => Bool) (k []) (fun _ t _ => k (v :: t)) σ)
  (fun _ ih σ k => @List.rec (Option Sl) (fun _ => Bool) (k []) (fun h t _ => ih t fun t' => k (h :: t')) σ) i σ k
theorem put_eq {v : Option Sl} : ∀ {i : Nat} {σ : SD} {k : SD → Bool}, put i v σ k = k (σ.set i v)
  | 0, [], k => rfl
  | 0, x :: t, k => rfl
  | i + 1, [], k => rfl
  | i + 1, x :: t, k => by
    show put i v t (fun t' => k (x :: t')) = _
    rw [put_eq]; rfl

/-! ### expressions -/
def kLit (d : D) : KE := fun σ k => k false d σ
theorem sLit (d : D) : SE (fLit d) (kLit d) := fun σ k h => ⟨false, d, σ, rfl, h⟩
def kVar (i : Nat) : KE := fun σ k => nth i σ fun o d => @Bool.rec (fun _ => Bool) (k false d σ) (cList (fun ds => put i (some ⟨false, .list ds⟩) σ fun σ' => k false (.list ds) σ') d) o
theorem sVar (i : Nat) : SE (fVar i) (kVar i) := fun σ k h => by
  obtain ⟨o, d, h1, h2⟩ := nth_of h
  cases o with
  | false => exact ⟨false, d, σ, by simp [fVar, h1], h2⟩
  | true =>
    obtain ⟨ds, rfl, h3⟩ := cList_of h2
    rw [put_eq] at h3
    exact ⟨false, .list ds, _, by simp [fVar, h1], h3⟩
def wOf (g : KE) : KW := fun σ k => g σ fun fr d σ1 => @Bool.rec (fun _ => Bool) (k d σ1) (cList (fun ds => k (.list ds) σ1) d) fr
theorem sOf {f : DE} {g : KE} (h : SE f g) : SW (vOf f) (wOf g) := fun σ k e => by
  obtain ⟨b, d, σ', e1, e2⟩ := h σ _ e
  cases b with
  | false => exact ⟨d, σ', by simp [vOf, e1], e2⟩
  | true =>
    obtain ⟨ds, rfl, e3⟩ := cList_of e2
    exact ⟨_, σ', by simp [vOf, e1], e3⟩
def kvNil : KV := fun σ k => k [] σ
theorem svNil : SV vNil kvNil := fun σ k h => ⟨[], σ, rfl, h⟩
def kvCons (a : KW) (r : KV) : KV := fun σ k => a σ fun d σ1 => r σ1 fun ds σ2 => k (d :: ds) σ2
theorem svCons {a : DW} {r : DV} {a' : KW} {r' : KV} (h : SW a a') (h' : SV r r') : SV (vCons a r) (kvCons a' r') := fun σ k e => by
  obtain ⟨d, σ1, e1, e2⟩ := h σ _ e
  obtain ⟨ds, σ2, e3, e4⟩ := h' σ1 _ e2
  exact ⟨d :: ds, σ2, by simp [vCons, e1, e3], e4⟩
/-- how many, below the line -/
def kOk (ds : List D) (k : Bool) : Bool := @Bool.rec (fun _ => Bool) false k (okLen (@List.rec D (fun _ => Nat) Nat.zero (fun _ _ n => Nat.succ n) ds))
theorem len_rec : ∀ ds : List D, @List.rec D (fun _ => Nat) Nat.zero (fun _ _ n => Nat.succ n) ds = ds.length
  | [] => rfl
  | _ :: ds => congrArg Nat.succ (len_rec ds)
theorem kOk_of {ds : List D} {k : Bool} (h : kOk ds k = true) : okLen ds.length = true ∧ k = true := by
  unfold kOk at h
  rw [len_rec] at h
  cases e : okLen ds.length with
  | true => rw [e] at h; exact ⟨rfl, h⟩
  | false => rw [e] at h; cases h
def kTup (a : KV) : KE := fun σ k => a σ fun ds σ1 => kOk ds (k false (.tuple ds) σ1)
theorem sTup {a : DV} {a' : KV} (h : SV a a') : SE (fTup a) (kTup a') := fun σ k e => by
  obtain ⟨ds, σ1, e1, e2⟩ := h σ _ e
  obtain ⟨e3, e4⟩ := kOk_of e2
  exact ⟨_, _, _, by simp [fTup, e1, e3], e4⟩
def kLst (a : KV) : KE := fun σ k => a σ fun ds σ1 => kOk ds (k true (.list ds) σ1)
theorem sLst {a : DV} {a' : KV} (h : SV a a') : SE (fLst a) (kLst a') := fun σ k e => by
  obtain ⟨ds, σ1, e1, e2⟩ := h σ _ e
  obtain ⟨e3, e4⟩ := kOk_of e2
  exact ⟨_, _, _, by simp [fLst, e1, e3], e4⟩

/-! ### operands -/
def koSlot (i : Nat) : KO := fun σ k => nth i σ fun _ _ => k (.slot i) σ
theorem soSlot (i : Nat) : SO (oSlot i) (koSlot i) := fun σ k h => by
  obtain ⟨o, d, h1, h2⟩ := nth_of h
  exact ⟨_, σ, by simp [oSlot, h1], h2⟩
def koOf (g : KE) : KO := fun σ k => g σ fun fr d σ1 => @Bool.rec (fun _ => Bool) (k (.val d) σ1) (k (.tmp d) σ1) fr
theorem soOf {f : DE} {g : KE} (h : SE f g) : SO (oOf f) (koOf g) := fun σ k e => by
  obtain ⟨b, d, σ', e1, e2⟩ := h σ _ e
  cases b with
  | false => exact ⟨_, σ', by simp [oOf, e1], e2⟩
  | true => exact ⟨_, σ', by simp [oOf, e1], e2⟩
def kres (σ : SD) (o : Opd) (k : D → Bool) : Bool := @Opd.rec (fun _ => Bool) k k (fun i => nth i σ fun _ d => k d) o
theorem kres_of {σ : SD} {o : Opd} {k : D → Bool} (h : kres σ o k = true) : ∃ d, res σ o = some d ∧ k d = true := by
  cases o with
  | val d => exact ⟨d, rfl, h⟩
  | tmp d => exact ⟨d, rfl, h⟩
  | slot i =>
    obtain ⟨o, d, h1, h2⟩ := nth_of (k := fun _ d => k d) h
    exact ⟨d, by simp [res, h1], h2⟩

/-! ### primitives over their operands -/
def kBin (q : K2) (a b : KO) : KE := fun σ k => a σ fun o1 σ1 => b σ1 fun o2 σ2 => kres σ2 o1 fun d1 => kres σ2 o2 fun d2 => q d1 d2 fun fr d => k fr d σ2
theorem sBin {p : Prim} {q : K2} {a b : DO} {a' b' : KO} (hq : S2 p q) (ha : SO a a') (hb : SO b b') : SE (fPrim p (aCons a (aCons b aNil))) (kBin q a' b') := fun σ k e => by
  obtain ⟨o1, σ1, e1, e⟩ := ha σ _ e
  obtain ⟨o2, σ2, e2, e⟩ := hb σ1 _ e
  obtain ⟨d1, e3, e⟩ := kres_of e
  obtain ⟨d2, e4, e⟩ := kres_of e
  obtain ⟨fr, d, e5, e⟩ := hq _ _ _ e
  exact ⟨fr, d, σ2, by simp [fPrim, aCons, aNil, resAll, e1, e2, e3, e4, e5], e⟩
def kBinSS (q : K2) (i j : Nat) : KE := fun σ k => nth i σ fun _ d1 => nth j σ fun _ d2 => q d1 d2 fun fr d => k fr d σ
theorem sBinSS {p : Prim} {q : K2} (i j : Nat) (hq : S2 p q) : SE (fPrim p (aCons (oSlot i) (aCons (oSlot j) aNil))) (kBinSS q i j) := fun σ k e => by
  obtain ⟨o1, d1, e1, e⟩ := nth_of e
  obtain ⟨o2, d2, e2, e⟩ := nth_of e
  obtain ⟨fr, d, e5, e⟩ := hq _ _ _ e
  exact ⟨fr, d, σ, by simp [fPrim, aCons, aNil, resAll, oSlot, res, e1, e2, e5], e⟩
def kBinSX (q : K2) (i : Nat) (g : KE) : KE := fun σ k => nth i σ fun _ _ => g σ fun _ d2 σ1 => nth i σ1 fun _ d1 => q d1 d2 fun fr d => k fr d σ1
theorem sBinSX {p : Prim} {q : K2} (i : Nat) {f : DE} {g : KE} (hq : S2 p q) (h : SE f g) : SE (fPrim p (aCons (oSlot i) (aCons (oOf f) aNil))) (kBinSX q i g) := fun σ k e => by
  obtain ⟨o1, d1, e1, e⟩ := nth_of e
  obtain ⟨fr2, d2, σ1, e2, e⟩ := h σ _ e
  obtain ⟨o3, d3, e3, e⟩ := nth_of e
  obtain ⟨fr, d, e5, e⟩ := hq _ _ _ e
  refine ⟨fr, d, σ1, ?_, e⟩
  cases fr2 <;> simp [fPrim, aCons, aNil, resAll, oSlot, oOf, res, e1, e2, e3, e5]
def kBinXS (q : K2) (g : KE) (j : Nat) : KE := fun σ k => g σ fun _ d1 σ1 => nth j σ1 fun _ d2 => q d1 d2 fun fr d => k fr d σ1
theorem sBinXS {p : Prim} {q : K2} (j : Nat) {f : DE} {g : KE} (hq : S2 p q) (h : SE f g) : SE (fPrim p (aCons (oOf f) (aCons (oSlot j) aNil))) (kBinXS q g j) := fun σ k e => by
  obtain ⟨fr2, d1, σ1, e2, e⟩ := h σ _ e
  obtain ⟨o3, d3, e3, e⟩ := nth_of e
  obtain ⟨fr, d, e5, e⟩ := hq _ _ _ e
  refine ⟨fr, d, σ1, ?_, e⟩
  cases fr2 <;> simp [fPrim, aCons, aNil, resAll, oSlot, oOf, res, e2, e3, e5]
def kBinXX (q : K2) (g h : KE) : KE := fun σ k => g σ fun _ d1 σ1 => h σ1 fun _ d2 σ2 => q d1 d2 fun fr d => k fr d σ2
theorem sBinXX {p : Prim} {q : K2} {f f' : DE} {g g' : KE} (hq : S2 p q) (h : SE f g) (h' : SE f' g') : SE (fPrim p (aCons (oOf f) (aCons (oOf f') aNil))) (kBinXX q g g') := fun σ k e => by
  obtain ⟨fr2, d1, σ1, e2, e⟩ := h σ _ e
  obtain ⟨fr3, d2, σ2, e3, e⟩ := h' σ1 _ e
  obtain ⟨fr, d, e5, e⟩ := hq _ _ _ e
  refine ⟨fr, d, σ2, ?_, e⟩
  cases fr2 <;> cases fr3 <;> simp [fPrim, aCons, aNil, resAll, oOf, res, e2, e3, e5]
/-- a slot and a literal -/
def kBinSL (q : K2) (i : Nat) (d2 : D) : KE := fun σ k => nth i σ fun _ d1 => q d1 d2 fun fr d => k fr d σ
theorem sBinSL {p : Prim} {q : K2} (i : Nat) (d2 : D) (hq : S2 p q) : SE (fPrim p (aCons (oSlot i) (aCons (oOf (fLit d2)) aNil))) (kBinSL q i d2) := fun σ k e => by
  obtain ⟨o1, d1, e1, e⟩ := nth_of e
  obtain ⟨fr, d, e5, e⟩ := hq _ _ _ e
  exact ⟨fr, d, σ, by simp [fPrim, aCons, aNil, resAll, oSlot, oOf, fLit, res, e1, e5], e⟩
def kBinXL (q : K2) (g : KE) (d2 : D) : KE := fun σ k => g σ fun _ d1 σ1 => q d1 d2 fun fr d => k fr d σ1
theorem sBinXL {p : Prim} {q : K2} (d2 : D) {f : DE} {g : KE} (hq : S2 p q) (h : SE f g) : SE (fPrim p (aCons (oOf f) (aCons (oOf (fLit d2)) aNil))) (kBinXL q g d2) := fun σ k e => by
  obtain ⟨fr2, d1, σ1, e2, e⟩ := h σ _ e
  obtain ⟨fr, d, e5, e⟩ := hq _ _ _ e
  refine ⟨fr, d, σ1, ?_, e⟩
  cases fr2 <;> simp [fPrim, aCons, aNil, resAll, oOf, fLit, res, e2, e5]
def kUnS (q : K1) (i : Nat) : KE := fun σ k => nth i σ fun _ d1 => q d1 fun fr d => k fr d σ
theorem sUnS {p : Prim} {q : K1} (i : Nat) (hq : S1 p q) : SE (fPrim p (aCons (oSlot i) aNil)) (kUnS q i) := fun σ k e => by
  obtain ⟨o1, d1, e1, e⟩ := nth_of e
  obtain ⟨fr, d, e5, e⟩ := hq _ _ e
  exact ⟨fr, d, σ, by simp [fPrim, aCons, aNil, resAll, oSlot, res, e1, e5], e⟩
def kUnX (q : K1) (g : KE) : KE := fun σ k => g σ fun _ d1 σ1 => q d1 fun fr d => k fr d σ1
theorem sUnX {p : Prim} {q : K1} {f : DE} {g : KE} (hq : S1 p q) (h : SE f g) : SE (fPrim p (aCons (oOf f) aNil)) (kUnX q g) := fun σ k e => by
  obtain ⟨fr2, d1, σ1, e2, e⟩ := h σ _ e
  obtain ⟨fr, d, e5, e⟩ := hq _ _ e
  refine ⟨fr, d, σ1, ?_, e⟩
  cases fr2 <;> simp [fPrim, aCons, aNil, resAll, oOf, res, e2, e5]
/-- any primitive -/
def kG (r : Option (Bool × D)) (k : Bool → D → Bool) : Bool := @Option.rec (Bool × D) (fun _ => Bool) false (fun r => @Prod.rec Bool D (fun _ => Bool) (fun fr d => fB fr fun fr => fD d fun d => k fr d) r) r
theorem kG_of {r : Option (Bool × D)} {k : Bool → D → Bool} (h : kG r k = true) : ∃ fr d, r = some (fr, d) ∧ k fr d = true := by
  cases r with
  | none => cases h
  | some r =>
    obtain ⟨fr, d⟩ := r
    have h : (fB fr fun fr => fD d fun d => k fr d) = true := h
    rw [fB_eq, fD_eq] at h
    exact ⟨fr, d, rfl, h⟩
def q2 (p : Prim) : K2 := fun a b k => kG (p [a, b]) k
theorem s2 (p : Prim) : S2 p (q2 p) := fun a b k h => kG_of h
def q1 (p : Prim) : K1 := fun a k => kG (p [a]) k
theorem s1 (p : Prim) : S1 p (q1 p) := fun a k h => kG_of h

/-! ### tests -/
def ktBool (g : KE) : KT := fun σ kt kf => g σ fun fr d σ1 => @Bool.rec (fun _ => Bool) (cBool (kf σ1) (kt σ1) d) false fr
theorem stBool {f : DE} {g : KE} (h : SE f g) : ST (tBool f) (ktBool g) := fun σ kt kf e => by
  obtain ⟨b, d, σ', e1, e2⟩ := h σ _ e
  cases b with
  | true => cases e2
  | false =>
    rcases cBool_of e2 with ⟨rfl, e3⟩ | ⟨rfl, e3⟩
    · exact ⟨true, σ', by simp [tBool, e1], e3⟩
    · exact ⟨false, σ', by simp [tBool, e1], e3⟩
def ktNot (g : KT) : KT := fun σ kt kf => g σ kf kt
theorem stNot {f : DT} {g : KT} (h : ST f g) : ST (tNotD f) (ktNot g) := fun σ kt kf e => by
  obtain ⟨b, σ', e1, e2⟩ := h σ _ _ e
  refine ⟨!b, σ', by simp [tNotD, e1], ?_⟩
  cases b <;> exact e2
def ktAnd (f g : KT) : KT := fun σ kt kf => f σ (fun σ1 => g σ1 kt kf) kf
theorem stAnd {f f' : DT} {g g' : KT} (h : ST f g) (h' : ST f' g') : ST (tAndD f f') (ktAnd g g') := fun σ kt kf e => by
  obtain ⟨b, σ', e1, e2⟩ := h σ _ _ e
  cases b with
  | false => exact ⟨false, σ', by simp [tAndD, e1], e2⟩
  | true =>
    obtain ⟨b, σ2, e3, e4⟩ := h' σ' _ _ e2
    exact ⟨b, σ2, by simp [tAndD, e1, e3], e4⟩
def ktOr (f g : KT) : KT := fun σ kt kf => f σ kt (fun σ1 => g σ1 kt kf)
theorem stOr {f f' : DT} {g g' : KT} (h : ST f g) (h' : ST f' g') : ST (tOrD f f') (ktOr g g') := fun σ kt kf e => by
  obtain ⟨b, σ', e1, e2⟩ := h σ _ _ e
  cases b with
  | true => exact ⟨true, σ', by simp [tOrD, e1], e2⟩
  | false =>
    obtain ⟨b, σ2, e3, e4⟩ := h' σ' _ _ e2
    exact ⟨b, σ2, by simp [tOrD, e1, e3], e4⟩
def ktYes : KT := fun σ kt _ => kt σ
theorem stYes : ST tYesD ktYes := fun σ kt kf e => ⟨true, σ, rfl, e⟩
def ktTruth (o : KO) : KT := fun σ kt kf => o σ fun o σ1 => kres σ1 o fun d => @Option.rec Bool (fun _ => Bool) false (fun b => @Bool.rec (fun _ => Bool) (kf σ1) (kt σ1) b) (truthD d)
theorem stTruth {f : DO} {g : KO} (h : SO f g) : ST (tTruth f) (ktTruth g) := fun σ kt kf e => by
  obtain ⟨o, σ1, e1, e⟩ := h σ _ e
  obtain ⟨d, e2, e⟩ := kres_of e
  cases e3 : truthD d with
  | none => rw [e3] at e; cases e
  | some b =>
    rw [e3] at e
    refine ⟨b, σ1, by simp [tTruth, e1, e2, e3], ?_⟩
    cases b <;> exact e
def kNot (g : KE) : KE := fun σ k => g σ fun fr d σ1 => @Bool.rec (fun _ => Bool) (cBool (k false (.bool true) σ1) (k false (.bool false) σ1) d) false fr
theorem sNot {f : DE} {g : KE} (h : SE f g) : SE (fNot f) (kNot g) := fun σ k e => by
  obtain ⟨b, d, σ', e1, e2⟩ := h σ _ e
  cases b with
  | true => cases e2
  | false =>
    rcases cBool_of e2 with ⟨rfl, e3⟩ | ⟨rfl, e3⟩
    · exact ⟨_, _, σ', by simp [fNot, e1], e3⟩
    · exact ⟨_, _, σ', by simp [fNot, e1], e3⟩
def kAnd (f g : KE) : KE := fun σ k => f σ fun fr d σ1 => @Bool.rec (fun _ => Bool) (cBool (k false (.bool false) σ1) (g σ1 k) d) false fr
theorem sAnd {f f' : DE} {g g' : KE} (h : SE f g) (h' : SE f' g') : SE (fAnd f f') (kAnd g g') := fun σ k e => by
  obtain ⟨b, d, σ', e1, e2⟩ := h σ _ e
  cases b with
  | true => cases e2
  | false =>
    rcases cBool_of e2 with ⟨rfl, e3⟩ | ⟨rfl, e3⟩
    · obtain ⟨b, d, σ2, e4, e5⟩ := h' σ' _ e3
      exact ⟨_, _, σ2, by simp [fAnd, e1, e4], e5⟩
    · exact ⟨_, _, σ', by simp [fAnd, e1], e3⟩
def kOr (f g : KE) : KE := fun σ k => f σ fun fr d σ1 => @Bool.rec (fun _ => Bool) (cBool (g σ1 k) (k false (.bool true) σ1) d) false fr
theorem sOr {f f' : DE} {g g' : KE} (h : SE f g) (h' : SE f' g') : SE (fOr f f') (kOr g g') := fun σ k e => by
  obtain ⟨b, d, σ', e1, e2⟩ := h σ _ e
  cases b with
  | true => cases e2
  | false =>
    rcases cBool_of e2 with ⟨rfl, e3⟩ | ⟨rfl, e3⟩
    · exact ⟨_, _, σ', by simp [fOr, e1], e3⟩
    · obtain ⟨b, d, σ2, e4, e5⟩ := h' σ' _ e3
      exact ⟨_, _, σ2, by simp [fOr, e1, e4], e5⟩
def kIf (t : KT) (f g : KE) : KE := fun σ k => t σ (fun σ1 => f σ1 k) (fun σ1 => g σ1 k)
theorem sIf {t : DT} {t' : KT} {f f' : DE} {g g' : KE} (ht : ST t t') (h : SE f g) (h' : SE f' g') : SE (fIf t f f') (kIf t' g g') := fun σ k e => by
  obtain ⟨b, σ1, e1, e⟩ := ht σ _ _ e
  cases b with
  | true =>
    obtain ⟨b, d, σ2, e4, e5⟩ := h σ1 _ e
    exact ⟨_, _, σ2, by simp [fIf, e1, e4], e5⟩
  | false =>
    obtain ⟨b, d, σ2, e4, e5⟩ := h' σ1 _ e
    exact ⟨_, _, σ2, by simp [fIf, e1, e4], e5⟩
/-! ### chains of comparisons -/
abbrev KCh := Opd → KE
def SCh (f : Opd → DE) (g : KCh) : Prop := ∀ o, SE (f o) (g o)
def kcOne (q : K2) (o : KO) : KCh := fun l σ k => o σ fun r σ1 => kres σ1 l fun d1 => kres σ1 r fun d2 => q d1 d2 fun fr d => @Bool.rec (fun _ => Bool) (cBool (k false (.bool false) σ1) (k false (.bool true) σ1) d) false fr
theorem scOne {p : Prim} {q : K2} {f : DO} {g : KO} (hq : S2 p q) (h : SO f g) : SCh (cOne p f) (kcOne q g) := fun l σ k e => by
  obtain ⟨o, σ1, e1, e⟩ := h σ _ e
  obtain ⟨d1, e3, e⟩ := kres_of e
  obtain ⟨d2, e4, e⟩ := kres_of e
  obtain ⟨fr, d, e5, e⟩ := hq _ _ _ e
  cases fr with
  | true => cases e
  | false =>
    rcases cBool_of e with ⟨rfl, e⟩ | ⟨rfl, e⟩
    · exact ⟨_, _, σ1, by simp [cOne, resAll, e1, e3, e4, e5], e⟩
    · exact ⟨_, _, σ1, by simp [cOne, resAll, e1, e3, e4, e5], e⟩
def kcMore (q : K2) (o : KO) (t : KCh) : KCh := fun l σ k => o σ fun r σ1 => kres σ1 l fun d1 => kres σ1 r fun d2 => q d1 d2 fun fr d => @Bool.rec (fun _ => Bool) (cBool (k false (.bool false) σ1) (t r σ1 k) d) false fr
theorem scMore {p : Prim} {q : K2} {f : DO} {g : KO} {t : Opd → DE} {t' : KCh} (hq : S2 p q) (h : SO f g) (ht : SCh t t') : SCh (cMore p f t) (kcMore q g t') := fun l σ k e => by
  obtain ⟨o, σ1, e1, e⟩ := h σ _ e
  obtain ⟨d1, e3, e⟩ := kres_of e
  obtain ⟨d2, e4, e⟩ := kres_of e
  obtain ⟨fr, d, e5, e⟩ := hq _ _ _ e
  cases fr with
  | true => cases e
  | false =>
    rcases cBool_of e with ⟨rfl, e⟩ | ⟨rfl, e⟩
    · obtain ⟨b, d, σ2, e6, e7⟩ := ht o σ1 _ e
      exact ⟨_, _, σ2, by simp [cMore, resAll, e1, e3, e4, e5, e6], e7⟩
    · exact ⟨_, _, σ1, by simp [cMore, resAll, e1, e3, e4, e5], e⟩
def kChain (o : KO) (t : KCh) : KE := fun σ k => o σ fun l σ1 => t l σ1 k
theorem sChain {f : DO} {g : KO} {t : Opd → DE} {t' : KCh} (h : SO f g) (ht : SCh t t') : SE (fChain f t) (kChain g t') := fun σ k e => by
  obtain ⟨o, σ1, e1, e⟩ := h σ _ e
  obtain ⟨b, d, σ2, e6, e7⟩ := ht o σ1 _ e
  exact ⟨_, _, σ2, by simp [fChain, e1, e6], e7⟩
/-! ### bounds, slices -/
def kpNone : KP := fun σ k => k none σ
theorem spNone : SP pNone kpNone := fun σ k e => ⟨none, σ, rfl, e⟩
def kpSome (g : KW) : KP := fun σ k => g σ fun d σ1 => cInt (fun i => k (some i) σ1) d
theorem spSome {f : DW} {g : KW} (h : SW f g) : SP (pSome f) (kpSome g) := fun σ k e => by
  obtain ⟨d, σ1, e1, e⟩ := h σ _ e
  obtain ⟨i, rfl, e⟩ := cInt_of e
  exact ⟨some i, σ1, by simp [pSome, e1], e⟩
def kSl (o : KO) (lo hi : KP) : KE := fun σ k => o σ fun o σ1 => lo σ1 fun l σ2 => hi σ2 fun u σ3 => kres σ3 o fun d => kG (sliceD l u d) fun fr d => k fr d σ3
theorem sSl {f : DO} {g : KO} {lo hi : DP} {lo' hi' : KP} (h : SO f g) (h1 : SP lo lo') (h2 : SP hi hi') : SE (fSl f lo hi) (kSl g lo' hi') := fun σ k e => by
  obtain ⟨o, σ1, e1, e⟩ := h σ _ e
  obtain ⟨l, σ2, e2, e⟩ := h1 σ1 _ e
  obtain ⟨u, σ3, e3, e⟩ := h2 σ2 _ e
  obtain ⟨d, e4, e⟩ := kres_of e
  obtain ⟨fr, d', e5, e⟩ := kG_of e
  exact ⟨_, _, σ3, by simp [fSl, e1, e2, e3, e4, e5], e⟩
def stepR (l u : Option Int) (st : Int) : D → Option (Bool × D)
  | .tuple ds => if okLen (stepCut ds l u st).length = true then some (false, .tuple (stepCut ds l u st)) else none
  | _ => none
def kStepT (o : KO) (lo hi : KP) (st : Int) : KE := fun σ k => o σ fun o σ1 => lo σ1 fun l σ2 => hi σ2 fun u σ3 => kres σ3 o fun d => kG (stepR l u st d) fun fr d => k fr d σ3
theorem sStepT {f : DO} {g : KO} {lo hi : DP} {lo' hi' : KP} (st : Int) (h : SO f g) (h1 : SP lo lo') (h2 : SP hi hi') : SE (fStepT f lo hi st) (kStepT g lo' hi' st) := fun σ k e => by
  obtain ⟨o, σ1, e1, e⟩ := h σ _ e
  obtain ⟨l, σ2, e2, e⟩ := h1 σ1 _ e
  obtain ⟨u, σ3, e3, e⟩ := h2 σ2 _ e
  obtain ⟨d, e4, e⟩ := kres_of e
  obtain ⟨fr, d', e5, e⟩ := kG_of e
  refine ⟨_, _, σ3, ?_, e⟩
  unfold stepR at e5
  split at e5
  · split at e5
    · rename_i h6
      cases e5
      simp [fStepT, e1, e2, e3, e4, h6]
    · cases e5
  · cases e5
def kIsi (u : Ty) (o : KO) : KE := fun σ k => o σ fun o σ1 => kres σ1 o fun d => fB (isT (tyD d) u) fun b => k false (.bool b) σ1
theorem sIsi (u : Ty) {f : DO} {g : KO} (h : SO f g) : SE (fIsi u f) (kIsi u g) := fun σ k e => by
  obtain ⟨o, σ1, e1, e⟩ := h σ _ e
  obtain ⟨d, e4, e⟩ := kres_of e
  rw [fB_eq] at e
  exact ⟨_, _, σ1, by simp [fIsi, e1, e4], e⟩
end Ev
end
/-! ## EvK2 -/
noncomputable section
set_option Elab.async false
set_option linter.all false
set_option maxRecDepth 100000
set_option maxHeartbeats 1000000
/-! EvK2: loops, statements, calls. -/
namespace Ev
open PySem L2

/-! ### what is gone through -/
def fRn (lo : Int) (n : Nat) : (List D → Bool) → Bool := @Nat.rec (fun _ => Int → (List D → Bool) → Bool) (fun _ k => k []) (fun _ ih lo k => fI (Int.add lo (Int.ofNat (Nat.succ Nat.zero))) fun lo' => ih lo' fun t => k (.int lo :: t)) n lo
theorem fRn_eq : ∀ (n : Nat) (lo : Int) (k : List D → Bool), fRn lo n k = k (rngs lo n)
  | 0, lo, k => rfl
  | n + 1, lo, k => by
    show (fI (lo + 1) fun lo' => fRn lo' n fun t => k (.int lo :: t)) = _
    rw [fI_eq, fRn_eq n]; rfl
def bRec (b : Bool) (t : Bool) : Bool := @Bool.rec (fun _ => Bool) false t b
theorem bRec_of {b t : Bool} (h : bRec b t = true) : b = true ∧ t = true := by
  cases b with
  | true => exact ⟨rfl, h⟩
  | false => cases h
def kiSeq (g : KW) : KV := fun σ k => g σ fun d σ1 => cSeq (fun ds => k ds σ1) d
theorem siSeq {f : DW} {g : KW} (h : SW f g) : SV (iSeq f) (kiSeq g) := fun σ k e => by
  obtain ⟨d, σ1, e1, e⟩ := h σ _ e
  obtain ⟨ds, e2, e⟩ := cSeq_of e
  refine ⟨ds, σ1, ?_, e⟩
  rcases e2 with rfl | rfl <;> simp [iSeq, e1]
def kiSeqS (g : KW) : KV := fun σ k => g σ fun d σ1 => @PyData.rec (fun _ => Bool) (fun _ => Bool) (fun _ => Bool) (fun _ => Bool) false (fun _ => false) (fun _ => false) (fun s => fDs (signs s) fun ds => k ds σ1) (fun ds _ => k ds σ1) (fun ds _ => k ds σ1) (fun _ _ => false) false (fun _ _ _ _ => false) false (fun _ _ _ _ => false) (fun _ _ _ _ => false) d
theorem siSeqS {f : DW} {g : KW} (h : SW f g) : SV (iSeq f) (kiSeqS g) := fun σ k e => by
  obtain ⟨d, σ1, e1, e⟩ := h σ _ e
  cases d with
  | str s =>
    have e : (fDs (signs s) fun ds => k ds σ1) = true := e
    rw [fDs_eq] at e
    exact ⟨_, σ1, by simp [iSeq, e1], e⟩
  | list ds => exact ⟨_, σ1, by simp [iSeq, e1], e⟩
  | tuple ds => exact ⟨_, σ1, by simp [iSeq, e1], e⟩
  | _ => cases e
def kiRange1 (g : KW) : KV := fun σ k => g σ fun d σ1 => cInt (fun j => bRec (small62 j) (fRn (Int.ofNat Nat.zero) (Int.toNat j) fun ds => k ds σ1)) d
theorem siRange1 {f : DW} {g : KW} (h : SW f g) : SV (iRange (vCons f vNil)) (kiRange1 g) := fun σ k e => by
  obtain ⟨d, σ1, e1, e⟩ := h σ _ e
  obtain ⟨j, rfl, e⟩ := cInt_of e
  obtain ⟨e2, e⟩ := bRec_of e
  rw [fRn_eq] at e
  exact ⟨_, σ1, by simp [iRange, vCons, vNil, e1, e2], e⟩
def kiRange2 (g g' : KW) : KV := fun σ k => g σ fun d σ1 => g' σ1 fun d' σ2 => cInt (fun i => cInt (fun j => bRec (small62 i) (bRec (small62 j) (fRn i (Int.toNat (Int.sub j i)) fun ds => k ds σ2))) d') d
theorem siRange2 {f f' : DW} {g g' : KW} (h : SW f g) (h' : SW f' g') : SV (iRange (vCons f (vCons f' vNil))) (kiRange2 g g') := fun σ k e => by
  obtain ⟨d, σ1, e1, e⟩ := h σ _ e
  obtain ⟨d', σ2, e1', e⟩ := h' σ1 _ e
  obtain ⟨i, ei, u⟩ := cInt_of e
  obtain ⟨j, ej, u⟩ := cInt_of u
  subst ei ej
  obtain ⟨e2, u⟩ := bRec_of u
  obtain ⟨e3, u⟩ := bRec_of u
  rw [fRn_eq] at u
  have e4 : j.sub i = j - i := rfl
  rw [e4] at u
  exact ⟨_, σ2, by simp [iRange, vCons, vNil, e1, e1', e2, e3], u⟩
/-- two lists, one beside the other -/
def fPairs (as : List D) : List D → (List D → Bool) → Bool := @List.rec D (fun _ => List D → (List D → Bool) → Bool) (fun _ k => k []) (fun a _ ih bs k => @List.rec D (fun _ => Bool) (k []) (fun b bt _ => ih bt fun t => k (.dict [(a, .none), (b, .none)] :: t)) bs) as
theorem fPairs_eq : ∀ (as bs : List D) (k : List D → Bool), fPairs as bs k = k (pairs as bs)
  | [], bs, k => by cases bs <;> rfl
  | a :: as, [], k => rfl
  | a :: as, b :: bs, k => by
    show fPairs as bs (fun t => k (.dict [(a, .none), (b, .none)] :: t)) = _
    rw [fPairs_eq as bs]; rfl
def kiZip (g g' : KW) : KV := fun σ k => g σ fun d σ1 => g' σ1 fun d' σ2 => @PyData.rec (fun _ => Bool) (fun _ => Bool) (fun _ => Bool) (fun _ => Bool) false (fun _ => false) (fun _ => false) (fun _ => false) (fun as _ => cList (fun bs => fPairs as bs fun ds => k ds σ2) d') (fun as _ => cTup (fun bs => fPairs as bs fun ds => k ds σ2) d') (fun _ _ => false) false (fun _ _ _ _ => false) false (fun _ _ _ _ => false) (fun _ _ _ _ => false) d
theorem siZip {f f' : DW} {g g' : KW} (h : SW f g) (h' : SW f' g') : SV (iZip (vCons f (vCons f' vNil))) (kiZip g g') := fun σ k e => by
  obtain ⟨d, σ1, e1, e⟩ := h σ _ e
  obtain ⟨d', σ2, e1', e⟩ := h' σ1 _ e
  cases d with
  | list as =>
    obtain ⟨bs, eb, u⟩ := cList_of (d := d') e
    subst eb
    rw [fPairs_eq] at u
    exact ⟨_, σ2, by simp [iZip, vCons, vNil, e1, e1'], u⟩
  | tuple as =>
    obtain ⟨bs, eb, u⟩ := cTup_of (d := d') e
    subst eb
    rw [fPairs_eq] at u
    exact ⟨_, σ2, by simp [iZip, vCons, vNil, e1, e1'], u⟩
  | _ => cases e
def kiEnum (g : KW) : KV := fun σ k => g σ fun d σ1 => cSeq (fun as => fRn (Int.ofNat Nat.zero) (@List.rec D (fun _ => Nat) Nat.zero (fun _ _ n => Nat.succ n) as) fun is => fPairs is as fun ds => k ds σ1) d
theorem siEnum {f : DW} {g : KW} (h : SW f g) : SV (iEnum (vCons f vNil)) (kiEnum g) := fun σ k e => by
  obtain ⟨d, σ1, e1, e⟩ := h σ _ e
  obtain ⟨ds, e2, e⟩ := cSeq_of e
  rw [fRn_eq, fPairs_eq, len_rec] at e
  refine ⟨_, σ1, ?_, e⟩
  rcases e2 with rfl | rfl <;> simp [iEnum, vCons, vNil, e1]
/-! ### binding -/
def kSetAll (is : List Nat) : List D → SD → (SD → Bool) → Bool := @List.rec Nat (fun _ => List D → SD → (SD → Bool) → Bool)
  (fun ds σ k => @List.rec D (fun _ => Bool) (k σ) (fun _ _ _ => false) ds)
  (fun i _ ih ds σ k => @List.rec D (fun _ => Bool) false (fun d dt _ => put i (some ⟨false, d⟩) σ fun σ1 => ih dt σ1 k) ds) is
theorem kSetAll_of : ∀ {is : List Nat} {ds : List D} {σ : SD} {k : SD → Bool}, kSetAll is ds σ k = true → ds.length = is.length ∧ k (setAll is ds σ) = true
  | [], [], σ, k, h => ⟨rfl, h⟩
  | [], d :: ds, σ, k, h => by cases h
  | i :: is, [], σ, k, h => by cases h
  | i :: is, d :: ds, σ, k, h => by
    have h : put i (some ⟨false, d⟩) σ (fun σ1 => kSetAll is ds σ1 k) = true := h
    rw [put_eq] at h
    obtain ⟨h1, h2⟩ := kSetAll_of h
    exact ⟨by simp [h1], h2⟩
/-- as kSetAll, from a weak tuple -/
def kSetAllP (is : List Nat) : List (D × D) → SD → (SD → Bool) → Bool := @List.rec Nat (fun _ => List (D × D) → SD → (SD → Bool) → Bool)
  (fun ds σ k => @List.rec (D × D) (fun _ => Bool) (k σ) (fun _ _ _ => false) ds)
  (fun i _ ih ds σ k => @List.rec (D × D) (fun _ => Bool) false (fun d dt _ => @Prod.rec D D (fun _ => Bool) (fun d _ => put i (some ⟨false, d⟩) σ fun σ1 => ih dt σ1 k) d) ds) is
theorem kSetAllP_of : ∀ {is : List Nat} {ds : List (D × D)} {σ : SD} {k : SD → Bool}, kSetAllP is ds σ k = true → (wkOut ds).length = is.length ∧ k (setAll is (wkOut ds) σ) = true
  | [], [], σ, k, h => ⟨rfl, h⟩
  | [], d :: ds, σ, k, h => by cases h
  | i :: is, [], σ, k, h => by cases h
  | i :: is, (d, e) :: ds, σ, k, h => by
    have h : put i (some ⟨false, d⟩) σ (fun σ1 => kSetAllP is ds σ1 k) = true := h
    rw [put_eq] at h
    obtain ⟨h1, h2⟩ := kSetAllP_of h
    exact ⟨by simp [wkOut, h1], h2⟩
/-- lists, tuples and weak tuples taken apart -/
def kTake (is : List Nat) (d : D) (σ : SD) (k : SD → Bool) : Bool := @PyData.rec (fun _ => Bool) (fun _ => Bool) (fun _ => Bool) (fun _ => Bool) false (fun _ => false) (fun _ => false) (fun _ => false) (fun ds _ => kSetAll is ds σ k) (fun ds _ => kSetAll is ds σ k) (fun es _ => kSetAllP is es σ k) false (fun _ _ _ _ => false) false (fun _ _ _ _ => false) (fun _ _ _ _ => false) d
theorem kTake_of {is : List Nat} {d : D} {σ : SD} {k : SD → Bool} (h : kTake is d σ k = true) : ∃ ds, itemsOf d = some ds ∧ ds.length = is.length ∧ k (setAll is ds σ) = true := by
  cases d with
  | list ds => exact ⟨ds, rfl, kSetAll_of h⟩
  | tuple ds => exact ⟨ds, rfl, kSetAll_of h⟩
  | dict es => exact ⟨_, rfl, kSetAllP_of h⟩
  | _ => cases h
def noDi (d : D) : Bool := @PyData.rec (fun _ => Bool) (fun _ => Bool) (fun _ => Bool) (fun _ => Bool) true (fun _ => true) (fun _ => true) (fun _ => true) (fun _ _ => true) (fun _ _ => true) (fun _ _ => false) false (fun _ _ _ _ => false) false (fun _ _ _ _ => false) (fun _ _ _ _ => false) d
def kSub (p : Sub) (d : D) (σ : SD) (k : SD → Bool) : Bool := @Sub.rec (fun _ => Bool) (fun i => put i (some ⟨false, d⟩) σ k) (fun is => kTake is d σ k) p
def kSubs (ps : List Sub) : List D → SD → (SD → Bool) → Bool := @List.rec Sub (fun _ => List D → SD → (SD → Bool) → Bool)
  (fun ds σ k => @List.rec D (fun _ => Bool) (k σ) (fun _ _ _ => false) ds)
  (fun p _ ih ds σ k => @List.rec D (fun _ => Bool) false (fun d dt _ => kSub p d σ fun σ1 => ih dt σ1 k) ds) ps
theorem kSubs_of : ∀ {ps : List Sub} {ds : List D} {σ : SD} {k : SD → Bool}, kSubs ps ds σ k = true → ∃ σ', bindS ps ds σ = some σ' ∧ k σ' = true
  | [], [], σ, k, h => ⟨σ, rfl, h⟩
  | [], d :: ds, σ, k, h => by cases h
  | p :: ps, [], σ, k, h => by cases h
  | .n i :: ps, d :: ds, σ, k, h => by
    have h : put i (some ⟨false, d⟩) σ (fun σ1 => kSubs ps ds σ1 k) = true := h
    rw [put_eq] at h
    obtain ⟨σ', h1, h2⟩ := kSubs_of (ps := ps) (ds := ds) h
    exact ⟨σ', h1, h2⟩
  | .t is :: ps, d :: ds, σ, k, h => by
    have h : kTake is d σ (fun σ1 => kSubs ps ds σ1 k) = true := h
    obtain ⟨es, h1, h2, h⟩ := kTake_of h
    obtain ⟨σ', h3, h⟩ := kSubs_of h
    exact ⟨σ', by simp [bindS, h1, h2, h3], h⟩
def kBind (p : Pat) (d : D) (σ : SD) (k : SD → Bool) : Bool := @Pat.rec (fun _ => Bool) (fun i => bRec (noDi d) (put i (some ⟨false, d⟩) σ k)) (fun is => kTake is d σ k) (fun ps => cSeq (fun ds => kSubs ps ds σ k) d) p
theorem kBind_of {p : Pat} {d : D} {σ : SD} {k : SD → Bool} (h : kBind p d σ k = true) : ∃ σ', bindP p d σ = some σ' ∧ k σ' = true := by
  cases p with
  | name i =>
    obtain ⟨hn, h⟩ := bRec_of (b := noDi d) h
    rw [put_eq] at h
    refine ⟨σ.set i (some ⟨false, d⟩), ?_, h⟩
    cases d <;> first | rfl | cases hn
  | tup is =>
    obtain ⟨ds, h1, h2, h⟩ := kTake_of (d := d) h
    exact ⟨_, by simp [bindP, h1, h2], h⟩
  | nst ps =>
    obtain ⟨ds, e, h⟩ := cSeq_of (d := d) h
    obtain ⟨σ', h1, h⟩ := kSubs_of h
    refine ⟨σ', ?_, h⟩
    rcases e with rfl | rfl <;> simp [bindP, itemsOf, h1]
/-! ### comprehensions -/
def kWipe (vs : List Nat) : SD → (SD → Bool) → Bool := @List.rec Nat (fun _ => SD → (SD → Bool) → Bool) (fun σ k => k σ) (fun v _ ih σ k => ih σ fun σ1 => put v none σ1 k) vs
theorem kWipe_eq : ∀ {vs : List Nat} {σ : SD} {k : SD → Bool}, kWipe vs σ k = k (wipeD σ vs)
  | [], σ, k => rfl
  | v :: vs, σ, k => by
    show kWipe vs σ (fun σ1 => put v none σ1 k) = _
    rw [kWipe_eq, put_eq]; rfl
/-- a slot as it is -/
def nthR (i : Nat) (σ : SD) (k : Option Sl → Bool) : Bool := @Nat.rec (fun _ => SD → Bool)
  (fun σ => @List.rec (Option Sl) (fun _ => Bool) (k none) (fun h _ _ => k h) σ)
  (fun _ ih σ => @List.rec (Option Sl) (fun _ => Bool) (k none) (fun _ t _ => ih t) σ) i σ
theorem nthR_eq {k : Option Sl → Bool} : ∀ {i : Nat} {σ : SD}, nthR i σ k = k (match σ[i]? with | some x => x | none => none)
  | 0, [] => rfl
  | 0, x :: t => rfl
  | i + 1, [] => rfl
  | i + 1, x :: t => by
    show nthR i t k = _
    rw [nthR_eq]; simp
def kBack (σ0 : SD) (vs : List Nat) : SD → (SD → Bool) → Bool := @List.rec Nat (fun _ => SD → (SD → Bool) → Bool) (fun σ k => k σ) (fun v _ ih σ k => ih σ fun σ1 => nthR v σ0 fun x => put v x σ1 k) vs
theorem kBack_eq {σ0 : SD} : ∀ {vs : List Nat} {σ : SD} {k : SD → Bool}, kBack σ0 vs σ k = k (backD σ0 σ vs)
  | [], σ, k => rfl
  | v :: vs, σ, k => by
    show kBack σ0 vs σ (fun σ1 => nthR v σ0 fun x => put v x σ1 k) = _
    rw [kBack_eq, nthR_eq, put_eq]; rfl
def kLoopC (p : Pat) (c : KT) (elt : KW) (own : List Nat) (ds : List D) : SD → (List D → SD → Bool) → Bool := @List.rec D (fun _ => SD → (List D → SD → Bool) → Bool)
  (fun σ k => k [] σ)
  (fun d _ ih σ k => kBind p d σ fun σ1 => c σ1 (fun σ2 => elt σ2 fun e σ3 => kWipe own σ3 fun σ4 => ih σ4 fun es σ5 => k (e :: es) σ5) (fun σ2 => kWipe own σ2 fun σ4 => ih σ4 k)) ds
theorem kLoopC_of {p : Pat} {c : DT} {c' : KT} {elt : DW} {elt' : KW} {own : List Nat} (hc : ST c c') (he : SW elt elt') : ∀ {ds : List D} {σ : SD} {k : List D → SD → Bool}, kLoopC p c' elt' own ds σ k = true → ∃ es σ', lcLoop p c elt own ds σ = some (es, σ') ∧ k es σ' = true
  | [], σ, k, h => ⟨[], σ, rfl, h⟩
  | d :: ds, σ, k, h => by
    obtain ⟨σ1, h1, h⟩ := kBind_of (p := p) (d := d) h
    obtain ⟨b, σ2, h2, h⟩ := hc σ1 _ _ h
    cases b with
    | true =>
      obtain ⟨e, σ3, h3, h⟩ := he σ2 _ h
      rw [kWipe_eq] at h
      obtain ⟨es, σ4, h4, h⟩ := kLoopC_of hc he (ds := ds) h
      exact ⟨e :: es, σ4, by simp [lcLoop, h1, h2, h3, h4], h⟩
    | false =>
      have h : (kWipe own σ2 fun σ4 => kLoopC p c' elt' own ds σ4 k) = true := h
      rw [kWipe_eq] at h
      obtain ⟨es, σ4, h4, h⟩ := kLoopC_of hc he (ds := ds) h
      exact ⟨es, σ4, by simp [lcLoop, h1, h2, h4], h⟩
def kLc (it : KV) (p : Pat) (c : KT) (elt : KW) (own : List Nat) : KE := fun σ k => it σ fun ds σ1 => bRec (freeD σ1 own) (kOk ds (kWipe own σ1 fun σw => kLoopC p c elt own ds σw fun es σ2 => kBack σ1 own σ2 fun σ3 => k true (.list es) σ3))
theorem sLc {it : DV} {it' : KV} {p : Pat} {c : DT} {c' : KT} {elt : DW} {elt' : KW} {own : List Nat} (hi : SV it it') (hc : ST c c') (he : SW elt elt') : SE (fLc it p c elt own) (kLc it' p c' elt' own) := fun σ k h => by
  obtain ⟨ds, σ1, h1, h⟩ := hi σ _ h
  obtain ⟨h2, h⟩ := bRec_of h
  obtain ⟨h3, h⟩ := kOk_of h
  rw [kWipe_eq] at h
  obtain ⟨es, σ2, h4, h⟩ := kLoopC_of hc he h
  rw [kBack_eq] at h
  exact ⟨true, _, _, by simp [fLc, h1, h2, h3, h4], h⟩
/-! ### ranges with a step, zip of three -/
def fRnc (lo c : Int) (n : Nat) : (List D → Bool) → Bool := @Nat.rec (fun _ => Int → (List D → Bool) → Bool) (fun _ k => k []) (fun _ ih lo k => fI (Int.add lo c) fun lo' => ih lo' fun t => k (.int lo :: t)) n lo
theorem fRnc_eq (c : Int) : ∀ (n : Nat) (lo : Int) (k : List D → Bool), fRnc lo c n k = k (rngc lo c n)
  | 0, lo, k => rfl
  | n + 1, lo, k => by
    show (fI (lo + c) fun lo' => fRnc lo' c n fun t => k (.int lo :: t)) = _
    rw [fI_eq, fRnc_eq c n]; rfl
theorem rngd_c : ∀ (n : Nat) (lo : Int), rngd lo n = rngc lo (-1) n
  | 0, _ => rfl
  | n + 1, lo => by rw [rngd, rngc, rngd_c n]; rfl
def rng3 (i j c : Int) : Option (List D) := if (small62 i && small62 j && small62 c) = true then (if c = -1 then some (rngd i (i - j).toNat) else if (decide (0 < c) && decide (c < 1000000) && Builtin.Range.small i j c && decide (0 ≤ Builtin.Range.rangeSize i j c)) = true then some (rngc i c (Builtin.Range.rangeSize i j c).toNat) else none) else none
def kiRange3 (g g' g'' : KW) : KV := fun σ k => g σ fun d σ1 => g' σ1 fun d' σ2 => g'' σ2 fun d'' σ3 => cInt (fun i => cInt (fun j => cInt (fun c => @Option.rec (List D) (fun _ => Bool) false (fun ds => fDs ds fun ds => k ds σ3) (rng3 i j c)) d'') d') d
theorem siRange3 {f f' f'' : DW} {g g' g'' : KW} (h : SW f g) (h' : SW f' g') (h'' : SW f'' g'') : SV (iRange3 (vCons f (vCons f' (vCons f'' vNil)))) (kiRange3 g g' g'') := fun σ k e => by
  obtain ⟨d, σ1, e1, e⟩ := h σ _ e
  obtain ⟨d', σ2, e2, e⟩ := h' σ1 _ e
  obtain ⟨d'', σ3, e3, e⟩ := h'' σ2 _ e
  obtain ⟨i, ei, u1⟩ := cInt_of e
  obtain ⟨j, ej, u2⟩ := cInt_of u1
  obtain ⟨c, ec, u⟩ := cInt_of u2
  clear u2 u1 e
  subst ei ej ec
  cases er : rng3 i j c with
  | none => rw [er] at u; cases u
  | some ds =>
    rw [er] at u
    have u : (fDs ds fun ds => k ds σ3) = true := u
    rw [fDs_eq] at u
    refine ⟨ds, σ3, ?_, u⟩
    unfold rng3 at er
    simp only [iRange3, vCons, vNil, e1, e2, e3]
    split at er
    · rename_i h1
      rw [if_pos h1]
      split at er
      · rename_i h2; cases er; rw [if_pos h2]
      · rename_i h2
        rw [if_neg h2]
        split at er
        · rename_i h3; cases er; rw [if_pos h3]
        · cases er
    · cases er
def fTrips (as : List D) : List D → List D → (List D → Bool) → Bool := @List.rec D (fun _ => List D → List D → (List D → Bool) → Bool) (fun _ _ k => k []) (fun a _ ih bs cs k => @List.rec D (fun _ => Bool) (k []) (fun b bt _ => @List.rec D (fun _ => Bool) (k []) (fun c ct _ => ih bt ct fun t => k (.dict [(a, .none), (b, .none), (c, .none)] :: t)) cs) bs) as
theorem fTrips_eq : ∀ (as bs cs : List D) (k : List D → Bool), fTrips as bs cs k = k (trips as bs cs)
  | [], bs, cs, k => by cases bs <;> cases cs <;> rfl
  | a :: as, [], cs, k => rfl
  | a :: as, b :: bs, [], k => rfl
  | a :: as, b :: bs, c :: cs, k => by
    show fTrips as bs cs (fun t => k (.dict [(a, .none), (b, .none), (c, .none)] :: t)) = _
    rw [fTrips_eq as bs cs]; rfl
def kiZip3 (g g' g'' : KW) : KV := fun σ k => g σ fun d σ1 => g' σ1 fun d' σ2 => g'' σ2 fun d'' σ3 => cTup (fun as => cTup (fun bs => cTup (fun cs => fTrips as bs cs fun ds => k ds σ3) d'') d') d
theorem siZip3 {f f' f'' : DW} {g g' g'' : KW} (h : SW f g) (h' : SW f' g') (h'' : SW f'' g'') : SV (iZip3 (vCons f (vCons f' (vCons f'' vNil)))) (kiZip3 g g' g'') := fun σ k e => by
  obtain ⟨d, σ1, e1, e⟩ := h σ _ e
  obtain ⟨d', σ2, e2, e⟩ := h' σ1 _ e
  obtain ⟨d'', σ3, e3, e⟩ := h'' σ2 _ e
  obtain ⟨as, ea, u1⟩ := cTup_of e
  obtain ⟨bs, eb, u2⟩ := cTup_of u1
  obtain ⟨cs, ec, u⟩ := cTup_of u2
  clear u2 u1 e
  subst ea eb ec
  rw [fTrips_eq] at u
  exact ⟨_, σ3, by simp [iZip3, vCons, vNil, e1, e2, e3], u⟩
/-! ### two for -/
def kApd (as : List D) : List D → (List D → Bool) → Bool := @List.rec D (fun _ => List D → (List D → Bool) → Bool) (fun bs k => k bs) (fun a _ ih bs k => ih bs fun t => k (a :: t)) as
theorem kApd_eq : ∀ (as bs : List D) (k : List D → Bool), kApd as bs k = k (as ++ bs)
  | [], bs, k => rfl
  | a :: as, bs, k => by
    show kApd as bs (fun t => k (a :: t)) = _
    rw [kApd_eq as bs]; rfl
def kLoopC2 (p : Pat) (c : KT) (it1 : KV) (p1 : Pat) (c1 : KT) (elt : KW) (own own1 : List Nat) (ds : List D) : SD → (List D → SD → Bool) → Bool := @List.rec D (fun _ => SD → (List D → SD → Bool) → Bool)
  (fun σ k => k [] σ)
  (fun d _ ih σ k => kBind p d σ fun σ1 => c σ1 (fun σ2 => it1 σ2 fun ds1 σ3 => kWipe own1 σ3 fun σw => kLoopC p1 c1 elt own1 ds1 σw fun es σ4 => kWipe own σ4 fun σ5 => ih σ5 fun rest σ6 => kApd es rest fun all => k all σ6) (fun σ2 => kWipe own σ2 fun σ4 => ih σ4 k)) ds
theorem kLoopC2_of {p p1 : Pat} {c c1 : DT} {c' c1' : KT} {it1 : DV} {it1' : KV} {elt : DW} {elt' : KW} {own own1 : List Nat} (hc : ST c c') (hi1 : SV it1 it1') (hc1 : ST c1 c1') (he : SW elt elt') : ∀ {ds : List D} {σ : SD} {k : List D → SD → Bool}, kLoopC2 p c' it1' p1 c1' elt' own own1 ds σ k = true → ∃ es σ', lc2Loop p c it1 p1 c1 elt own own1 ds σ = some (es, σ') ∧ k es σ' = true
  | [], σ, k, h => ⟨[], σ, rfl, h⟩
  | d :: ds, σ, k, h => by
    obtain ⟨σ1, h1, h⟩ := kBind_of (p := p) (d := d) h
    obtain ⟨b, σ2, h2, h⟩ := hc σ1 _ _ h
    cases b with
    | true =>
      obtain ⟨ds1, σ3, h3, h⟩ := hi1 σ2 _ h
      rw [kWipe_eq] at h
      obtain ⟨es, σ4, h4, h⟩ := kLoopC_of hc1 he h
      rw [kWipe_eq] at h
      obtain ⟨rest, σ5, h5, h⟩ := kLoopC2_of hc hi1 hc1 he (ds := ds) h
      rw [kApd_eq] at h
      exact ⟨es ++ rest, σ5, by simp [lc2Loop, h1, h2, h3, h4, h5], h⟩
    | false =>
      have h : (kWipe own σ2 fun σ4 => kLoopC2 p c' it1' p1 c1' elt' own own1 ds σ4 k) = true := h
      rw [kWipe_eq] at h
      obtain ⟨es, σ4, h4, h⟩ := kLoopC2_of hc hi1 hc1 he (ds := ds) h
      exact ⟨es, σ4, by simp [lc2Loop, h1, h2, h4], h⟩
def kLc2 (it : KV) (p : Pat) (c : KT) (it1 : KV) (p1 : Pat) (c1 : KT) (elt : KW) (own own1 : List Nat) : KE := fun σ k => it σ fun ds σ1 => bRec (freeD σ1 own) (kWipe own σ1 fun σw => kLoopC2 p c it1 p1 c1 elt own own1 ds σw fun es σ2 => kOk es (kBack σ1 own σ2 fun σ3 => k true (.list es) σ3))
theorem sLc2 {it it1 : DV} {it' it1' : KV} {p p1 : Pat} {c c1 : DT} {c' c1' : KT} {elt : DW} {elt' : KW} {own own1 : List Nat} (hi : SV it it') (hc : ST c c') (hi1 : SV it1 it1') (hc1 : ST c1 c1') (he : SW elt elt') : SE (fLc2 it p c it1 p1 c1 elt own own1) (kLc2 it' p c' it1' p1 c1' elt' own own1) := fun σ k h => by
  obtain ⟨ds, σ1, h1, h⟩ := hi σ _ h
  obtain ⟨h2, h⟩ := bRec_of h
  rw [kWipe_eq] at h
  obtain ⟨es, σ2, h4, h⟩ := kLoopC2_of hc hi1 hc1 he h
  obtain ⟨h3, h⟩ := kOk_of h
  rw [kBack_eq] at h
  exact ⟨true, _, _, by simp [fLc2, h1, h2, h3, h4], h⟩
/-! ### t.index(k) -/
def kIdxL (x : Int) (ds : List D) : Nat → (Nat → Bool) → Bool := @List.rec D (fun _ => Nat → (Nat → Bool) → Bool) (fun _ _ => false) (fun d _ ih n k => cInt (fun i => @Bool.rec (fun _ => Bool) (ih (Nat.succ n) k) (k n) (decide (i = x))) d) ds
theorem kIdxL_of {x : Int} {k : Nat → Bool} {m : Nat} : ∀ {ds : List D} {n : Nat} {ns : List Int}, allInt ds = some ns → kIdxL x ds n k = true → x ∈ ns ∧ k (n + ns.idxOf x) = true
  | [], n, ns, _, h => by cases h
  | d :: ds, n, ns, ha, h => by
    obtain ⟨i, ed, h0⟩ := cInt_of (d := d) h
    clear h
    subst ed
    have h : @Bool.rec (fun _ => Bool) (kIdxL x ds (Nat.succ n) k) (k n) (decide (i = x)) = true := h0
    clear h0
    simp only [allInt] at ha
    split at ha
    · rename_i ns' e
      cases ha
      by_cases q : i = x
      · rw [decide_eq_true q] at h
        subst q
        exact ⟨by simp, by simpa using h⟩
      · rw [decide_eq_false q] at h
        obtain ⟨h1, h2⟩ := kIdxL_of (m := m) (ds := ds) e h
        refine ⟨by simp [h1], ?_⟩
        rw [List.idxOf_cons, show (i == x) = false by simpa using q, cond_false]
        have e2 : n + (List.idxOf x ns').succ = n.succ + List.idxOf x ns' := by omega
        rw [e2]; exact h2
    · cases ha
def kIdx (i : Nat) (g : KW) : KE := fun σ k => nth i σ fun o d => @Bool.rec (fun _ => Bool) (g σ fun dk σ1 => cTup (fun ds => cInt (fun x => @Option.rec (List Int) (fun _ => Bool) false (fun _ => kIdxL x ds Nat.zero fun n => fN n fun n => k false (.int (Int.ofNat n)) σ1) (allInt ds)) dk) d) false o
theorem sIdx (i : Nat) {f : DW} {g : KW} (h : SW f g) : SE (fIdx i f) (kIdx i g) := fun σ k e => by
  obtain ⟨o, d, e1, u⟩ := nth_of e
  cases o with
  | true => cases u
  | false =>
    obtain ⟨dk, σ1, e2, u1⟩ := h σ _ u
    obtain ⟨ds, ed, u2⟩ := cTup_of u1
    obtain ⟨x, ex, u3⟩ := cInt_of u2
    clear u2 u1 u
    have u := u3
    clear u3
    subst ed ex
    cases ea : allInt ds with
    | none => rw [ea] at u; cases u
    | some ns =>
      rw [ea] at u
      obtain ⟨h1, h2⟩ := kIdxL_of (m := 0) (ds := ds) ea u
      rw [fN_eq, show Nat.zero + ns.idxOf x = ns.idxOf x from Nat.zero_add _] at h2
      exact ⟨false, _, σ1, by simp [fIdx, e1, e2, ea, h1], h2⟩
/-! ### statements -/
def ksNext : KS := fun σ kn _ => kn σ
theorem ssNext : SS fNext ksNext := fun σ kn ko h => ⟨.next, σ, rfl, h⟩
def ksBrk : KS := fun σ _ ko => ko .brk σ
theorem ssBrk : SS fBrk ksBrk := fun σ kn ko h => ⟨.brk, σ, rfl, h⟩
def ksCont : KS := fun σ _ ko => ko .cont σ
theorem ssCont : SS fCont ksCont := fun σ kn ko h => ⟨.cont, σ, rfl, h⟩
def ksStuck : KS := fun _ _ _ => false
theorem ssStuck : SS fStuck ksStuck := fun σ kn ko h => by cases h
def ksSeq (f g : KS) : KS := fun σ kn ko => f σ (fun σ1 => g σ1 kn ko) ko
theorem ssSeq {f f' : DS} {g g' : KS} (h : SS f g) (h' : SS f' g') : SS (fSeq f f') (ksSeq g g') := fun σ kn ko e => by
  obtain ⟨fl, σ1, e1, e⟩ := h σ _ _ e
  cases fl with
  | next =>
    obtain ⟨fl, σ2, e2, e⟩ := h' σ1 _ _ e
    exact ⟨fl, σ2, by simp [fSeq, e1, e2], e⟩
  | brk => exact ⟨.brk, σ1, by simp [fSeq, e1], e⟩
  | cont => exact ⟨.cont, σ1, by simp [fSeq, e1], e⟩
  | ret fr d => exact ⟨.ret fr d, σ1, by simp [fSeq, e1], e⟩
def ksDrop (g : KE) : KS := fun σ kn _ => g σ fun _ _ σ1 => kn σ1
theorem ssDrop {f : DE} {g : KE} (h : SE f g) : SS (fDrop f) (ksDrop g) := fun σ kn ko e => by
  obtain ⟨b, d, σ1, e1, e⟩ := h σ _ e
  exact ⟨.next, σ1, by simp [fDrop, e1], e⟩
def ksRet (g : KE) : KS := fun σ _ ko => g σ fun fr d σ1 => ko (.ret fr d) σ1
theorem ssRet {f : DE} {g : KE} (h : SE f g) : SS (fRet f) (ksRet g) := fun σ kn ko e => by
  obtain ⟨b, d, σ1, e1, e⟩ := h σ _ e
  exact ⟨.ret b d, σ1, by simp [fRet, e1], e⟩
def ksRetN (i : Nat) : KS := fun σ _ ko => nth i σ fun o d => @Bool.rec (fun _ => Bool) (ko (.ret false d) σ) (put i none σ fun σ1 => ko (.ret true d) σ1) o
theorem ssRetN (i : Nat) : SS (fRetN i) (ksRetN i) := fun σ kn ko e => by
  obtain ⟨o, d, e1, e⟩ := nth_of e
  cases o with
  | false => exact ⟨.ret false d, σ, by simp [fRetN, e1], e⟩
  | true =>
    have e : (put i none σ fun σ1 => ko (.ret true d) σ1) = true := e
    rw [put_eq] at e
    exact ⟨.ret true d, _, by simp [fRetN, e1], e⟩
def ksRet0 : KS := fun σ _ ko => ko (.ret false .none) σ
theorem ssRet0 : SS fRet0 ksRet0 := fun σ kn ko e => ⟨_, σ, rfl, e⟩
def ksIf (t : KT) (f g : KS) : KS := fun σ kn ko => t σ (fun σ1 => f σ1 kn ko) (fun σ1 => g σ1 kn ko)
theorem ssIf {t : DT} {t' : KT} {f f' : DS} {g g' : KS} (ht : ST t t') (h : SS f g) (h' : SS f' g') : SS (fIfS t f f') (ksIf t' g g') := fun σ kn ko e => by
  obtain ⟨b, σ1, e1, e⟩ := ht σ _ _ e
  cases b with
  | true =>
    obtain ⟨fl, σ2, e4, e5⟩ := h σ1 _ _ e
    exact ⟨_, σ2, by simp [fIfS, e1, e4], e5⟩
  | false =>
    obtain ⟨fl, σ2, e4, e5⟩ := h' σ1 _ _ e
    exact ⟨_, σ2, by simp [fIfS, e1, e4], e5⟩
def ksAsg (i : Nat) (g : KE) : KS := fun σ kn _ => g σ fun fr d σ1 => put i (some ⟨fr, d⟩) σ1 kn
theorem ssAsg (i : Nat) {f : DE} {g : KE} (h : SE f g) : SS (fAsg i f) (ksAsg i g) := fun σ kn ko e => by
  obtain ⟨b, d, σ1, e1, e⟩ := h σ _ e
  rw [put_eq] at e
  exact ⟨.next, _, by simp [fAsg, e1], e⟩
def ksUnp (p : Pat) (g : KW) : KS := fun σ kn _ => g σ fun d σ1 => kBind p d σ1 kn
theorem ssUnp (p : Pat) {f : DW} {g : KW} (h : SW f g) : SS (fUnp p f) (ksUnp p g) := fun σ kn ko e => by
  obtain ⟨d, σ1, e1, e⟩ := h σ _ e
  obtain ⟨σ2, e2, e⟩ := kBind_of e
  exact ⟨.next, σ2, by simp [fUnp, e1, e2], e⟩
def ksPar (i j : Nat) (g g' : KE) : KS := fun σ kn _ => g σ fun fr d σ1 => g' σ1 fun fr' d' σ2 => put i (some ⟨fr, d⟩) σ2 fun σ3 => put j (some ⟨fr', d'⟩) σ3 kn
theorem ssPar (i j : Nat) {f f' : DE} {g g' : KE} (h : SE f g) (h' : SE f' g') : SS (fPar i j f f') (ksPar i j g g') := fun σ kn ko e => by
  obtain ⟨b, d, σ1, e1, e⟩ := h σ _ e
  obtain ⟨b', d', σ2, e2, e⟩ := h' σ1 _ e
  rw [put_eq, put_eq] at e
  exact ⟨.next, _, by simp [fPar, e1, e2], e⟩
def ksPar3 (i j l : Nat) (g g' g'' : KW) : KS := fun σ kn _ => g σ fun d σ1 => g' σ1 fun d' σ2 => g'' σ2 fun d'' σ3 => put i (some ⟨false, d⟩) σ3 fun σ4 => put j (some ⟨false, d'⟩) σ4 fun σ5 => put l (some ⟨false, d''⟩) σ5 kn
theorem ssPar3 (i j l : Nat) {f f' f'' : DW} {g g' g'' : KW} (h : SW f g) (h' : SW f' g') (h'' : SW f'' g'') : SS (fPar3 i j l f f' f'') (ksPar3 i j l g g' g'') := fun σ kn ko e => by
  obtain ⟨d, σ1, e1, e⟩ := h σ _ e
  obtain ⟨d', σ2, e2, e⟩ := h' σ1 _ e
  obtain ⟨d'', σ3, e3, e⟩ := h'' σ2 _ e
  rw [put_eq, put_eq, put_eq] at e
  exact ⟨.next, _, by simp [fPar3, e1, e2, e3], e⟩
def ksUnp3 (i j l : Nat) (g : KW) (g' : KE) (g'' : KW) : KS := fun σ kn _ => g σ fun d σ1 => g' σ1 fun fr d' σ2 => g'' σ2 fun d'' σ3 => put i (some ⟨false, d⟩) σ3 fun σ4 => put j (some ⟨fr, d'⟩) σ4 fun σ5 => put l (some ⟨false, d''⟩) σ5 kn
theorem ssUnp3 (i j l : Nat) {f : DW} {f' : DE} {f'' : DW} {g : KW} {g' : KE} {g'' : KW} (h : SW f g) (h' : SE f' g') (h'' : SW f'' g'') : SS (fUnp3 i j l f f' f'') (ksUnp3 i j l g g' g'') := fun σ kn ko e => by
  obtain ⟨d, σ1, e1, e⟩ := h σ _ e
  obtain ⟨fr, d', σ2, e2, e⟩ := h' σ1 _ e
  obtain ⟨d'', σ3, e3, e⟩ := h'' σ2 _ e
  rw [put_eq, put_eq, put_eq] at e
  exact ⟨.next, _, by simp [fUnp3, e1, e2, e3], e⟩
def kLoopF (p : Pat) (body : KS) (ds : List D) : KS := @List.rec D (fun _ => KS) (fun σ kn _ => kn σ)
  (fun d _ ih σ kn ko => kBind p d σ fun σ1 => body σ1 (fun σ2 => ih σ2 kn ko) (fun fl σ2 => @Fl.rec (fun _ => Bool) false (kn σ2) (ih σ2 kn ko) (fun fr d => ko (.ret fr d) σ2) fl)) ds
theorem kLoopF_of {p : Pat} {f : DS} {g : KS} (h : SS f g) : ∀ ds : List D, SS (forLoop p f ds) (kLoopF p g ds)
  | [], σ, kn, ko, e => ⟨.next, σ, rfl, e⟩
  | d :: ds, σ, kn, ko, e => by
    obtain ⟨σ1, e1, e⟩ := kBind_of (p := p) (d := d) e
    obtain ⟨fl, σ2, e2, e⟩ := h σ1 _ _ e
    cases fl with
    | next =>
      obtain ⟨fl, σ3, e3, e⟩ := kLoopF_of h ds σ2 kn ko e
      exact ⟨fl, σ3, by simp [forLoop, e1, e2, e3], e⟩
    | cont =>
      obtain ⟨fl, σ3, e3, e⟩ := kLoopF_of h ds σ2 kn ko e
      exact ⟨fl, σ3, by simp [forLoop, e1, e2, e3], e⟩
    | brk => exact ⟨.next, σ2, by simp [forLoop, e1, e2], e⟩
    | ret fr d => exact ⟨.ret fr d, σ2, by simp [forLoop, e1, e2], e⟩
def ksFor (it : KV) (p : Pat) (body : KS) : KS := fun σ kn ko => it σ fun ds σ1 => kLoopF p body ds σ1 kn ko
theorem ssFor {it : DV} {it' : KV} (p : Pat) {f : DS} {g : KS} (hi : SV it it') (h : SS f g) : SS (fFor it p f) (ksFor it' p g) := fun σ kn ko e => by
  obtain ⟨ds, σ1, e1, e⟩ := hi σ _ e
  obtain ⟨fl, σ2, e2, e⟩ := kLoopF_of h ds σ1 kn ko e
  exact ⟨fl, σ2, by simp [fFor, e1, e2], e⟩
def ksWhile (t : KT) (body : KS) (n : Nat) : KS := @Nat.rec (fun _ => KS) (fun _ _ _ => false)
  (fun _ ih σ kn ko => t σ (fun σ1 => body σ1 (fun σ2 => ih σ2 kn ko) (fun fl σ2 => @Fl.rec (fun _ => Bool) false (kn σ2) (ih σ2 kn ko) (fun fr d => ko (.ret fr d) σ2) fl)) kn) n
theorem ssWhile {t : DT} {t' : KT} {f : DS} {g : KS} (ht : ST t t') (h : SS f g) : ∀ n : Nat, SS (fWhile t f n) (ksWhile t' g n)
  | 0, σ, kn, ko, e => by cases e
  | n + 1, σ, kn, ko, e => by
    obtain ⟨b, σ1, e1, e⟩ := ht σ _ _ e
    cases b with
    | false => exact ⟨.next, σ1, by simp [fWhile, e1], e⟩
    | true =>
      obtain ⟨fl, σ2, e2, e⟩ := h σ1 _ _ e
      cases fl with
      | next =>
        obtain ⟨fl, σ3, e3, e⟩ := ssWhile ht h n σ2 kn ko e
        exact ⟨fl, σ3, by simp [fWhile, e1, e2, e3], e⟩
      | cont =>
        obtain ⟨fl, σ3, e3, e⟩ := ssWhile ht h n σ2 kn ko e
        exact ⟨fl, σ3, by simp [fWhile, e1, e2, e3], e⟩
      | brk => exact ⟨.next, σ2, by simp [fWhile, e1, e2], e⟩
      | ret fr d => exact ⟨.ret fr d, σ2, by simp [fWhile, e1, e2], e⟩
/-! ### lists in place -/
def fDset (ds : List D) (j : Nat) (d : D) : (List D → Bool) → Bool := @Nat.rec (fun _ => List D → (List D → Bool) → Bool)
  (fun ds k => @List.rec D (fun _ => Bool) (k []) (fun _ t _ => k (d :: t)) ds)
  (fun _ ih ds k => @List.rec D (fun _ => Bool) (k []) (fun h t _ => ih t fun t' => k (h :: t')) ds) j ds
theorem fDset_eq {d : D} : ∀ {j : Nat} {ds : List D} {k : List D → Bool}, fDset ds j d k = k (ds.set j d)
  | 0, [], k => rfl
  | 0, x :: t, k => rfl
  | i + 1, [], k => rfl
  | i + 1, x :: t, k => by
    show fDset t i d (fun t' => k (x :: t')) = _
    rw [fDset_eq]; rfl
def ksSetIx (i : Nat) (ix g : KW) : KS := fun σ kn _ => g σ fun d σ1 => nth i σ1 fun _ _ => ix σ1 fun dk σ2 => cInt (fun n => nth i σ2 fun o l => bRec o (cList (fun ds => @Option.rec Nat (fun _ => Bool) false (fun j => fDset ds j d fun ds' => put i (some ⟨true, .list ds'⟩) σ2 kn) (ixN ds.length n)) l)) dk
theorem ssSetIx (i : Nat) {ix f : DW} {ix' g : KW} (hx : SW ix ix') (h : SW f g) : SS (fSetIx i ix f) (ksSetIx i ix' g) := fun σ kn ko e => by
  obtain ⟨d, σ1, e1, e⟩ := h σ _ e
  obtain ⟨o0, d0, e2, e⟩ := nth_of e
  obtain ⟨dk, σ2, e3, u1⟩ := hx σ1 _ e
  obtain ⟨n, en, u2⟩ := cInt_of u1
  obtain ⟨o, l, e4, u3⟩ := nth_of u2
  obtain ⟨eo, u4⟩ := bRec_of u3
  obtain ⟨ds, el, u5⟩ := cList_of u4
  subst en eo el
  cases e5 : ixN ds.length n with
  | none => rw [e5] at u5; cases u5
  | some j =>
    rw [e5] at u5
    have u6 : (fDset ds j d fun ds' => put i (some ⟨true, .list ds'⟩) σ2 kn) = true := u5
    rw [fDset_eq, put_eq] at u6
    exact ⟨.next, _, by simp [fSetIx, oSlot, e1, e2, e3, e4, e5], u6⟩
def fSnoc (ds : List D) (d : D) : (List D → Bool) → Bool := @List.rec D (fun _ => (List D → Bool) → Bool) (fun k => k [d]) (fun h _ ih k => ih fun t => k (h :: t)) ds
theorem fSnoc_eq {d : D} : ∀ {ds : List D} {k : List D → Bool}, fSnoc ds d k = k (ds ++ [d])
  | [], k => rfl
  | x :: t, k => by
    show fSnoc t d (fun t' => k (x :: t')) = _
    rw [fSnoc_eq]; rfl
def kApp (i : Nat) (g : KW) : KE := fun σ k => nth i σ fun o l => bRec o (cList (fun _ => g σ fun d σ1 => nth i σ1 fun o l => bRec o (cList (fun ds => kOk ds (fSnoc ds d fun ds' => put i (some ⟨true, .list ds'⟩) σ1 fun σ2 => k false .none σ2)) l)) l)
theorem sApp (i : Nat) {f : DW} {g : KW} (h : SW f g) : SE (fApp i f) (kApp i g) := fun σ k e => by
  obtain ⟨o, l, e1, u1⟩ := nth_of e
  obtain ⟨eo, u2⟩ := bRec_of u1
  obtain ⟨ds0, el, u3⟩ := cList_of u2
  obtain ⟨d, σ1, e2, u4⟩ := h σ _ u3
  obtain ⟨o', l', e3, u5⟩ := nth_of u4
  obtain ⟨eo', u6⟩ := bRec_of u5
  obtain ⟨ds, el', u7⟩ := cList_of u6
  obtain ⟨e4, u8⟩ := kOk_of u7
  subst eo el eo' el'
  rw [fSnoc_eq, put_eq] at u8
  exact ⟨_, _, _, by simp [fApp, e1, e2, e3, e4], u8⟩
/-! ### ranges as lists -/
def krEnds1 (g : KW) : KR := fun σ k => g σ fun d σ1 => cInt (fun j => k (Int.ofNat Nat.zero) j σ1) d
theorem srEnds1 {f : DW} {g : KW} (h : SW f g) : SR (fEnds1 f) (krEnds1 g) := fun σ k e => by
  obtain ⟨d, σ1, e1, e⟩ := h σ _ e
  obtain ⟨j, rfl, e⟩ := cInt_of e
  exact ⟨0, j, σ1, by simp [fEnds1, e1], e⟩
def krEnds2 (g g' : KW) : KR := fun σ k => g σ fun d σ1 => cInt (fun i => g' σ1 fun d' σ2 => cInt (fun j => k i j σ2) d') d
theorem srEnds2 {f f' : DW} {g g' : KW} (h : SW f g) (h' : SW f' g') : SR (fEnds2 f f') (krEnds2 g g') := fun σ k e => by
  obtain ⟨d, σ1, e1, e⟩ := h σ _ e
  obtain ⟨i, ei, u1⟩ := cInt_of e
  obtain ⟨d', σ2, e2, u2⟩ := h' σ1 _ u1
  obtain ⟨j, ej, u3⟩ := cInt_of u2
  subst ei ej
  exact ⟨i, j, σ2, by simp [fEnds2, e1, e2], u3⟩
def kRng (tup : Bool) (g : KR) : KE := fun σ k => g σ fun i j σ1 => bRec (small62 i && (small62 j && okLen (j - i).toNat)) (fRn i (Int.toNat (Int.sub j i)) fun ds => @Bool.rec (fun _ => Bool) (k true (.list ds) σ1) (k false (.tuple ds) σ1) tup)
theorem sRng (tup : Bool) {f : SD → Option (Int × Int × SD)} {g : KR} (h : SR f g) : SE (fRng tup f) (kRng tup g) := fun σ k e => by
  obtain ⟨i, j, σ1, e1, e⟩ := h σ _ e
  obtain ⟨e2, e⟩ := bRec_of e
  rw [fRn_eq] at e
  cases tup with
  | true => exact ⟨false, _, σ1, by simp only [fRng, e1, e2]; rfl, e⟩
  | false => exact ⟨true, _, σ1, by simp only [fRng, e1, e2]; rfl, e⟩
end Ev
end
/-! ## EvK3 -/
noncomputable section
set_option Elab.async false
set_option linter.all false
set_option maxRecDepth 100000
set_option maxHeartbeats 1000000
/-! EvK3: quick primitives; calls and defs. -/
namespace Ev
open PySem L2

/-! ### integers -/
def eqI (i j : Int) : Bool := @Int.rec (fun _ => Bool) (fun m => @Int.rec (fun _ => Bool) (fun n => Nat.beq m n) (fun _ => false) j) (fun m => @Int.rec (fun _ => Bool) (fun _ => false) (fun n => Nat.beq m n) j) i
theorem nbeq (m n : Nat) : Nat.beq m n = decide (m = n) := by
  rw [Bool.eq_iff_iff, decide_eq_true_iff]; exact Nat.beq_eq ▸ Iff.rfl
theorem eqI_eq (i j : Int) : eqI i j = decide (i = j) := by
  rw [Bool.eq_iff_iff, decide_eq_true_iff]
  cases i with
  | ofNat m => cases j with
    | ofNat n => show Nat.beq m n = true ↔ _; rw [Nat.beq_eq, Int.ofNat_eq_natCast, Int.ofNat_eq_natCast]; omega
    | negSucc n => show false = true ↔ _; rw [Int.ofNat_eq_natCast]; simp
  | negSucc m => cases j with
    | ofNat n => show false = true ↔ _; rw [Int.ofNat_eq_natCast]; simp
    | negSucc n => show Nat.beq m n = true ↔ _; rw [Nat.beq_eq]; omega
def ltI (i j : Int) : Bool := @Int.rec (fun _ => Bool) (fun m => @Int.rec (fun _ => Bool) (fun n => Nat.ble (Nat.succ m) n) (fun _ => false) j) (fun m => @Int.rec (fun _ => Bool) (fun _ => true) (fun n => Nat.ble (Nat.succ n) m) j) i
theorem ltI_eq (i j : Int) : ltI i j = decide (i < j) := by
  rw [Bool.eq_iff_iff, decide_eq_true_iff]
  cases i with
  | ofNat m => cases j with
    | ofNat n => show Nat.ble (Nat.succ m) n = true ↔ _; rw [Nat.ble_eq, Int.ofNat_eq_natCast, Int.ofNat_eq_natCast]; omega
    | negSucc n => show false = true ↔ _; rw [Int.ofNat_eq_natCast]; simp; omega
  | negSucc m => cases j with
    | ofNat n => show true = true ↔ _; rw [Int.ofNat_eq_natCast]; simp; omega
    | negSucc n => show Nat.ble (Nat.succ n) m = true ↔ _; rw [Nat.ble_eq]; omega
def leI (i j : Int) : Bool := @Int.rec (fun _ => Bool) (fun m => @Int.rec (fun _ => Bool) (fun n => Nat.ble m n) (fun _ => false) j) (fun m => @Int.rec (fun _ => Bool) (fun _ => true) (fun n => Nat.ble n m) j) i
theorem leI_eq (i j : Int) : leI i j = decide (i ≤ j) := by
  rw [Bool.eq_iff_iff, decide_eq_true_iff]
  cases i with
  | ofNat m => cases j with
    | ofNat n => show Nat.ble m n = true ↔ _; rw [Nat.ble_eq, Int.ofNat_eq_natCast, Int.ofNat_eq_natCast]; omega
    | negSucc n => show false = true ↔ _; rw [Int.ofNat_eq_natCast]; simp; omega
  | negSucc m => cases j with
    | ofNat n => show true = true ↔ _; rw [Int.ofNat_eq_natCast]; simp; omega
    | negSucc n => show Nat.ble n m = true ↔ _; rw [Nat.ble_eq]; omega
def addI (i j : Int) (k : Int → Bool) : Bool := @Int.rec (fun _ => Bool) (fun m => @Int.rec (fun _ => Bool) (fun n => fN (Nat.add m n) fun r => k (Int.ofNat r)) (fun _ => fI (Int.add i j) k) j) (fun _ => fI (Int.add i j) k) i
theorem addI_eq (i j : Int) (k : Int → Bool) : addI i j k = k (i + j) := by
  cases i with
  | ofNat m => cases j with
    | ofNat n => exact fN_eq (m + n) fun r => k (Int.ofNat r)
    | negSucc n => exact fI_eq (Int.ofNat m + Int.negSucc n) k
  | negSucc m => exact fI_eq (Int.negSucc m + j) k
def subI (i j : Int) (k : Int → Bool) : Bool := @Int.rec (fun _ => Bool) (fun m => @Int.rec (fun _ => Bool) (fun n => @Nat.rec (fun _ => Bool) (fN (Nat.sub m n) fun r => k (Int.ofNat r)) (fun r _ => k (Int.negSucc r)) (Nat.sub n m)) (fun _ => fI (Int.sub i j) k) j) (fun _ => fI (Int.sub i j) k) i
theorem subI_eq (i j : Int) (k : Int → Bool) : subI i j k = k (i - j) := by
  cases i with
  | ofNat m => cases j with
    | ofNat n =>
      show (@Nat.rec (fun _ => Bool) (fN (Nat.sub m n) fun r => k (Int.ofNat r)) (fun r _ => k (Int.negSucc r)) (Nat.sub n m)) = _
      have e : Nat.sub n m = n - m := rfl
      rw [e]
      cases h : n - m with
      | zero =>
        show fN (m - n) _ = _
        rw [fN_eq]
        congr 1
        show ((m - n : Nat) : Int) = (m : Int) - n
        omega
      | succ r =>
        show k (Int.negSucc r) = _
        congr 1
        show _ = (m : Int) - n
        omega
    | negSucc n => exact fI_eq (Int.ofNat m - Int.negSucc n) k
  | negSucc m => exact fI_eq (Int.negSucc m - j) k
def s64 (i : Int) : Bool := @Int.rec (fun _ => Bool) (fun m => Nat.ble (Nat.succ m) 18446744073709551616) (fun m => Nat.ble (Nat.succ (Nat.succ m)) 18446744073709551616) i
theorem s64_of {i : Int} (h : s64 i = true) : small64 i = true := by
  cases i with
  | ofNat m =>
    have h : Nat.ble (Nat.succ m) 18446744073709551616 = true := h
    rw [Nat.ble_eq] at h
    simp only [small64, Bool.and_eq_true, decide_eq_true_iff, Int.ofNat_eq_natCast]
    omega
  | negSucc m =>
    have h : Nat.ble (Nat.succ (Nat.succ m)) 18446744073709551616 = true := h
    rw [Nat.ble_eq] at h
    simp only [small64, Bool.and_eq_true, decide_eq_true_iff]
    omega
def mulI (i j : Int) (k : Int → Bool) : Bool := @Int.rec (fun _ => Bool) (fun m => @Int.rec (fun _ => Bool) (fun n => fN (Nat.mul m n) fun r => k (Int.ofNat r)) (fun _ => fI (Int.mul i j) k) j) (fun _ => fI (Int.mul i j) k) i
theorem mulI_eq (i j : Int) (k : Int → Bool) : mulI i j k = k (i * j) := by
  cases i with
  | ofNat m => cases j with
    | ofNat n => exact fN_eq (m * n) fun r => k (Int.ofNat r)
    | negSucc n => exact fI_eq (Int.ofNat m * Int.negSucc n) k
  | negSucc m => exact fI_eq (Int.negSucc m * j) k
/-- below 2^30 and above nought -/
def divI (i j : Int) (k : Int → Bool) : Bool := @Int.rec (fun _ => Bool) (fun n => @Int.rec (fun _ => Bool) (fun m => fN (Nat.div m n) fun r => k (Int.ofNat r)) (fun _ => fI (i / j) k) i) (fun _ => fI (i / j) k) j
theorem divI_eq (i j : Int) (k : Int → Bool) : divI i j k = k (i / j) := by
  cases j with
  | ofNat n => cases i with
    | ofNat m => exact fN_eq (m / n) fun r => k (Int.ofNat r)
    | negSucc m => exact fI_eq (Int.negSucc m / Int.ofNat n) k
  | negSucc n => exact fI_eq (i / Int.negSucc n) k
def modI (i j : Int) (k : Int → Bool) : Bool := @Int.rec (fun _ => Bool) (fun n => @Int.rec (fun _ => Bool) (fun m => fN (Nat.mod m n) fun r => k (Int.ofNat r)) (fun _ => fI (i % j) k) i) (fun _ => fI (i % j) k) j
theorem modI_eq (i j : Int) (k : Int → Bool) : modI i j k = k (i % j) := by
  cases j with
  | ofNat n => cases i with
    | ofNat m => exact fN_eq (m % n) fun r => k (Int.ofNat r)
    | negSucc m => exact fI_eq (Int.negSucc m % Int.ofNat n) k
  | negSucc n => exact fI_eq (i % Int.negSucc n) k
def pos30 (j : Int) : Bool := @Int.rec (fun _ => Bool) (fun n => bRec (Nat.ble (Nat.succ Nat.zero) n) (Nat.ble (Nat.succ n) 1073741824)) (fun _ => false) j
theorem pos30_of {j : Int} (h : pos30 j = true) : (decide (0 < j) && decide (j < 1073741824)) = true := by
  cases j with
  | negSucc n => cases h
  | ofNat n =>
    obtain ⟨h1, h2⟩ := bRec_of (b := Nat.ble (Nat.succ Nat.zero) n) h
    rw [Nat.ble_eq] at h1 h2
    simp only [Bool.and_eq_true, decide_eq_true_iff, Int.ofNat_eq_natCast]
    omega
def posI (j : Int) : Bool := @Int.rec (fun _ => Bool) (fun n => Nat.ble (Nat.succ Nat.zero) n) (fun _ => false) j
theorem posI_of {j : Int} (h : posI j = true) : decide (0 < j) = true := by
  cases j with
  | negSucc n => cases h
  | ofNat n =>
    have h : Nat.ble (Nat.succ Nat.zero) n = true := h
    rw [Nat.ble_eq] at h
    simp only [decide_eq_true_iff, Int.ofNat_eq_natCast]
    omega
/-! ### lists -/
def fCat (as bs : List D) : (List D → Bool) → Bool := @List.rec D (fun _ => (List D → Bool) → Bool) (fun k => k bs) (fun h _ ih k => ih fun t => k (h :: t)) as
theorem fCat_eq {bs : List D} : ∀ {as : List D} {k : List D → Bool}, fCat as bs k = k (as ++ bs)
  | [], k => rfl
  | x :: t, k => by
    show fCat t bs (fun t' => k (x :: t')) = _
    rw [fCat_eq]; rfl
def tAdd : K2 := fun a b k => @PyData.rec (fun _ => Bool) (fun _ => Bool) (fun _ => Bool) (fun _ => Bool) false (fun _ => false)
  (fun i => cInt (fun j => addI i j fun r => k false (.int r)) b) (fun _ => kG (qAdd [a, b]) k)
  (fun as _ => cList (fun bs => fCat as bs fun ds => kOk ds (k true (.list ds))) b) (fun as _ => cTup (fun bs => fCat as bs fun ds => kOk ds (k false (.tuple ds))) b)
  (fun _ _ => false) false (fun _ _ _ _ => false) false (fun _ _ _ _ => false) (fun _ _ _ _ => false) a
theorem stAdd : S2 qAdd tAdd := fun a b k e => by
  cases a with
  | int i =>
    obtain ⟨j, ej, u⟩ := cInt_of (d := b) e
    subst ej
    rw [addI_eq] at u
    exact ⟨_, _, rfl, u⟩
  | str s => exact kG_of (r := qAdd [.str s, b]) e
  | list as =>
    obtain ⟨bs, eb, u⟩ := cList_of (d := b) e
    subst eb
    rw [fCat_eq] at u
    obtain ⟨u1, u2⟩ := kOk_of u
    rw [List.length_append] at u1
    exact ⟨_, _, by simp [qAdd, pElse, pAddI, pII0, pCatL, u1], u2⟩
  | tuple as =>
    obtain ⟨bs, eb, u⟩ := cTup_of (d := b) e
    subst eb
    rw [fCat_eq] at u
    obtain ⟨u1, u2⟩ := kOk_of u
    rw [List.length_append] at u1
    exact ⟨_, _, by simp [qAdd, pElse, pAddI, pII0, pCatL, pCatT, u1], u2⟩
  | _ => cases e
def tSub : K2 := fun a b k => cInt (fun i => cInt (fun j => subI i j fun r => k false (.int r)) b) a
theorem stSub : S2 pSubI tSub := fun a b k e => by
  obtain ⟨i, ei, u'⟩ := cInt_of e
  obtain ⟨j, ej, u⟩ := cInt_of u'
  subst ei ej
  rw [subI_eq] at u
  exact ⟨_, _, rfl, u⟩
def tMul : K2 := fun a b k => @PyData.rec (fun _ => Bool) (fun _ => Bool) (fun _ => Bool) (fun _ => Bool) false (fun _ => false)
  (fun i => cInt (fun j => @Bool.rec (fun _ => Bool) (bRec (s64 j) (mulI i j fun r => k false (.int r))) (mulI i j fun r => k false (.int r)) (s64 i)) b) (fun _ => false)
  (fun _ _ => kG (qMul [a, b]) k) (fun _ _ => kG (qMul [a, b]) k)
  (fun _ _ => false) false (fun _ _ _ _ => false) false (fun _ _ _ _ => false) (fun _ _ _ _ => false) a
theorem stMul : S2 qMul tMul := fun a b k e => by
  cases a with
  | int i =>
    obtain ⟨j, ej, u⟩ := cInt_of (d := b) e
    subst ej
    have key : (small64 i || small64 j) = true ∧ k false (.int (i * j)) = true := by
      cases h : s64 i with
      | true =>
        rw [h] at u
        have u : (mulI i j fun r => k false (.int r)) = true := u
        rw [mulI_eq] at u
        exact ⟨by rw [s64_of h]; rfl, u⟩
      | false =>
        rw [h] at u
        obtain ⟨u1, u2⟩ := bRec_of u
        rw [mulI_eq] at u2
        exact ⟨by rw [s64_of u1]; simp, u2⟩
    exact ⟨_, _, by simp [qMul, pElse, pMulI, pII, key.1], key.2⟩
  | list as => exact kG_of (r := qMul [.list as, b]) e
  | tuple as => exact kG_of (r := qMul [.tuple as, b]) e
  | _ => cases e
def tDiv : K2 := fun a b k => cInt (fun i => cInt (fun j => bRec (pos30 j) (divI i j fun r => k false (.int r))) b) a
theorem stDiv : S2 pDivI tDiv := fun a b k e => by
  obtain ⟨i, ei, u'⟩ := cInt_of e
  obtain ⟨j, ej, u⟩ := cInt_of u'
  subst ei ej
  obtain ⟨u1, u2⟩ := bRec_of u
  rw [divI_eq] at u2
  exact ⟨_, _, by simp only [pDivI, pII, pos30_of u1, if_true], u2⟩
def tMod : K2 := fun a b k => cInt (fun i => cInt (fun j => bRec (posI j) (modI i j fun r => k false (.int r))) b) a
theorem stMod : S2 pModI tMod := fun a b k e => by
  obtain ⟨i, ei, u'⟩ := cInt_of e
  obtain ⟨j, ej, u⟩ := cInt_of u'
  subst ei ej
  obtain ⟨u1, u2⟩ := bRec_of u
  rw [modI_eq] at u2
  exact ⟨_, _, by simp only [pModI, pII, posI_of u1, if_true], u2⟩
def tLt : K2 := fun a b k => cInt (fun i => cInt (fun j => @Bool.rec (fun _ => Bool) (k false (.bool false)) (k false (.bool true)) (ltI i j)) b) a
theorem stLt : S2 pLtI tLt := fun a b k e => by
  obtain ⟨i, ei, u'⟩ := cInt_of e
  obtain ⟨j, ej, u⟩ := cInt_of u'
  subst ei ej
  refine ⟨_, _, rfl, ?_⟩
  show k false (.bool (decide _)) = true
  rw [← ltI_eq]
  cases h : ltI i j <;> (rw [h] at u; exact u)
def tLe : K2 := fun a b k => cInt (fun i => cInt (fun j => @Bool.rec (fun _ => Bool) (k false (.bool false)) (k false (.bool true)) (leI i j)) b) a
theorem stLe : S2 pLeI tLe := fun a b k e => by
  obtain ⟨i, ei, u'⟩ := cInt_of e
  obtain ⟨j, ej, u⟩ := cInt_of u'
  subst ei ej
  refine ⟨_, _, rfl, ?_⟩
  show k false (.bool (decide _)) = true
  rw [← leI_eq]
  cases h : leI i j <;> (rw [h] at u; exact u)
def tGt : K2 := fun a b k => cInt (fun i => cInt (fun j => @Bool.rec (fun _ => Bool) (k false (.bool false)) (k false (.bool true)) (ltI j i)) b) a
theorem stGt : S2 pGtI tGt := fun a b k e => by
  obtain ⟨i, ei, u'⟩ := cInt_of e
  obtain ⟨j, ej, u⟩ := cInt_of u'
  subst ei ej
  refine ⟨_, _, rfl, ?_⟩
  show k false (.bool (decide _)) = true
  rw [← ltI_eq]
  cases h : ltI j i <;> (rw [h] at u; exact u)
def tGe : K2 := fun a b k => cInt (fun i => cInt (fun j => @Bool.rec (fun _ => Bool) (k false (.bool false)) (k false (.bool true)) (leI j i)) b) a
theorem stGe : S2 pGeI tGe := fun a b k e => by
  obtain ⟨i, ei, u'⟩ := cInt_of e
  obtain ⟨j, ej, u⟩ := cInt_of u'
  subst ei ej
  refine ⟨_, _, rfl, ?_⟩
  show k false (.bool (decide _)) = true
  rw [← leI_eq]
  cases h : leI j i <;> (rw [h] at u; exact u)
/-! ### equality -/
def shK (d : D) : Nat → Bool := @PyData.rec (fun _ => Nat → Bool) (fun _ => Nat → Bool) (fun _ => Nat → Bool) (fun _ => Nat → Bool)
  (fun _ => true) (fun _ _ => true) (fun _ _ => true) (fun s _ => PyData.canLay0 (.str s))
  (fun _ ih n => @Nat.rec (fun _ => Bool) false (fun m _ => ih m) n) (fun _ ih n => @Nat.rec (fun _ => Bool) false (fun m _ => ih m) n) (fun _ _ _ => false)
  (fun _ => true) (fun _ _ ih iht n => bRec (ih n) (iht n)) (fun _ => true) (fun _ _ _ _ _ => false) (fun _ _ _ _ _ => false) d
def shKs (d : List D) : Nat → Bool := @PyData.rec_1 (fun _ => Nat → Bool) (fun _ => Nat → Bool) (fun _ => Nat → Bool) (fun _ => Nat → Bool)
  (fun _ => true) (fun _ _ => true) (fun _ _ => true) (fun s _ => PyData.canLay0 (.str s))
  (fun _ ih n => @Nat.rec (fun _ => Bool) false (fun m _ => ih m) n) (fun _ ih n => @Nat.rec (fun _ => Bool) false (fun m _ => ih m) n) (fun _ _ _ => false)
  (fun _ => true) (fun _ _ ih iht n => bRec (ih n) (iht n)) (fun _ => true) (fun _ _ _ _ _ => false) (fun _ _ _ _ _ => false) d
mutual
theorem shK_of : ∀ {d : D} {n : Nat}, shK d n = true → d.canLay0 = true ∧ d.depth ≤ n ∧ noDict d = true
  | .none, n, h => ⟨by simp [PyData.canLay0], by simp [PyData.depth], rfl⟩
  | .bool _, n, h => ⟨by simp [PyData.canLay0], by simp [PyData.depth], rfl⟩
  | .int _, n, h => ⟨by simp [PyData.canLay0], by simp [PyData.depth], rfl⟩
  | .str s, n, h => ⟨h, by simp [PyData.depth], rfl⟩
  | .list xs, 0, h => by cases h
  | .list xs, n + 1, h => by
    obtain ⟨h1, h2⟩ := shKs_of (d := xs) (n := n) h
    exact ⟨by simp [PyData.canLay0, h1], by simp only [PyData.depth]; omega, rfl⟩
  | .tuple xs, 0, h => by cases h
  | .tuple xs, n + 1, h => by
    obtain ⟨h1, h2⟩ := shKs_of (d := xs) (n := n) h
    exact ⟨by simp [PyData.canLay0, h1], by simp only [PyData.depth]; omega, rfl⟩
  | .dict xs, n, h => by cases h
theorem shKs_of : ∀ {d : List D} {n : Nat}, shKs d n = true → PyData.canLayAll0 d = true ∧ PyData.depthAll d ≤ n
  | [], n, h => ⟨by simp [PyData.canLayAll0], by simp [PyData.depthAll]⟩
  | x :: xs, n, h => by
    obtain ⟨h1, h2⟩ := bRec_of (b := shK x n) (t := shKs xs n) h
    obtain ⟨a1, a2, _⟩ := shK_of h1
    obtain ⟨b1, b2⟩ := shKs_of h2
    exact ⟨by simp [PyData.canLayAll0, a1, b1], by simp only [PyData.depthAll]; omega⟩
end
theorem shK_shaped {d : D} (h : shK d 64 = true) : SeqAt.shaped d = true ∧ noDict d = true := by
  obtain ⟨h1, h2, h3⟩ := shK_of h
  exact ⟨by simp [SeqAt.shaped, h1, h2], h3⟩
def eqIB (i : Int) (b : D) : Bool := @PyData.rec (fun _ => Bool) (fun _ => Bool) (fun _ => Bool) (fun _ => Bool) false (fun x => PyData.eqv (.int i) (.bool x)) (fun j => eqI i j) (fun _ => false) (fun _ _ => false) (fun _ _ => false) (fun _ _ => false) false (fun _ _ _ _ => false) false (fun _ _ _ _ => false) (fun _ _ _ _ => false) b
theorem eqIB_eq (i : Int) (b : D) : eqIB i b = PyData.eqv (.int i) b := by
  cases b <;> simp only [eqIB, PyData.eqv]
  rw [eqI_eq]; rfl
def eqK (d : D) : D → Bool := @PyData.rec (fun _ => D → Bool) (fun _ => List D → Bool) (fun _ => List (D × D) → Bool) (fun _ => D × D → Bool)
  (fun b => isNone b) (fun x b => PyData.eqv (.bool x) b) (fun i b => eqIB i b) (fun s b => PyData.eqv (.str s) b)
  (fun _ ih b => cList ih b) (fun _ ih b => cTup ih b) (fun _ _ _ => false)
  (fun ys => @List.rec D (fun _ => Bool) true (fun _ _ _ => false) ys) (fun _ _ ih iht ys => @List.rec D (fun _ => Bool) false (fun y yt _ => bRec (ih y) (iht yt)) ys)
  (fun _ => false) (fun _ _ _ _ _ => false) (fun _ _ _ _ _ => false) d
def eqKs (d : List D) : List D → Bool := @PyData.rec_1 (fun _ => D → Bool) (fun _ => List D → Bool) (fun _ => List (D × D) → Bool) (fun _ => D × D → Bool)
  (fun b => isNone b) (fun x b => PyData.eqv (.bool x) b) (fun i b => eqIB i b) (fun s b => PyData.eqv (.str s) b)
  (fun _ ih b => cList ih b) (fun _ ih b => cTup ih b) (fun _ _ _ => false)
  (fun ys => @List.rec D (fun _ => Bool) true (fun _ _ _ => false) ys) (fun _ _ ih iht ys => @List.rec D (fun _ => Bool) false (fun y yt _ => bRec (ih y) (iht yt)) ys)
  (fun _ => false) (fun _ _ _ _ _ => false) (fun _ _ _ _ _ => false) d
theorem bRec_and (a b : Bool) : bRec a b = (a && b) := by cases a <;> rfl
mutual
theorem eqK_eq : ∀ (a b : D), eqK a b = PyData.eqv a b
  | .none, b => by cases b <;> simp [eqK, isNone, PyData.eqv]
  | .bool x, b => rfl
  | .int i, b => eqIB_eq i b
  | .str s, b => rfl
  | .list xs, b => by
    show cList (eqKs xs) b = _
    cases b <;> simp only [cList, PyData.eqv]
    exact eqKs_eq xs _
  | .tuple xs, b => by
    show cTup (eqKs xs) b = _
    cases b <;> simp only [cTup, PyData.eqv]
    exact eqKs_eq xs _
  | .dict xs, b => by
    show false = _
    cases b <;> simp only [PyData.eqv]
theorem eqKs_eq : ∀ (a b : List D), eqKs a b = PyData.eqvAll a b
  | [], [] => by simp [eqKs, PyData.eqvAll]
  | [], _ :: _ => by simp [eqKs, PyData.eqvAll]
  | _ :: _, [] => by simp [eqKs, PyData.eqvAll]
  | x :: xs, y :: ys => by
    show bRec (eqK x y) (eqKs xs ys) = _
    rw [bRec_and, eqK_eq x y, eqKs_eq xs ys]
    simp [PyData.eqvAll]
end
/-- the flat ones at once, others by shape -/
def tEqB (neg : Bool) (p : Prim) : K2 := fun a b k => @PyData.rec (fun _ => Bool) (fun _ => Bool) (fun _ => Bool) (fun _ => Bool) (kG (p [a, b]) k) (fun _ => kG (p [a, b]) k)
  (fun i => @PyData.rec (fun _ => Bool) (fun _ => Bool) (fun _ => Bool) (fun _ => Bool) (kG (p [a, b]) k) (fun _ => kG (p [a, b]) k) (fun j => @Bool.rec (fun _ => Bool) (k false (.bool neg)) (k false (.bool (!neg))) (eqI i j)) (fun _ => kG (p [a, b]) k) (fun _ _ => kG (p [a, b]) k) (fun _ _ => kG (p [a, b]) k) (fun _ _ => false) false (fun _ _ _ _ => false) false (fun _ _ _ _ => false) (fun _ _ _ _ => false) b)
  (fun _ => kG (p [a, b]) k)
  (fun _ _ => bRec (shK a 64) (bRec (shK b 64) (@Bool.rec (fun _ => Bool) (k false (.bool neg)) (k false (.bool (!neg))) (eqK a b))))
  (fun _ _ => bRec (shK a 64) (bRec (shK b 64) (@Bool.rec (fun _ => Bool) (k false (.bool neg)) (k false (.bool (!neg))) (eqK a b))))
  (fun _ _ => false) false (fun _ _ _ _ => false) false (fun _ _ _ _ => false) (fun _ _ _ _ => false) a
theorem bool_pick {c : Bool} {x y : Bool} (h : @Bool.rec (fun _ => Bool) x y c = true) : (c = true ∧ y = true) ∨ (c = false ∧ x = true) := by
  cases c with
  | true => exact .inl ⟨rfl, h⟩
  | false => exact .inr ⟨rfl, h⟩
theorem eq_seq {a b : D} (ha : ∀ i j, ¬ (a = .int i ∧ b = .int j)) (ha2 : ∀ i j, ¬ (a = .bool i ∧ b = .bool j)) (ha3 : ∀ i j, ¬ (a = .str i ∧ b = .str j)) (h1 : shK a 64 = true) (h2 : shK b 64 = true) : qEq [a, b] = some (false, .bool (eqK a b)) ∧ qNe [a, b] = some (false, .bool (!eqK a b)) := by
  obtain ⟨s1, n1⟩ := shK_shaped h1
  obtain ⟨s2, n2⟩ := shK_shaped h2
  rw [eqK_eq]
  constructor
  · have e : pEqS [a, b] = none := by
      unfold pEqS; split
      · rename_i i j q; injection q with q1 q2; injection q2 with q2 _; exact (ha i j ⟨q1, q2⟩).elim
      · rename_i i j q; injection q with q1 q2; injection q2 with q2 _; exact (ha2 i j ⟨q1, q2⟩).elim
      · rename_i i j q; injection q with q1 q2; injection q2 with q2 _; exact (ha3 i j ⟨q1, q2⟩).elim
      · rfl
    simp [qEq, pElse, e, pEqD, s1, s2, n1, n2]
  · have e : pNeS [a, b] = none := by
      unfold pNeS; split
      · rename_i i j q; injection q with q1 q2; injection q2 with q2 _; exact (ha i j ⟨q1, q2⟩).elim
      · rename_i i j q; injection q with q1 q2; injection q2 with q2 _; exact (ha2 i j ⟨q1, q2⟩).elim
      · rename_i i j q; injection q with q1 q2; injection q2 with q2 _; exact (ha3 i j ⟨q1, q2⟩).elim
      · rfl
    simp [qNe, pElse, e, pNeD, s1, s2, n1, n2]
def tEq : K2 := tEqB false qEq
theorem stEq : S2 qEq tEq := fun a b k e => by
  cases a with
  | int i => cases b with
    | int j =>
      have e : (@Bool.rec (fun _ => Bool) (k false (.bool false)) (k false (.bool (!false))) (eqI i j)) = true := e
      refine ⟨false, .bool (eqI i j), by rw [eqI_eq]; rfl, ?_⟩
      rcases bool_pick e with ⟨h, u⟩ | ⟨h, u⟩ <;> rw [h] <;> exact u
    | dict x => cases e
    | none => exact kG_of e
    | bool x => exact kG_of e
    | str x => exact kG_of e
    | list x => exact kG_of e
    | tuple x => exact kG_of e
  | list as =>
    obtain ⟨h1, u⟩ := bRec_of (b := shK (.list as) 64) e
    obtain ⟨h2, u⟩ := bRec_of u
    refine ⟨false, .bool (eqK (.list as) b), (eq_seq (by simp) (by simp) (by simp) h1 h2).1, ?_⟩
    rcases bool_pick u with ⟨h, u⟩ | ⟨h, u⟩ <;> rw [h] <;> exact u
  | tuple as =>
    obtain ⟨h1, u⟩ := bRec_of (b := shK (.tuple as) 64) e
    obtain ⟨h2, u⟩ := bRec_of u
    refine ⟨false, .bool (eqK (.tuple as) b), (eq_seq (by simp) (by simp) (by simp) h1 h2).1, ?_⟩
    rcases bool_pick u with ⟨h, u⟩ | ⟨h, u⟩ <;> rw [h] <;> exact u
  | dict _ => cases e
  | none => exact kG_of e
  | bool x => exact kG_of e
  | str x => exact kG_of e
def tNe : K2 := tEqB true qNe
theorem stNe : S2 qNe tNe := fun a b k e => by
  cases a with
  | int i => cases b with
    | int j =>
      have e : (@Bool.rec (fun _ => Bool) (k false (.bool true)) (k false (.bool (!true))) (eqI i j)) = true := e
      refine ⟨false, .bool (!eqI i j), by rw [eqI_eq]; rfl, ?_⟩
      rcases bool_pick e with ⟨h, u⟩ | ⟨h, u⟩ <;> rw [h] <;> exact u
    | dict x => cases e
    | none => exact kG_of e
    | bool x => exact kG_of e
    | str x => exact kG_of e
    | list x => exact kG_of e
    | tuple x => exact kG_of e
  | list as =>
    obtain ⟨h1, u⟩ := bRec_of (b := shK (.list as) 64) e
    obtain ⟨h2, u⟩ := bRec_of u
    refine ⟨false, .bool (!eqK (.list as) b), (eq_seq (by simp) (by simp) (by simp) h1 h2).2, ?_⟩
    rcases bool_pick u with ⟨h, u⟩ | ⟨h, u⟩ <;> rw [h] <;> exact u
  | tuple as =>
    obtain ⟨h1, u⟩ := bRec_of (b := shK (.tuple as) 64) e
    obtain ⟨h2, u⟩ := bRec_of u
    refine ⟨false, .bool (!eqK (.tuple as) b), (eq_seq (by simp) (by simp) (by simp) h1 h2).2, ?_⟩
    rcases bool_pick u with ⟨h, u⟩ | ⟨h, u⟩ <;> rw [h] <;> exact u
  | dict _ => cases e
  | none => exact kG_of e
  | bool x => exact kG_of e
  | str x => exact kG_of e
/-! ### places, lengths -/
def nthD (n : Nat) (ds : List D) (k : D → Bool) : Bool := @Nat.rec (fun _ => List D → Bool)
  (fun ds => @List.rec D (fun _ => Bool) false (fun h _ _ => k h) ds)
  (fun _ ih ds => @List.rec D (fun _ => Bool) false (fun _ t _ => ih t) ds) n ds
theorem nthD_of {k : D → Bool} : ∀ {n : Nat} {ds : List D}, nthD n ds k = true → ∃ d, ds[n]? = some d ∧ k d = true
  | 0, [], h => by cases h
  | 0, x :: t, h => ⟨x, rfl, h⟩
  | n + 1, [], h => by cases h
  | n + 1, x :: t, h => by
    obtain ⟨d, h1, h2⟩ := nthD_of (k := k) (n := n) (ds := t) h
    exact ⟨d, by simpa using h1, h2⟩
theorem atI_nat {ds : List D} {n : Nat} {d : D} (h : ds[n]? = some d) : atI ds (Int.ofNat n) = some d := by
  have hl : n < ds.length := by
    rcases Nat.lt_or_ge n ds.length with z | z
    · exact z
    · rw [List.getElem?_eq_none z] at h; cases h
  have e : ixN ds.length (Int.ofNat n) = some n := by
    unfold ixN
    rw [if_pos (by simp), if_pos (by simpa using hl)]
    simp
  simp only [atI, e, Option.bind_some, h]
def ixSeq (ds : List D) (i : Int) (k : Bool → D → Bool) : Bool := @Int.rec (fun _ => Bool) (fun n => nthD n ds fun d => k false d) (fun _ => @Option.rec D (fun _ => Bool) false (fun d => fD d fun d => k false d) (atI ds i)) i
theorem ixSeq_of {ds : List D} {i : Int} {k : Bool → D → Bool} (h : ixSeq ds i k = true) : ∃ d, atI ds i = some d ∧ k false d = true := by
  cases i with
  | ofNat n =>
    obtain ⟨d, h1, h2⟩ := nthD_of (n := n) (ds := ds) (k := fun d => k false d) h
    exact ⟨d, atI_nat h1, h2⟩
  | negSucc n =>
    cases e : atI ds (Int.negSucc n) with
    | none => simp only [ixSeq, e] at h; cases h
    | some d =>
      simp only [ixSeq, e, fD_eq] at h
      exact ⟨d, rfl, h⟩
def tIx : K2 := fun a b k => cSeq (fun ds => cInt (fun i => ixSeq ds i k) b) a
theorem stIx : S2 pIx tIx := fun a b k e => by
  obtain ⟨ds, h, u⟩ := cSeq_of e
  obtain ⟨i, ei, u⟩ := cInt_of u
  subst ei
  obtain ⟨d, e1, u⟩ := ixSeq_of u
  rcases h with rfl | rfl <;> exact ⟨false, d, by simp [pIx, e1], u⟩
def tLen : K1 := fun a k => @PyData.rec (fun _ => Bool) (fun _ => Bool) (fun _ => Bool) (fun _ => Bool) false (fun _ => false) (fun _ => false) (fun _ => kG (qLen [a]) k)
  (fun ds _ => fN (@List.rec D (fun _ => Nat) Nat.zero (fun _ _ n => Nat.succ n) ds) fun n => k false (.int (Int.ofNat n))) (fun ds _ => fN (@List.rec D (fun _ => Nat) Nat.zero (fun _ _ n => Nat.succ n) ds) fun n => k false (.int (Int.ofNat n)))
  (fun _ _ => false) false (fun _ _ _ _ => false) false (fun _ _ _ _ => false) (fun _ _ _ _ => false) a
theorem stLen : S1 qLen tLen := fun a k e => by
  cases a with
  | list ds =>
    have e : (fN (@List.rec D (fun _ => Nat) Nat.zero (fun _ _ n => Nat.succ n) ds) fun n => k false (.int (Int.ofNat n))) = true := e
    rw [fN_eq, len_rec] at e
    exact ⟨_, _, rfl, e⟩
  | tuple ds =>
    have e : (fN (@List.rec D (fun _ => Nat) Nat.zero (fun _ _ n => Nat.succ n) ds) fun n => k false (.int (Int.ofNat n))) = true := e
    rw [fN_eq, len_rec] at e
    exact ⟨_, _, rfl, e⟩
  | str s => exact kG_of (r := qLen [.str s]) e
  | _ => cases e
/-! ### list and tuple as they are -/
def tTup : K1 := fun a k => cSeq (fun ds => k false (.tuple ds)) a
theorem stTup : S1 pTuple tTup := fun a k e => by
  obtain ⟨ds, h, u⟩ := cSeq_of e
  rcases h with rfl | rfl <;> exact ⟨_, _, rfl, u⟩
def tLst : K1 := fun a k => cSeq (fun ds => k true (.list ds)) a
theorem stLst : S1 pList tLst := fun a k e => by
  obtain ⟨ds, h, u⟩ := cSeq_of e
  rcases h with rfl | rfl <;> exact ⟨_, _, rfl, u⟩
/-! ### calls -/
abbrev KAr := SD → (List Sl → SD → Bool) → Bool
def SAr (io : List Bool) (as : List Arg) (g : KAr) : Prop := ∀ σ k, g σ k = true → ∃ os ss σ', argsEv as σ = some (os, σ') ∧ (∀ τ, slsOf τ io os = some ss) ∧ slotsIn os = [] ∧ tmpsIn os = 0 ∧ (∀ xs τ, writeB os xs τ = τ) ∧ k ss σ' = true
def kaNil : KAr := fun σ k => k [] σ
theorem saNil : SAr [] [] kaNil := fun σ k e => ⟨[], [], σ, rfl, fun _ => rfl, rfl, rfl, fun xs τ => by cases xs <;> rfl, e⟩
def kaCons (a : KW) (r : KAr) : KAr := fun σ k => a σ fun d σ1 => r σ1 fun ss σ2 => k (⟨false, d⟩ :: ss) σ2
theorem saCons {f : DW} {a : KW} {io : List Bool} {as : List Arg} {r : KAr} (h : SW f a) (h' : SAr io as r) : SAr (false :: io) (.val f :: as) (kaCons a r) := fun σ k e => by
  obtain ⟨d, σ1, e1, e⟩ := h σ _ e
  obtain ⟨os, ss, σ2, e2, e3, e4, e5, e6, e⟩ := h' σ1 _ e
  exact ⟨.val d :: os, ⟨false, d⟩ :: ss, σ2, by simp [argsEv, argEv, e1, e2], fun τ => by simp [slsOf, e3 τ], e4, e5, fun xs τ => by simp [writeB, e6], e⟩
def kCall (g : KC) (as : KAr) : KE := fun σ k => as σ fun ss σ1 => g ss fun fr d _ => k fr d σ1
theorem sCall {φ : CallD} {g : KC} {io : List Bool} {as : List Arg} {r : KAr} (hc : SC φ g) (h : SAr io as r) : SE (fCall φ io as) (kCall g r) := fun σ k e => by
  obtain ⟨os, ss, σ1, e2, e3, e4, e5, e6, e⟩ := h σ _ e
  obtain ⟨fr, d, o, e7, e⟩ := hc _ _ e
  exact ⟨fr, d, σ1, by simp [fCall, e2, e3, e4, e5, e6, e7, diffs], e⟩
/-- with objects that the call changes -/
def fOp (o : Option Sl) (k : Option Sl → Bool) : Bool := @Option.rec Sl (fun _ => Bool) (k none) (fun s => @Sl.rec (fun _ => Bool) (fun ow d => fB ow fun ow => k (some ⟨ow, d⟩)) s) o
theorem fOp_eq (o : Option Sl) (k : Option Sl → Bool) : fOp o k = k o := by
  cases o with
  | none => rfl
  | some s => obtain ⟨ow, d⟩ := s; exact fB_eq ow fun ow => k (some ⟨ow, d⟩)
def fSD (σ : SD) : (SD → Bool) → Bool := @List.rec (Option Sl) (fun _ => (SD → Bool) → Bool) (fun k => k []) (fun h _ ih k => fOp h fun h => ih fun t => k (h :: t)) σ
theorem fSD_eq : ∀ (σ : SD) (k : SD → Bool), fSD σ k = k σ
  | [], k => rfl
  | h :: t, k => by
    show (fOp h fun h => fSD t fun t => k (h :: t)) = _
    rw [fOp_eq, fSD_eq t]
def kCallIO (g : KC) (io : List Bool) (as : SD → (List Opd → SD → Bool) → Bool) : KE := fun σ k => as σ fun os σ1 => @Option.rec (List Sl) (fun _ => Bool) false (fun ss => bRec (diffs (slotsIn os) && Nat.ble (tmpsIn os) 1) (g ss fun fr d outs => fSD (writeB os outs σ1) fun σ2 => k fr d σ2)) (slsOf σ1 io os)
def SArO (as : List Arg) (g : SD → (List Opd → SD → Bool) → Bool) : Prop := ∀ σ k, g σ k = true → ∃ os σ', argsEv as σ = some (os, σ') ∧ k os σ' = true
def koNil : SD → (List Opd → SD → Bool) → Bool := fun σ k => k [] σ
theorem soNil : SArO [] koNil := fun σ k e => ⟨[], σ, rfl, e⟩
def koV (a : KW) (r : SD → (List Opd → SD → Bool) → Bool) : SD → (List Opd → SD → Bool) → Bool := fun σ k => a σ fun d σ1 => r σ1 fun os σ2 => k (.val d :: os) σ2
theorem soV {f : DW} {a : KW} {as : List Arg} {r : SD → (List Opd → SD → Bool) → Bool} (h : SW f a) (h' : SArO as r) : SArO (.val f :: as) (koV a r) := fun σ k e => by
  obtain ⟨d, σ1, e1, e⟩ := h σ _ e
  obtain ⟨os, σ2, e2, e⟩ := h' σ1 _ e
  exact ⟨.val d :: os, σ2, by simp [argsEv, argEv, e1, e2], e⟩
def koS (i : Nat) (r : SD → (List Opd → SD → Bool) → Bool) : SD → (List Opd → SD → Bool) → Bool := fun σ k => koSlot i σ fun o σ1 => r σ1 fun os σ2 => k (o :: os) σ2
theorem soS (i : Nat) {as : List Arg} {r : SD → (List Opd → SD → Bool) → Bool} (h' : SArO as r) : SArO (.slot i :: as) (koS i r) := fun σ k e => by
  obtain ⟨o, σ1, e1, e⟩ := soSlot i σ _ e
  obtain ⟨os, σ2, e2, e⟩ := h' σ1 _ e
  exact ⟨o :: os, σ2, by simp [argsEv, argEv, e1, e2], e⟩
def koT (g : KE) (r : SD → (List Opd → SD → Bool) → Bool) : SD → (List Opd → SD → Bool) → Bool := fun σ k => g σ fun fr d σ1 => bRec fr (r σ1 fun os σ2 => k (.tmp d :: os) σ2)
theorem soT {f : DE} {g : KE} {as : List Arg} {r : SD → (List Opd → SD → Bool) → Bool} (h : SE f g) (h' : SArO as r) : SArO (.tmp f :: as) (koT g r) := fun σ k e => by
  obtain ⟨fr, d, σ1, e1, e⟩ := h σ _ e
  obtain ⟨e0, u⟩ := bRec_of e
  subst e0
  obtain ⟨os, σ2, e2, u⟩ := h' σ1 _ u
  exact ⟨.tmp d :: os, σ2, by simp [argsEv, argEv, e1, e2], u⟩
theorem sCallIO {φ : CallD} {g : KC} {io : List Bool} {as : List Arg} {r : SD → (List Opd → SD → Bool) → Bool} (hc : SC φ g) (h : SArO as r) : SE (fCall φ io as) (kCallIO g io r) := fun σ k e => by
  obtain ⟨os, σ1, e1, e⟩ := h σ _ e
  cases e2 : slsOf σ1 io os with
  | none => rw [e2] at e; cases e
  | some ss =>
    rw [e2] at e
    obtain ⟨e3, e⟩ := bRec_of e
    obtain ⟨fr, d, o, e7, e⟩ := hc _ _ e
    rw [fSD_eq] at e
    exact ⟨fr, d, _, by simp only [fCall, e1, e2, e3, e7, if_true], e⟩
/-! ### defs -/
def kStart (io : List Bool) (rest : SD) : List Sl → (SD → Bool) → Bool := @List.rec Bool (fun _ => List Sl → (SD → Bool) → Bool)
  (fun ss k => @List.rec Sl (fun _ => Bool) (k rest) (fun _ _ _ => false) ss)
  (fun b _ ih ss k => @List.rec Sl (fun _ => Bool) false (fun s st _ => @Sl.rec (fun _ => Bool) (fun ow d => @Bool.rec (fun _ => Bool) (@Bool.rec (fun _ => Bool) (ih st fun t => k (some ⟨false, d⟩ :: t)) false ow) (@Bool.rec (fun _ => Bool) false (ih st fun t => k (some ⟨true, d⟩ :: t)) ow) b) s) ss) io
theorem kStart_of {rest : SD} : ∀ {io : List Bool} {ss : List Sl} {k : SD → Bool}, kStart io rest ss k = true → flagsOk io ss = true ∧ ss.length = io.length ∧ k (ss.map some ++ rest) = true
  | [], [], k, h => ⟨rfl, rfl, h⟩
  | [], s :: ss, k, h => by cases h
  | b :: io, [], k, h => by cases h
  | b :: io, ⟨ow, d⟩ :: ss, k, h => by
    cases b <;> cases ow
    · obtain ⟨h1, h2, h3⟩ := kStart_of (io := io) (ss := ss) (k := fun t => k (some ⟨false, d⟩ :: t)) h
      exact ⟨h1, by simp [h2], h3⟩
    · cases h
    · cases h
    · obtain ⟨h1, h2, h3⟩ := kStart_of (io := io) (ss := ss) (k := fun t => k (some ⟨true, d⟩ :: t)) h
      exact ⟨h1, by simp [h2], h3⟩
def kDef (io : List Bool) (rest : SD) (body : KS) : KC := fun ss k => kStart io rest ss fun σ0 => body σ0
  (fun σ => @Option.rec (List D) (fun _ => Bool) false (fun xs => k false .none xs) (outsOf ss 0 σ))
  (fun fl σ => @Fl.rec (fun _ => Bool) false false false (fun fr d => @Option.rec (List D) (fun _ => Bool) false (fun xs => k fr d xs) (outsOf ss 0 σ)) fl)
theorem sDef {io : List Bool} {n : Nat} {rest : SD} {f : DS} {g : KS} (hr : rest = List.replicate (n - io.length) none) (h : SS f g) : SC (gate io (defD n f)) (kDef io rest g) := fun ss k e => by
  obtain ⟨h1, h2, e⟩ := kStart_of e
  have hs : ss.map some ++ rest = startD n ss := by rw [startD, hr, h2]
  rw [hs] at e
  obtain ⟨fl, σ, e1, e⟩ := h _ _ _ e
  cases fl with
  | next =>
    have e : @Option.rec (List D) (fun _ => Bool) false (fun xs => k false .none xs) (outsOf ss 0 σ) = true := e
    cases e2 : outsOf ss 0 σ with
    | none => rw [e2] at e; cases e
    | some xs =>
      rw [e2] at e
      exact ⟨false, .none, xs, by simp [gate, h1, defD, e1, e2], e⟩
  | brk => cases e
  | cont => cases e
  | ret fr d =>
    have e : @Option.rec (List D) (fun _ => Bool) false (fun xs => k fr d xs) (outsOf ss 0 σ) = true := e
    cases e2 : outsOf ss 0 σ with
    | none => rw [e2] at e; cases e
    | some xs =>
      rw [e2] at e
      exact ⟨fr, d, xs, by simp [gate, h1, defD, e1, e2], e⟩
def kNo : KC := fun _ _ => false
theorem sNo {φ : CallD} : SC φ kNo := fun ss k e => by cases e
/-- the answer asked for -/
def ansB (fr : Bool) (d : D) : Bool → D → List D → Bool := fun fr' d' outs => bRec (@Bool.rec (fun _ => Bool) (@Bool.rec (fun _ => Bool) true false fr') (@Bool.rec (fun _ => Bool) false true fr') fr) (bRec (cTrue d d') (@List.rec D (fun _ => Bool) true (fun _ _ _ => false) outs))
where cTrue (d d' : D) : Bool := @PyData.rec (fun _ => Bool) (fun _ => Bool) (fun _ => Bool) (fun _ => Bool) (isNone d') (fun b => @PyData.rec (fun _ => Bool) (fun _ => Bool) (fun _ => Bool) (fun _ => Bool) false (fun b' => @Bool.rec (fun _ => Bool) (@Bool.rec (fun _ => Bool) true false b') (@Bool.rec (fun _ => Bool) false true b') b) (fun _ => false) (fun _ => false) (fun _ _ => false) (fun _ _ => false) (fun _ _ => false) false (fun _ _ _ _ => false) false (fun _ _ _ _ => false) (fun _ _ _ _ => false) d') (fun _ => false) (fun _ => false) (fun _ _ => false) (fun _ _ => false) (fun _ _ => false) false (fun _ _ _ _ => false) false (fun _ _ _ _ => false) (fun _ _ _ _ => false) d
/-- True is told -/
def yes : Bool → D → List D → Bool := ansB false (.bool true)
theorem yes_of {fr : Bool} {d : D} {outs : List D} (h : yes fr d outs = true) : fr = false ∧ d = .bool true ∧ outs = [] := by
  unfold yes ansB at h
  obtain ⟨h1, h⟩ := bRec_of h
  obtain ⟨h2, h3⟩ := bRec_of h
  refine ⟨?_, ?_, ?_⟩
  · cases fr with
    | false => rfl
    | true => cases h1
  · cases d with
    | bool b => cases b with
      | true => rfl
      | false => cases h2
    | _ => cases h2
  · cases outs with
    | nil => rfl
    | cons _ _ => cases h3
theorem told {φ : CallD} {g : KC} (h : SC φ g) {ss : List Sl} (e : g ss yes = true) : φ ss = some (false, .bool true, []) := by
  obtain ⟨fr, d, o, e1, e2⟩ := h ss _ e
  obtain ⟨rfl, rfl, rfl⟩ := yes_of e2
  exact e1
end Ev
end
/-! ## EvK4 -/
noncomputable section
set_option Elab.async false
set_option linter.all false
set_option maxRecDepth 100000
set_option maxHeartbeats 1000000
/-! EvK4: defs whose arguments are values. -/
namespace Ev
open PySem L2
def kStartV (m : Nat) (rest : SD) : List Sl → (SD → Bool) → Bool := @Nat.rec (fun _ => List Sl → (SD → Bool) → Bool)
  (fun ss k => @List.rec Sl (fun _ => Bool) (k rest) (fun _ _ _ => false) ss)
  (fun _ ih ss k => @List.rec Sl (fun _ => Bool) false (fun s st _ => @Sl.rec (fun _ => Bool) (fun ow d => @Bool.rec (fun _ => Bool) (ih st fun t => k (some ⟨false, d⟩ :: t)) false ow) s) ss) m
theorem kStartV_of {rest : SD} : ∀ {m : Nat} {ss : List Sl} {k : SD → Bool}, kStartV m rest ss k = true → flagsOk (List.replicate m false) ss = true ∧ ss.length = m ∧ (∀ i σ, outsOf ss i σ = some []) ∧ k (ss.map some ++ rest) = true
  | 0, [], k, h => ⟨rfl, rfl, fun _ _ => rfl, h⟩
  | 0, s :: ss, k, h => by cases h
  | m + 1, [], k, h => by cases h
  | m + 1, ⟨ow, d⟩ :: ss, k, h => by
    cases ow
    · obtain ⟨h1, h2, h3, h4⟩ := kStartV_of (m := m) (ss := ss) (k := fun t => k (some ⟨false, d⟩ :: t)) h
      exact ⟨h1, by simp [h2], fun i σ => by simp [outsOf, h3], h4⟩
    · cases h
def kDefV (m : Nat) (rest : SD) (body : KS) : KC := fun ss k => kStartV m rest ss fun σ0 => body σ0
  (fun _ => k false .none []) (fun fl _ => @Fl.rec (fun _ => Bool) false false false (fun fr d => k fr d []) fl)
theorem sDefV {io : List Bool} {n m : Nat} {rest : SD} {f : DS} {g : KS} (hi : io = List.replicate m false) (hr : rest = List.replicate (n - m) none) (h : SS f g) : SC (gate io (defD n f)) (kDefV m rest g) := fun ss k e => by
  obtain ⟨h1, h2, h3, e⟩ := kStartV_of e
  have hs : ss.map some ++ rest = startD n ss := by rw [startD, hr, h2]
  rw [hs] at e
  obtain ⟨fl, σ, e1, e⟩ := h _ _ _ e
  subst hi
  cases fl with
  | next => exact ⟨false, .none, [], by simp [gate, h1, defD, e1, h3], e⟩
  | brk => cases e
  | cont => cases e
  | ret fr d => exact ⟨fr, d, [], by simp [gate, h1, defD, e1, h3], e⟩
end Ev
end
/-! ## EvK5 -/
noncomputable section
set_option Elab.async false
set_option linter.all false
set_option maxRecDepth 100000
set_option maxHeartbeats 1000000
/-! EvK5: the kernel's words for dicts, counts, in. -/
namespace Ev
open PySem L2
def cDict (k : List (D × D) → Bool) (d : D) : Bool := @PyData.rec (fun _ => Bool) (fun _ => Bool) (fun _ => Bool) (fun _ => Bool) false (fun _ => false) (fun _ => false) (fun _ => false) (fun _ _ => false) (fun _ _ => false) (fun es _ => k es) false (fun _ _ _ _ => false) false (fun _ _ _ _ => false) (fun _ _ _ _ => false) d
theorem cDict_of {k : List (D × D) → Bool} {d : D} (h : cDict k d = true) : ∃ es, d = .dict es ∧ k es = true := by
  cases d <;> first | exact ⟨_, rfl, h⟩ | cases h
def oK {α : Type} (o : Option α) (k : α → Bool) : Bool := @Option.rec α (fun _ => Bool) false k o
theorem oK_of {α : Type} {o : Option α} {k : α → Bool} (h : oK o k = true) : ∃ a, o = some a ∧ k a = true := by
  cases o with
  | none => cases h
  | some a => exact ⟨a, rfl, h⟩
def kDict0 : KE := fun σ k => k true (.dict []) σ
theorem sDict0 : SE fDict0 kDict0 := fun σ k e => ⟨_, _, _, rfl, e⟩
def kDGet (i : Nat) (g : KW) : KE := fun σ k => nth i σ fun _ _ => g σ fun dk σ1 => oK (keyOf dk) fun kk => nth i σ1 fun o d => bRec o (cDict (fun es => oK (lookD kk es) fun d => fD d fun d => k false d σ1) d)
theorem sDGet (i : Nat) {f : DW} {g : KW} (h : SW f g) : SE (fDGet i f) (kDGet i g) := fun σ k e => by
  obtain ⟨o0, d0, e0, u1⟩ := nth_of e
  obtain ⟨dk, σ1, e1, u2⟩ := h σ _ u1
  obtain ⟨kk, e2, u3⟩ := oK_of u2
  obtain ⟨o, d, e3, u4⟩ := nth_of u3
  obtain ⟨eo, u5⟩ := bRec_of u4
  obtain ⟨es, ed, u6⟩ := cDict_of u5
  obtain ⟨d', e4, u7⟩ := oK_of u6
  rw [fD_eq] at u7
  subst eo ed
  exact ⟨_, _, _, by simp [fDGet, e0, e1, e2, e3, e4], u7⟩
def kDGetOr (i : Nat) (g g' : KW) : KE := fun σ k => nth i σ fun o0 d0 => bRec o0 (cDict (fun _ => g σ fun dk σ1 => g' σ1 fun dy σ2 => oK (keyOf dk) fun kk => nth i σ2 fun o d => bRec o (cDict (fun es => fD ((lookD kk es).getD dy) fun d => k false d σ2) d)) d0)
theorem sDGetOr (i : Nat) {f f' : DW} {g g' : KW} (h : SW f g) (h' : SW f' g') : SE (fDGetOr i f f') (kDGetOr i g g') := fun σ k e => by
  obtain ⟨o0, d0, e0, u1⟩ := nth_of e
  obtain ⟨eo0, u2⟩ := bRec_of u1
  obtain ⟨es0, ed0, u3⟩ := cDict_of u2
  obtain ⟨dk, σ1, e1, u4⟩ := h σ _ u3
  obtain ⟨dy, σ2, e2, u5⟩ := h' σ1 _ u4
  obtain ⟨kk, e3, u6⟩ := oK_of u5
  obtain ⟨o, d, e4, u7⟩ := nth_of u6
  obtain ⟨eo, u8⟩ := bRec_of u7
  obtain ⟨es, ed, u9⟩ := cDict_of u8
  rw [fD_eq] at u9
  subst eo0 ed0 eo ed
  exact ⟨_, _, _, by simp [fDGetOr, e0, e1, e2, e3, e4], u9⟩
def ksDPut (i : Nat) (f g : KW) : KS := fun σ kn _ => g σ fun d σ1 => nth i σ1 fun _ _ => f σ1 fun dk σ2 => oK (keyOf dk) fun kk => nth i σ2 fun o d0 => bRec o (cDict (fun es => bRec (okLen es.length) (fDps (putD kk d es) fun es' => put i (some ⟨true, .dict es'⟩) σ2 kn)) d0)
theorem ssDPut (i : Nat) {f f' : DW} {g g' : KW} (h : SW f g) (h' : SW f' g') : SS (fDPut i f f') (ksDPut i g g') := fun σ kn ko e => by
  obtain ⟨d, σ1, e1, u1⟩ := h' σ _ e
  obtain ⟨o0, d0, e0, u2⟩ := nth_of u1
  obtain ⟨dk, σ2, e2, u3⟩ := h σ1 _ u2
  obtain ⟨kk, e3, u4⟩ := oK_of u3
  obtain ⟨o, d1, e4, u5⟩ := nth_of u4
  obtain ⟨eo, u6⟩ := bRec_of u5
  obtain ⟨es, ed, u7⟩ := cDict_of u6
  obtain ⟨e5, u8⟩ := bRec_of u7
  rw [fDps_eq, put_eq] at u8
  subst eo ed
  exact ⟨.next, _, by simp [fDPut, e0, e1, e2, e3, e4, e5], u8⟩
def kSortedV (i : Nat) : KE := fun σ k => nth i σ fun o d => bRec o (cDict (fun es => bRec (kindOk (es.map (·.2))) (fDs (isort leD (es.map (·.2))) fun ds => k true (.list ds) σ)) d)
theorem sSortedV (i : Nat) : SE (fSortedV i) (kSortedV i) := fun σ k e => by
  obtain ⟨o, d, e1, u1⟩ := nth_of e
  obtain ⟨eo, u2⟩ := bRec_of u1
  obtain ⟨es, ed, u3⟩ := cDict_of u2
  obtain ⟨e2, u4⟩ := bRec_of u3
  rw [fDs_eq] at u4
  subst eo ed
  exact ⟨_, _, _, by simp only [fSortedV, e1, e2, if_true], u4⟩
def kSortSet (g : KW) : KE := fun σ k => g σ fun d σ1 => cList (fun ds => fDs (sset ds) fun t => bRec (ssOk ds t) (k true (.list t) σ1)) d
theorem sSortSet {f : DW} {g : KW} (h : SW f g) : SE (fSortSet f) (kSortSet g) := fun σ k e => by
  obtain ⟨d, σ1, e1, u1⟩ := h σ _ e
  obtain ⟨ds, ed, u2⟩ := cList_of u1
  rw [fDs_eq] at u2
  obtain ⟨e2, u3⟩ := bRec_of u2
  subst ed
  exact ⟨_, _, _, by simp only [fSortSet, e1, e2, if_true], u3⟩
def kCntI (i : Nat) (g : KW) : KE := fun σ k => nth i σ fun _ d0 => cList (fun _ => g σ fun dk σ1 => cInt (fun kk => nth i σ1 fun _ d => cList (fun ds => oK (allInt ds) fun ns => fN (ns.count kk) fun n => k false (.int (Int.ofNat n)) σ1) d) dk) d0
theorem sCntI (i : Nat) {f : DW} {g : KW} (h : SW f g) : SE (fCntI i f) (kCntI i g) := fun σ k e => by
  obtain ⟨o0, d0, e0, u1⟩ := nth_of e
  obtain ⟨ds0, ed0, u2⟩ := cList_of u1
  obtain ⟨dk, σ1, e1, u3⟩ := h σ _ u2
  obtain ⟨kk, ek, u4⟩ := cInt_of u3
  obtain ⟨o, d, e2, u5⟩ := nth_of u4
  obtain ⟨ds, ed, u6⟩ := cList_of u5
  obtain ⟨ns, e3, u7⟩ := oK_of u6
  rw [fN_eq] at u7
  subst ed0 ek ed
  exact ⟨_, _, _, by simp [fCntI, e0, e1, e2, e3], u7⟩
def cStr (k : Str → Bool) (d : D) : Bool := @PyData.rec (fun _ => Bool) (fun _ => Bool) (fun _ => Bool) (fun _ => Bool) false (fun _ => false) (fun _ => false) k (fun _ _ => false) (fun _ _ => false) (fun _ _ => false) false (fun _ _ _ _ => false) false (fun _ _ _ _ => false) (fun _ _ _ _ => false) d
theorem cStr_of {k : Str → Bool} {d : D} (h : cStr k d = true) : ∃ s, d = .str s ∧ k s = true := by
  cases d <;> first | exact ⟨_, rfl, h⟩ | cases h
def kCntS (g f : KW) : KE := fun σ k => g σ fun d1 σ1 => cStr (fun a => f σ1 fun d2 σ2 => cStr (fun b => fI (Txt.count a b) fun n => k false (.int n) σ2) d2) d1
theorem sCntS {f f' : DW} {g g' : KW} (h : SW f g) (h' : SW f' g') : SE (fCntS f f') (kCntS g g') := fun σ k e => by
  obtain ⟨d1, σ1, e1, u1⟩ := h σ _ e
  obtain ⟨a, ea, u2⟩ := cStr_of u1
  obtain ⟨d2, σ2, e2, u3⟩ := h' σ1 _ u2
  obtain ⟨b, eb, u4⟩ := cStr_of u3
  rw [fI_eq] at u4
  subst ea eb
  exact ⟨_, _, _, by simp [fCntS, e1, e2], u4⟩
def kLoopD (p : Pat) (c : KT) (kx vx : KW) (own : List Nat) (ds : List D) : List (D × D) → SD → (List (D × D) → SD → Bool) → Bool := @List.rec D (fun _ => List (D × D) → SD → (List (D × D) → SD → Bool) → Bool)
  (fun acc σ k => k acc σ)
  (fun d _ ih acc σ k => kBind p d σ fun σ1 => c σ1 (fun σ2 => kx σ2 fun dk σ3 => oK (keyOf dk) fun kk => vx σ3 fun dv σ4 => fDps (putD kk dv acc) fun acc' => kWipe own σ4 fun σ5 => ih acc' σ5 k) (fun σ2 => kWipe own σ2 fun σ5 => ih acc σ5 k)) ds
theorem kLoopD_of {p : Pat} {c : DT} {c' : KT} {kx vx : DW} {kx' vx' : KW} {own : List Nat} (hc : ST c c') (hk : SW kx kx') (hv : SW vx vx') : ∀ {ds : List D} {acc : List (D × D)} {σ : SD} {k : List (D × D) → SD → Bool}, kLoopD p c' kx' vx' own ds acc σ k = true → ∃ es σ', dcLoop p c kx vx own ds acc σ = some (es, σ') ∧ k es σ' = true
  | [], acc, σ, k, h => ⟨acc, σ, rfl, h⟩
  | d :: ds, acc, σ, k, h => by
    obtain ⟨σ1, h1, u1⟩ := kBind_of (p := p) (d := d) h
    obtain ⟨b, σ2, h2, u2⟩ := hc σ1 _ _ u1
    cases b with
    | true =>
      obtain ⟨dk, σ3, h3, u3⟩ := hk σ2 _ u2
      obtain ⟨kk, h4, u4⟩ := oK_of u3
      obtain ⟨dv, σ4, h5, u5⟩ := hv σ3 _ u4
      rw [fDps_eq, kWipe_eq] at u5
      obtain ⟨es, σ5, h6, u6⟩ := kLoopD_of hc hk hv (ds := ds) u5
      exact ⟨es, σ5, by simp [dcLoop, h1, h2, h3, h4, h5, h6], u6⟩
    | false =>
      have u3 : (kWipe own σ2 fun σ5 => kLoopD p c' kx' vx' own ds acc σ5 k) = true := u2
      rw [kWipe_eq] at u3
      obtain ⟨es, σ5, h6, u6⟩ := kLoopD_of hc hk hv (ds := ds) u3
      exact ⟨es, σ5, by simp [dcLoop, h1, h2, h6], u6⟩
def kDc (it : KV) (p : Pat) (c : KT) (kx vx : KW) (own : List Nat) : KE := fun σ k => it σ fun ds σ1 => bRec (freeD σ1 own) (kOk ds (kWipe own σ1 fun σw => kLoopD p c kx vx own ds [] σw fun es σ2 => kBack σ1 own σ2 fun σ3 => k true (.dict es) σ3))
theorem sDc {it : DV} {it' : KV} {p : Pat} {c : DT} {c' : KT} {kx vx : DW} {kx' vx' : KW} {own : List Nat} (hi : SV it it') (hc : ST c c') (hk : SW kx kx') (hv : SW vx vx') : SE (fDc it p c kx vx own) (kDc it' p c' kx' vx' own) := fun σ k h => by
  obtain ⟨ds, σ1, h1, u1⟩ := hi σ _ h
  obtain ⟨h2, u2⟩ := bRec_of u1
  obtain ⟨h3, u3⟩ := kOk_of u2
  rw [kWipe_eq] at u3
  obtain ⟨es, σ2, h4, u4⟩ := kLoopD_of hc hk hv u3
  rw [kBack_eq] at u4
  exact ⟨true, _, _, by simp [fDc, h1, h2, h3, h4], u4⟩
/-! ### in -/
def anyK (a : D) (ds : List D) : Bool := @List.rec D (fun _ => Bool) false (fun z _ ih => @Bool.rec (fun _ => Bool) ih true (eqK z a)) ds
theorem anyK_eq (a : D) : ∀ ds : List D, anyK a ds = ds.any fun z => PyData.eqv z a
  | [] => rfl
  | z :: ds => by
    show @Bool.rec (fun _ => Bool) (anyK a ds) true (eqK z a) = _
    rw [eqK_eq, anyK_eq a ds, List.any_cons]
    cases PyData.eqv z a <;> rfl
theorem any_ints {i : Int} : ∀ {ds : List D} {is : List Int}, allInt ds = some is → (ds.any fun z => PyData.eqv z (.int i)) = is.contains i
  | [], is, h => by cases h; rfl
  | .int j :: ds, is, h => by
    unfold allInt at h
    split at h
    · rename_i js e
      cases h
      rw [List.any_cons, any_ints e, List.contains_cons]
      simp only [PyData.eqv]
      rw [show (j == i) = (i == j) from BEq.comm]
    · cases h
  | .none :: _, _, h => by simp [allInt] at h
  | .bool _ :: _, _, h => by simp [allInt] at h
  | .str _ :: _, _, h => by simp [allInt] at h
  | .list _ :: _, _, h => by simp [allInt] at h
  | .tuple _ :: _, _, h => by simp [allInt] at h
  | .dict _ :: _, _, h => by simp [allInt] at h
def tInB (neg : Bool) : K2 := fun a b k => cSeq (fun ds => bRec (shK a 60) (bRec (shKs ds 63) (@Bool.rec (fun _ => Bool) (k false (.bool neg)) (k false (.bool (!neg))) (anyK a ds)))) b
theorem in_eq (neg : Bool) {a b : D} {ds : List D} (hb : b = .list ds ∨ b = .tuple ds) (h1 : shK a 60 = true) (h2 : shKs ds 63 = true) : pElse (pInI neg) (pInX neg) [a, b] = some (false, .bool (if neg then !anyK a ds else anyK a ds)) := by
  obtain ⟨s1, s2, s3⟩ := shK_of h1
  obtain ⟨t1, t2⟩ := shKs_of h2
  have hl : lowD a = true := by
    unfold lowD
    rw [Bool.and_eq_true, Bool.and_eq_true]
    exact ⟨by simp [SeqAt.shaped, s1]; omega, s3, Nat.ble_eq_true_of_le s2⟩
  have hx : pInX neg [a, b] = some (false, .bool (if neg then !anyK a ds else anyK a ds)) := by
    rw [anyK_eq]
    rcases hb with rfl | rfl <;> simp [pInX, hl, t1, anyEq]
  cases e : pInI neg [a, b] with
  | none => simp only [pElse, e, hx]
  | some r =>
    simp only [pElse, e]
    have : r = (false, .bool (if neg then !anyK a ds else anyK a ds)) := by
      rw [anyK_eq]
      unfold pInI at e
      split at e
      · rename_i i ds' he
        injection he with q1 q2; injection q2 with q2 _
        subst q1
        rcases hb with rfl | rfl
        · cases q2
          split at e
          · rename_i is ei
            cases e
            rw [any_ints ei]
          · cases e
        · cases q2
      · rename_i i ds' he
        injection he with q1 q2; injection q2 with q2 _
        subst q1
        rcases hb with rfl | rfl
        · cases q2
        · cases q2
          split at e
          · rename_i is ei
            cases e
            rw [any_ints ei]
          · cases e
      · cases e
    rw [this]
def tIn : K2 := tInB false
theorem stIn : S2 qIn tIn := fun a b k e => by
  obtain ⟨ds, hb, u1⟩ := cSeq_of e
  obtain ⟨h1, u2⟩ := bRec_of u1
  obtain ⟨h2, u3⟩ := bRec_of u2
  refine ⟨false, _, in_eq false hb h1 h2, ?_⟩
  rcases bool_pick u3 with ⟨h, u⟩ | ⟨h, u⟩ <;> rw [h] <;> exact u
def tNotIn : K2 := tInB true
theorem stNotIn : S2 qNotIn tNotIn := fun a b k e => by
  obtain ⟨ds, hb, u1⟩ := cSeq_of e
  obtain ⟨h1, u2⟩ := bRec_of u1
  obtain ⟨h2, u3⟩ := bRec_of u2
  refine ⟨false, _, in_eq true hb h1 h2, ?_⟩
  rcases bool_pick u3 with ⟨h, u⟩ | ⟨h, u⟩ <;> rw [h] <;> exact u
end Ev
end
/-! ## EvK5b -/
noncomputable section
set_option Elab.async false
set_option linter.all false
set_option maxRecDepth 100000
set_option maxHeartbeats 1000000
/-! EvK5b: order of any data, in the kernel. -/
namespace Ev
open PySem L2
open PySem.W (alike alikeAll)
def ltK (d : D) : D → Bool := @PyData.rec (fun _ => D → Bool) (fun _ => List D → Bool) (fun _ => List (D × D) → Bool) (fun _ => D × D → Bool)
  (fun _ => false) (fun x b => ltD (.bool x) b) (fun i b => cInt (ltI i) b) (fun s b => ltD (.str s) b)
  (fun _ ih b => cList ih b) (fun _ ih b => cTup ih b) (fun _ _ _ => false)
  (fun ys => @List.rec D (fun _ => Bool) false (fun _ _ _ => true) ys) (fun x _ ih iht ys => @List.rec D (fun _ => Bool) false (fun y yt _ => @Bool.rec (fun _ => Bool) (ih y) (iht yt) (eqK x y)) ys)
  (fun _ => false) (fun _ _ _ _ _ => false) (fun _ _ _ _ _ => false) d
def ltKs (d : List D) : List D → Bool := @PyData.rec_1 (fun _ => D → Bool) (fun _ => List D → Bool) (fun _ => List (D × D) → Bool) (fun _ => D × D → Bool)
  (fun _ => false) (fun x b => ltD (.bool x) b) (fun i b => cInt (ltI i) b) (fun s b => ltD (.str s) b)
  (fun _ ih b => cList ih b) (fun _ ih b => cTup ih b) (fun _ _ _ => false)
  (fun ys => @List.rec D (fun _ => Bool) false (fun _ _ _ => true) ys) (fun x _ ih iht ys => @List.rec D (fun _ => Bool) false (fun y yt _ => @Bool.rec (fun _ => Bool) (ih y) (iht yt) (eqK x y)) ys)
  (fun _ => false) (fun _ _ _ _ _ => false) (fun _ _ _ _ _ => false) d
mutual
theorem ltK_eq : ∀ (a b : D), ltK a b = ltD a b
  | .none, b => by cases b <;> rfl
  | .bool x, b => rfl
  | .int i, b => by
    show cInt (ltI i) b = _
    cases b <;> simp only [cInt, ltD, ltI_eq]
  | .str s, b => rfl
  | .list xs, b => by
    show cList (ltKs xs) b = _
    cases b <;> simp only [cList, ltD]
    exact ltKs_eq xs _
  | .tuple xs, b => by
    show cTup (ltKs xs) b = _
    cases b <;> simp only [cTup, ltD]
    exact ltKs_eq xs _
  | .dict xs, b => by
    show false = _
    cases b <;> simp only [ltD]
theorem ltKs_eq : ∀ (a b : List D), ltKs a b = ltAll a b
  | [], [] => by simp [ltKs, ltAll]
  | [], _ :: _ => by simp [ltKs, ltAll]
  | _ :: _, [] => by simp [ltKs, ltAll]
  | x :: xs, y :: ys => by
    show @Bool.rec (fun _ => Bool) (ltK x y) (ltKs xs ys) (eqK x y) = _
    rw [eqK_eq, ltK_eq x y, ltKs_eq xs ys]
    simp only [ltAll]
    cases PyData.eqv x y <;> rfl
end
def alK (d : D) : D → Bool := @PyData.rec (fun _ => D → Bool) (fun _ => List D → Bool) (fun _ => List (D × D) → Bool) (fun _ => D × D → Bool)
  (fun b => isNone b) (fun x b => alike (.bool x) b) (fun _ b => cInt (fun _ => true) b) (fun s b => alike (.str s) b)
  (fun _ ih b => cList ih b) (fun _ ih b => cTup ih b) (fun _ _ _ => false)
  (fun _ => true) (fun _ _ ih iht ys => @List.rec D (fun _ => Bool) true (fun y yt _ => bRec (ih y) (iht yt)) ys)
  (fun _ => false) (fun _ _ _ _ _ => false) (fun _ _ _ _ _ => false) d
def alKs (d : List D) : List D → Bool := @PyData.rec_1 (fun _ => D → Bool) (fun _ => List D → Bool) (fun _ => List (D × D) → Bool) (fun _ => D × D → Bool)
  (fun b => isNone b) (fun x b => alike (.bool x) b) (fun _ b => cInt (fun _ => true) b) (fun s b => alike (.str s) b)
  (fun _ ih b => cList ih b) (fun _ ih b => cTup ih b) (fun _ _ _ => false)
  (fun _ => true) (fun _ _ ih iht ys => @List.rec D (fun _ => Bool) true (fun y yt _ => bRec (ih y) (iht yt)) ys)
  (fun _ => false) (fun _ _ _ _ _ => false) (fun _ _ _ _ _ => false) d
mutual
theorem alK_of : ∀ {a b : D}, alK a b = true → alike a b = true
  | .none, b, h => by cases b <;> first | rfl | cases h
  | .bool x, b, h => h
  | .int i, b, h => by cases b <;> first | rfl | cases h
  | .str s, b, h => h
  | .list xs, b, h => by
    obtain ⟨ys, rfl, u⟩ := cList_of (d := b) h
    simp only [alike]
    exact alKs_of (a := xs) (b := ys) u
  | .tuple xs, b, h => by
    obtain ⟨ys, rfl, u⟩ := cTup_of (d := b) h
    simp only [alike]
    exact alKs_of (a := xs) (b := ys) u
  | .dict _, b, h => by cases h
theorem alKs_of : ∀ {a b : List D}, alKs a b = true → alikeAll a b = true
  | [], b, _ => by simp [alikeAll]
  | x :: xs, [], _ => by simp [alikeAll]
  | x :: xs, y :: ys, h => by
    obtain ⟨h1, h2⟩ := bRec_of (b := alK x y) (t := alKs xs ys) h
    simp only [alikeAll, alK_of h1, alKs_of h2, Bool.and_self]
end
def okK (a b : D) (k : Bool) : Bool := bRec (alK a b) (bRec (alK b a) (@Bool.rec (fun _ => Bool) (bRec (shK a 60) k) false (isNone a)))
theorem okK_of {a b : D} {k : Bool} (h : okK a b k = true) : cmpOk a b = true ∧ k = true := by
  obtain ⟨h1, u1⟩ := bRec_of h
  obtain ⟨h2, u2⟩ := bRec_of u1
  rcases bool_pick u2 with ⟨_, u⟩ | ⟨h3, u⟩
  · cases u
  · obtain ⟨h4, u3⟩ := bRec_of u
    obtain ⟨_, s2, _⟩ := shK_of h4
    refine ⟨?_, u3⟩
    unfold cmpOk
    rw [alK_of h1, alK_of h2, h3, Nat.ble_eq_true_of_le s2]
    rfl
def tCmpX (fi : Int → Int → Bool) (g : D → D → Bool) : K2 := fun a b k => @PyData.rec (fun _ => Bool) (fun _ => Bool) (fun _ => Bool) (fun _ => Bool) false (fun _ => okK a b (@Bool.rec (fun _ => Bool) (k false (.bool false)) (k false (.bool true)) (g a b)))
  (fun i => cInt (fun j => @Bool.rec (fun _ => Bool) (k false (.bool false)) (k false (.bool true)) (fi i j)) b)
  (fun _ => okK a b (@Bool.rec (fun _ => Bool) (k false (.bool false)) (k false (.bool true)) (g a b)))
  (fun _ _ => okK a b (@Bool.rec (fun _ => Bool) (k false (.bool false)) (k false (.bool true)) (g a b)))
  (fun _ _ => okK a b (@Bool.rec (fun _ => Bool) (k false (.bool false)) (k false (.bool true)) (g a b)))
  (fun _ _ => false) false (fun _ _ _ _ => false) false (fun _ _ _ _ => false) (fun _ _ _ _ => false) a
theorem stCmpX {fi : Int → Int → Bool} {g g0 : D → D → Bool} {fd : Int → Int → D} (hi : ∀ i j, fd i j = .bool (fi i j)) (hg : ∀ a b, g a b = g0 a b) : S2 (pElse (pII0 fd) (pCmpX g0)) (tCmpX fi g) := fun a b k e => by
  have key : (∀ i, a ≠ .int i) → okK a b (@Bool.rec (fun _ => Bool) (k false (.bool false)) (k false (.bool true)) (g a b)) = true → ∃ fr d, pElse (pII0 fd) (pCmpX g0) [a, b] = some (fr, d) ∧ k fr d = true := fun hn u => by
    obtain ⟨ok, u1⟩ := okK_of u
    refine ⟨false, .bool (g a b), ?_, ?_⟩
    · have e1 : pII0 fd [a, b] = none := by
        unfold pII0; split
        · rename_i i j q; injection q with q1 q2; exact (hn i q1).elim
        · rfl
      rw [hg]
      simp [pElse, e1, pCmpX, ok]
    · rcases bool_pick u1 with ⟨h, u⟩ | ⟨h, u⟩ <;> rw [h] <;> exact u
  cases a with
  | int i =>
    obtain ⟨j, rfl, u⟩ := cInt_of (d := b) e
    refine ⟨false, .bool (fi i j), by simp [pElse, pII0, hi], ?_⟩
    rcases bool_pick u with ⟨h, u⟩ | ⟨h, u⟩ <;> rw [h] <;> exact u
  | none => cases e
  | dict _ => cases e
  | bool x => exact key (by simp) e
  | str x => exact key (by simp) e
  | list x => exact key (by simp) e
  | tuple x => exact key (by simp) e
def tLtX : K2 := tCmpX ltI ltK
theorem stLtX : S2 qLt tLtX := stCmpX (fun i j => by rw [ltI_eq]) fun a b => ltK_eq a b
def tGtX : K2 := tCmpX (fun i j => ltI j i) (fun a b => ltK b a)
theorem stGtX : S2 qGt tGtX := stCmpX (fun i j => by rw [ltI_eq]) fun a b => ltK_eq b a
def tLeX : K2 := tCmpX leI (fun a b => @Bool.rec (fun _ => Bool) true false (ltK b a))
theorem neg_rec (b : Bool) : @Bool.rec (fun _ => Bool) true false b = !b := by cases b <;> rfl
theorem stLeX : S2 qLe tLeX := stCmpX (fun i j => by rw [leI_eq]) fun a b => by rw [neg_rec, ltK_eq]
def tGeX : K2 := tCmpX (fun i j => leI j i) (fun a b => @Bool.rec (fun _ => Bool) true false (ltK a b))
theorem stGeX : S2 qGe tGeX := stCmpX (fun i j => by rw [leI_eq]) fun a b => by rw [neg_rec, ltK_eq]
end Ev
end
/-! ## EvK6 -/
noncomputable section
set_option Elab.async false
set_option linter.all false
set_option maxRecDepth 100000
set_option maxHeartbeats 1000000
/-! EvK6: what was told once, as a callee. -/
namespace Ev
open PySem L2
def eqNs (l : List Nat) : List Nat → Bool := @List.rec Nat (fun _ => List Nat → Bool) (fun m => @List.rec Nat (fun _ => Bool) true (fun _ _ _ => false) m) (fun a _ ih m => @List.rec Nat (fun _ => Bool) false (fun b t _ => bRec (Nat.beq a b) (ih t)) m) l
theorem eqNs_of : ∀ {l m : List Nat}, eqNs l m = true → l = m
  | [], [], _ => rfl
  | [], _ :: _, h => by cases h
  | _ :: _, [], h => by cases h
  | a :: l, b :: m, h => by
    obtain ⟨h1, h2⟩ := bRec_of (b := Nat.beq a b) (t := eqNs l m) h
    rw [Nat.eq_of_beq_eq_true h1, eqNs_of h2]
def eqSt (s t : Str) : Bool := eqNs s.cps.toList t.cps.toList
theorem eqSt_of {s t : Str} (h : eqSt s t = true) : s = t := by
  obtain ⟨⟨l⟩⟩ := s
  obtain ⟨⟨m⟩⟩ := t
  have := eqNs_of (l := l) (m := m) h
  rw [this]
def eqBb (a b : Bool) : Bool := @Bool.rec (fun _ => Bool) (@Bool.rec (fun _ => Bool) true false b) b a
theorem eqBb_of {a b : Bool} (h : eqBb a b = true) : a = b := by cases a <;> cases b <;> first | rfl | cases h
def cNon (k : Bool) (d : D) : Bool := @PyData.rec (fun _ => Bool) (fun _ => Bool) (fun _ => Bool) (fun _ => Bool) k (fun _ => false) (fun _ => false) (fun _ => false) (fun _ _ => false) (fun _ _ => false) (fun _ _ => false) false (fun _ _ _ _ => false) false (fun _ _ _ _ => false) (fun _ _ _ _ => false) d
def cBl (k : Bool → Bool) (d : D) : Bool := @PyData.rec (fun _ => Bool) (fun _ => Bool) (fun _ => Bool) (fun _ => Bool) false k (fun _ => false) (fun _ => false) (fun _ _ => false) (fun _ _ => false) (fun _ _ => false) false (fun _ _ _ _ => false) false (fun _ _ _ _ => false) (fun _ _ _ _ => false) d
/-- the same data to the sign -/
def sameD (d : D) : D → Bool := @PyData.rec (fun _ => D → Bool) (fun _ => List D → Bool) (fun _ => List (D × D) → Bool) (fun _ => D × D → Bool)
  (fun b => cNon true b) (fun x b => cBl (eqBb x) b) (fun i b => cInt (eqI i) b) (fun s b => cStr (eqSt s) b)
  (fun _ ih b => cList ih b) (fun _ ih b => cTup ih b) (fun _ _ _ => false)
  (fun ys => @List.rec D (fun _ => Bool) true (fun _ _ _ => false) ys) (fun _ _ ih iht ys => @List.rec D (fun _ => Bool) false (fun y yt _ => bRec (ih y) (iht yt)) ys)
  (fun _ => false) (fun _ _ _ _ _ => false) (fun _ _ _ _ _ => false) d
def sameDs (d : List D) : List D → Bool := @PyData.rec_1 (fun _ => D → Bool) (fun _ => List D → Bool) (fun _ => List (D × D) → Bool) (fun _ => D × D → Bool)
  (fun b => cNon true b) (fun x b => cBl (eqBb x) b) (fun i b => cInt (eqI i) b) (fun s b => cStr (eqSt s) b)
  (fun _ ih b => cList ih b) (fun _ ih b => cTup ih b) (fun _ _ _ => false)
  (fun ys => @List.rec D (fun _ => Bool) true (fun _ _ _ => false) ys) (fun _ _ ih iht ys => @List.rec D (fun _ => Bool) false (fun y yt _ => bRec (ih y) (iht yt)) ys)
  (fun _ => false) (fun _ _ _ _ _ => false) (fun _ _ _ _ _ => false) d
mutual
theorem sameD_of : ∀ {a b : D}, sameD a b = true → a = b
  | .none, b, h => by cases b <;> first | rfl | cases h
  | .bool x, b, h => by
    cases b with
    | bool y => rw [eqBb_of (show eqBb x y = true from h)]
    | _ => cases h
  | .int i, b, h => by
    obtain ⟨j, rfl, u⟩ := cInt_of (d := b) h
    rw [eqI_eq, decide_eq_true_iff] at u
    rw [u]
  | .str s, b, h => by
    obtain ⟨t, rfl, u⟩ := cStr_of (d := b) h
    rw [eqSt_of u]
  | .list xs, b, h => by
    obtain ⟨ys, rfl, u⟩ := cList_of (d := b) h
    rw [sameDs_of (a := xs) (b := ys) u]
  | .tuple xs, b, h => by
    obtain ⟨ys, rfl, u⟩ := cTup_of (d := b) h
    rw [sameDs_of (a := xs) (b := ys) u]
  | .dict _, b, h => by cases h
theorem sameDs_of : ∀ {a b : List D}, sameDs a b = true → a = b
  | [], [], _ => rfl
  | [], _ :: _, h => by cases h
  | _ :: _, [], h => by cases h
  | x :: xs, y :: ys, h => by
    obtain ⟨h1, h2⟩ := bRec_of (b := sameD x y) (t := sameDs xs ys) h
    rw [sameD_of h1, sameDs_of h2]
end
/-- an entry: arguments, whether new, what is told -/
structure Ent where
  as : List D
  fr : Bool
  r : D
def vals (ds : List D) : List Sl := ds.map fun d => ⟨false, d⟩
def Ent.Ok (φ : CallD) (e : Ent) : Prop := φ (vals e.as) = some (e.fr, e.r, [])
def sameA (as : List D) : List Sl → Bool := @List.rec D (fun _ => List Sl → Bool) (fun ss => @List.rec Sl (fun _ => Bool) true (fun _ _ _ => false) ss) (fun a _ ih ss => @List.rec Sl (fun _ => Bool) false (fun s st _ => @Sl.rec (fun _ => Bool) (fun ow d => @Bool.rec (fun _ => Bool) (bRec (sameD a d) (ih st)) false ow) s) ss) as
theorem sameA_of : ∀ {as : List D} {ss : List Sl}, sameA as ss = true → ss = vals as
  | [], [], _ => rfl
  | [], _ :: _, h => by cases h
  | _ :: _, [], h => by cases h
  | a :: as, ⟨ow, d⟩ :: ss, h => by
    cases ow with
    | true => cases h
    | false =>
      obtain ⟨h1, h2⟩ := bRec_of (b := sameD a d) (t := sameA as ss) h
      rw [sameD_of h1, sameA_of h2]; rfl
def kTab (es : List Ent) : KC := fun ss k => @List.rec Ent (fun _ => Bool) false (fun e _ ih => @Ent.rec (fun _ => Bool) (fun as fr r => @Bool.rec (fun _ => Bool) ih (k fr r []) (sameA as ss)) e) es
theorem sTab {φ : CallD} : ∀ {es : List Ent}, (∀ e ∈ es, e.Ok φ) → SC φ (kTab es)
  | [], _, ss, k, h => by cases h
  | ⟨as, fr, r⟩ :: es, he, ss, k, h => by
    have h : @Bool.rec (fun _ => Bool) (kTab es ss k) (k fr r []) (sameA as ss) = true := h
    rcases bool_pick h with ⟨h1, u⟩ | ⟨_, u⟩
    · refine ⟨fr, r, [], ?_, u⟩
      rw [sameA_of h1]
      exact he ⟨as, fr, r⟩ List.mem_cons_self
    · exact sTab (fun e hm => he e (List.mem_cons_of_mem _ hm)) ss k u
/-- the entry is told -/
def ansE (e : Ent) : Bool → D → List D → Bool := fun fr d o => bRec (eqBb e.fr fr) (bRec (sameD e.r d) (@List.rec D (fun _ => Bool) true (fun _ _ _ => false) o))
theorem ent_ok {φ : CallD} {g : KC} (h : SC φ g) {e : Ent} (u : g (vals e.as) (ansE e) = true) : e.Ok φ := by
  obtain ⟨fr, d, o, e1, u⟩ := h _ _ u
  obtain ⟨h1, u⟩ := bRec_of u
  obtain ⟨h2, u⟩ := bRec_of u
  have h3 : o = [] := by
    cases o with
    | nil => rfl
    | cons _ _ => cases u
  unfold Ent.Ok
  rw [e1, h3, eqBb_of h1, sameD_of h2]
/-- all entries at once -/
def allE (g : KC) (es : List Ent) : Bool := @List.rec Ent (fun _ => Bool) true (fun e _ ih => bRec (g (vals e.as) (ansE e)) ih) es
theorem allE_ok {φ : CallD} {g : KC} (h : SC φ g) : ∀ {es : List Ent}, allE g es = true → ∀ e ∈ es, e.Ok φ
  | [], _, e, he => by cases he
  | e :: es, u, e', he => by
    obtain ⟨u1, u2⟩ := bRec_of (b := g (vals e.as) (ansE e)) (t := allE g es) u
    rcases List.mem_cons.mp he with rfl | he
    · exact ent_ok h u1
    · exact allE_ok h u2 e' he
/-- a table ahead of the code -/
def kElse (g g' : KC) : KC := fun ss k => @Bool.rec (fun _ => Bool) (g' ss k) true (g ss k)
theorem sElseC {φ : CallD} {g g' : KC} (h : SC φ g) (h' : SC φ g') : SC φ (kElse g g') := fun ss k e => by
  rcases bool_pick (c := g ss k) e with ⟨h1, _⟩ | ⟨_, u⟩
  · exact h ss k h1
  · exact h' ss k u
end Ev
end
/-! ## Lk81 -/
section
set_option Elab.async false
set_option linter.all false
set_option maxRecDepth 100000
set_option maxHeartbeats 0
open PySem L2 Ev
namespace Ev.Lw
def S (i : Nat) : Stmt := PySem.Challenge.pw_eightworlds_k81_whole_two_above_one_piec.main.body.getD i (.Pass ⟨0, 0, 0, 0⟩)
def bltn : List Str := [(Str.ofString "len"), (Str.ofString "sum"), (Str.ofString "all"), (Str.ofString "any"), (Str.ofString "abs"), (Str.ofString "sorted"), (Str.ofString "max"), (Str.ofString "int"), (Str.ofString "list"), (Str.ofString "tuple"), (Str.ofString "range"), (Str.ofString "enumerate"), (Str.ofString "zip"), (Str.ofString "isinstance"), (Str.ofString "bool"), (Str.ofString "set")]
def cons : List (Str × Int) := [((Str.ofString "MOST"), (40)), ((Str.ofString "MOST_FORKS"), (24))]
def consD : List (Str × D) := cons.map fun q => (q.1, .int q.2)
/-! ### _law_cup -/
def b__law_cup : DS :=
    (fSeq (fAsg 1 (fPrim pAbs (aCons (oOf (fPrim pIx (aCons (oOf (fPrim qAdd (aCons (oOf (fPrim pList (aCons (oSlot 0) aNil))) (aCons (oOf (fLst (vCons (vOf (fLit (.int (0)))) vNil))) aNil)))) (aCons (oOf (fLit (.int (0)))) aNil)))) aNil)))
    (fSeq (fAsg 2 (fIf (tBool (fPrim qGe (aCons (oSlot 1) (aCons (oOf (fPrim pPowI (aCons (oOf (fLit (.int (10)))) (aCons (oOf (fLit (.int (18)))) aNil)))) aNil)))) (fPrim pDivI (aCons (oSlot 1) (aCons (oOf (fLit (.int (11)))) aNil))) (fLit (.int (0)))))
    (fSeq (fRet (fLst (vCons (vOf (fVar 2)) (vCons (vOf (fPrim qAdd (aCons (oOf (fPrim pModI (aCons (oOf (fPrim pInt (aCons (oOf (fPrim qAdd (aCons (oOf (fPrim qMul (aCons (oSlot 1) (aCons (oOf (fLit (.int (193)))) aNil)))) (aCons (oOf (fLit (.int (1201)))) aNil)))) aNil))) (aCons (oOf (fLit (.int (2077504273)))) aNil)))) (aCons (oOf (fLit (.int (89)))) aNil)))) vNil))))
    fNext)))
def phi__law_cup : CallD := gate [false] (defD 3 (b__law_cup))
def l__law_cup : Tab := []
def N__law_cup : List Str := [(Str.ofString "_law_script"), (Str.ofString "_law_cell"), (Str.ofString "_law_great")]
def P__law_cup : List Str := [(Str.ofString "_law_script")]
theorem tr__law_cup : trSs 200 (mkC N__law_cup (defScope (S 72)) [false] l__law_cup bltn consD []) (defBody (S 72)) = some (fun Φ => b__law_cup) := by kernel_rfl
theorem sc__law_cup : FnScope N__law_cup P__law_cup (defScope (S 72)) := ⟨by rfl, by rfl, by rfl, by decide +kernel, by rfl, by decide +kernel, by decide +kernel⟩
/-! ### _law_both -/
def b__law_both : DS :=
    (fSeq (fUnp (.tup [3, 4]) (vOf (fTup (vCons (vOf (fPrim pSubI (aCons (oOf (fPrim pIx (aCons (oSlot 0) (aCons (oOf (fLit (.int (0)))) aNil)))) (aCons (oOf (fLit (.int (1)))) aNil)))) (vCons (vOf (fPrim pSubI (aCons (oOf (fPrim qAdd (aCons (oOf (fPrim pIx (aCons (oSlot 0) (aCons (oOf (fLit (.int (0)))) aNil)))) (aCons (oOf (fPrim pIx (aCons (oSlot 1) (aCons (oOf (fLit (.int (0)))) aNil)))) aNil)))) (aCons (oOf (fLit (.int (2)))) aNil)))) vNil)))))
    (fSeq (fAsg 2 (fPrim qAdd (aCons (oOf (fPrim qAdd (aCons (oOf (fPrim pList (aCons (oOf (fPrim pIx (aCons (oSlot 0) (aCons (oOf (fLit (.int (1)))) aNil)))) aNil))) (aCons (oOf (fLc (iSeq (vOf (fPrim pIx (aCons (oSlot 1) (aCons (oOf (fLit (.int (1)))) aNil))))) (.tup [5, 6]) tYesD (vOf (fTup (vCons (vOf (fPrim qAdd (aCons (oSlot 5) (aCons (oSlot 3) aNil)))) (vCons (vOf (fPrim qAdd (aCons (oSlot 6) (aCons (oSlot 3) aNil)))) vNil)))) [5, 6])) aNil)))) (aCons (oOf (fLst (vCons (vOf (fTup (vCons (vOf (fLit (.int (0)))) (vCons (vOf (fVar 3)) vNil)))) (vCons (vOf (fTup (vCons (vOf (fVar 3)) (vCons (vOf (fVar 4)) vNil)))) vNil)))) aNil))))
    (fSeq (fRet (fTup (vCons (vOf (fPrim qAdd (aCons (oSlot 4) (aCons (oOf (fLit (.int (1)))) aNil)))) (vCons (vOf (fPrim pTuple (aCons (oOf (fPrim pSorted (aCons (oOf (fLc (iSeq (vOf (fVar 2))) (.name 7) (tBool (fPrim qGt (aCons (oOf (fPrim pSubI (aCons (oOf (fPrim pIx (aCons (oSlot 7) (aCons (oOf (fLit (.int (1)))) aNil)))) (aCons (oOf (fPrim pIx (aCons (oSlot 7) (aCons (oOf (fLit (.int (0)))) aNil)))) aNil)))) (aCons (oOf (fLit (.int (1)))) aNil)))) (vOf (fVar 7)) [7])) aNil))) aNil))) vNil))))
    fNext)))
def phi__law_both : CallD := gate [false, false] (defD 8 (b__law_both))
def l__law_both : Tab := []
def N__law_both : List Str := [(Str.ofString "_law_one"), (Str.ofString "_law_two"), (Str.ofString "_law_cuts_here"), (Str.ofString "_law_middle"), (Str.ofString "_law_last"), (Str.ofString "_law_first"), (Str.ofString "_law_second"), (Str.ofString "_law_cut")]
def P__law_both : List Str := [(Str.ofString "_law_one"), (Str.ofString "_law_two")]
theorem tr__law_both : trSs 200 (mkC N__law_both (defScope (S 77)) [false, false] l__law_both bltn consD []) (defBody (S 77)) = some (fun Φ => b__law_both) := by kernel_rfl
theorem sc__law_both : FnScope N__law_both P__law_both (defScope (S 77)) := ⟨by rfl, by rfl, by rfl, by decide +kernel, by rfl, by decide +kernel, by decide +kernel⟩
/-! ### tree_size -/
def b_tree_size (phi_tree_size : CallD) : DS :=
    (fSeq (fIfS (tOrD (tNotD (tTruth (oOf (fIsi .tuple (oSlot 0))))) (tOrD (tBool (fPrim qNotIn (aCons (oOf (fPrim qLen (aCons (oSlot 0) aNil))) (aCons (oOf (fTup (vCons (vOf (fLit (.int (0)))) (vCons (vOf (fLit (.int (2)))) vNil)))) aNil)))) (tAndD (tBool (fPrim qNe (aCons (oSlot 0) (aCons (oOf (fTup vNil)) aNil)))) (tBool (fPrim qEq (aCons (oSlot 1) (aCons (oOf (fLit (.int (0)))) aNil))))))) (fSeq (fRet (fLit .none))
    fNext) fNext)
    (fSeq (fIfS (tBool (fPrim qEq (aCons (oSlot 0) (aCons (oOf (fTup vNil)) aNil)))) (fSeq (fRet (fLit (.int (0))))
    fNext) fNext)
    (fSeq (fAsg 2 (fCall phi_tree_size [false, false] (.val (vOf (fPrim pIx (aCons (oSlot 0) (aCons (oOf (fLit (.int (0)))) aNil)))) :: (.val (vOf (fPrim pSubI (aCons (oSlot 1) (aCons (oOf (fLit (.int (1)))) aNil)))) :: []))))
    (fSeq (fAsg 3 (fIf (tBool (fPrim qIs (aCons (oSlot 2) (aCons (oOf (fLit .none)) aNil)))) (fLit .none) (fCall phi_tree_size [false, false] (.val (vOf (fPrim pIx (aCons (oSlot 0) (aCons (oOf (fLit (.int (1)))) aNil)))) :: (.val (vOf (fPrim pSubI (aCons (oOf (fPrim pSubI (aCons (oSlot 1) (aCons (oOf (fLit (.int (1)))) aNil)))) (aCons (oSlot 2) aNil)))) :: [])))))
    (fSeq (fRet (fIf (tBool (fPrim qIs (aCons (oSlot 3) (aCons (oOf (fLit .none)) aNil)))) (fLit .none) (fPrim qAdd (aCons (oOf (fPrim qAdd (aCons (oSlot 2) (aCons (oSlot 3) aNil)))) (aCons (oOf (fLit (.int (1)))) aNil)))))
    fNext)))))
def phi_tree_size : Nat → CallD
  | 0 => fun _ => none
  | k + 1 => gate [false, false] (defD 4 (b_tree_size (phi_tree_size k)))
def l_tree_size (k : Nat) : Tab := [((Str.ofString "tree_size"), ⟨2, [false, false]⟩, phi_tree_size k)]
def N_tree_size : List Str := [(Str.ofString "value"), (Str.ofString "left"), (Str.ofString "one"), (Str.ofString "other")]
def P_tree_size : List Str := [(Str.ofString "value"), (Str.ofString "left")]
theorem tr_tree_size (k : Nat) : trSs 200 (mkC N_tree_size (defScope (S 26)) [false, false] (l_tree_size k) bltn consD []) (defBody (S 26)) = some (fun Φ => b_tree_size (Φ (Str.ofString "tree_size"))) := by kernel_rfl
theorem sc_tree_size : FnScope N_tree_size P_tree_size (defScope (S 26)) := ⟨by rfl, by rfl, by rfl, by decide +kernel, by rfl, by decide +kernel, by decide +kernel⟩
/-! ### fits_tree -/
def b_fits_tree (phi_tree_size : CallD) : DS :=
    (fSeq (fRet (fPrim qNot (aCons (oOf (fCall phi_tree_size [false, false] (.val (vOf (fVar 0)) :: (.val (vOf (fLit (.int (24)))) :: [])))) (aCons (oOf (fLit .none)) aNil))))
    fNext)
def phi_fits_tree : CallD := gate [false] (defD 1 (b_fits_tree (phi_tree_size 10)))
def l_fits_tree : Tab := [((Str.ofString "tree_size"), ⟨2, [false, false]⟩, phi_tree_size 10)]
def N_fits_tree : List Str := [(Str.ofString "value")]
def P_fits_tree : List Str := [(Str.ofString "value")]
theorem tr_fits_tree : trSs 200 (mkC N_fits_tree (defScope (S 27)) [false] l_fits_tree bltn consD []) (defBody (S 27)) = some (fun Φ => b_fits_tree (Φ (Str.ofString "tree_size"))) := by kernel_rfl
theorem sc_fits_tree : FnScope N_fits_tree P_fits_tree (defScope (S 27)) := ⟨by rfl, by rfl, by rfl, by decide +kernel, by rfl, by decide +kernel, by decide +kernel⟩
/-! ### need_tree -/
def b_need_tree (phi_fits_tree : CallD) : DS :=
    (fSeq (fIfS (tNotD (tTruth (oOf (fCall phi_fits_tree [false] (.val (vOf (fVar 0)) :: []))))) (fSeq fStuck
    fNext) fNext)
    fNext)
def phi_need_tree : CallD := gate [false] (defD 1 (b_need_tree (phi_fits_tree)))
def l_need_tree : Tab := [((Str.ofString "fits_tree"), ⟨1, [false]⟩, phi_fits_tree)]
def N_need_tree : List Str := [(Str.ofString "value")]
def P_need_tree : List Str := [(Str.ofString "value")]
theorem tr_need_tree : trSs 200 (mkC N_need_tree (defScope (S 31)) [false] l_need_tree bltn consD []) (defBody (S 31)) = some (fun Φ => b_need_tree (Φ (Str.ofString "fits_tree"))) := by kernel_rfl
theorem sc_need_tree : FnScope N_need_tree P_need_tree (defScope (S 31)) := ⟨by rfl, by rfl, by rfl, by decide +kernel, by rfl, by decide +kernel, by decide +kernel⟩
/-! ### mountain_of -/
def b_mountain_of (phi_mountain_of : CallD) : DS :=
    (fSeq (fRet (fIf (tBool (fPrim qEq (aCons (oSlot 0) (aCons (oOf (fTup vNil)) aNil)))) (fLit (.str (Str.ofString ""))) (fPrim qAdd (aCons (oOf (fPrim qAdd (aCons (oOf (fPrim qAdd (aCons (oOf (fLit (.str (Str.ofString "u")))) (aCons (oOf (fCall phi_mountain_of [false] (.val (vOf (fPrim pIx (aCons (oSlot 0) (aCons (oOf (fLit (.int (0)))) aNil)))) :: []))) aNil)))) (aCons (oOf (fLit (.str (Str.ofString "d")))) aNil)))) (aCons (oOf (fCall phi_mountain_of [false] (.val (vOf (fPrim pIx (aCons (oSlot 0) (aCons (oOf (fLit (.int (1)))) aNil)))) :: []))) aNil)))))
    fNext)
def phi_mountain_of : Nat → CallD
  | 0 => fun _ => none
  | k + 1 => gate [false] (defD 1 (b_mountain_of (phi_mountain_of k)))
def l_mountain_of (k : Nat) : Tab := [((Str.ofString "mountain_of"), ⟨1, [false]⟩, phi_mountain_of k)]
def N_mountain_of : List Str := [(Str.ofString "tree")]
def P_mountain_of : List Str := [(Str.ofString "tree")]
theorem tr_mountain_of (k : Nat) : trSs 200 (mkC N_mountain_of (defScope (S 64)) [false] (l_mountain_of k) bltn consD []) (defBody (S 64)) = some (fun Φ => b_mountain_of (Φ (Str.ofString "mountain_of"))) := by kernel_rfl
theorem sc_mountain_of : FnScope N_mountain_of P_mountain_of (defScope (S 64)) := ⟨by rfl, by rfl, by rfl, by decide +kernel, by rfl, by decide +kernel, by decide +kernel⟩
/-! ### mountain -/
def b_mountain (phi_need_tree phi_mountain_of : CallD) : DS :=
    (fSeq (fDrop (fCall phi_need_tree [false] (.val (vOf (fVar 0)) :: [])))
    (fSeq (fRet (fCall phi_mountain_of [false] (.val (vOf (fVar 0)) :: [])))
    fNext))
def phi_mountain : CallD := gate [false] (defD 1 (b_mountain (phi_need_tree) (phi_mountain_of 9)))
def l_mountain : Tab := [((Str.ofString "need_tree"), ⟨1, [false]⟩, phi_need_tree), ((Str.ofString "mountain_of"), ⟨1, [false]⟩, phi_mountain_of 9)]
def N_mountain : List Str := [(Str.ofString "tree")]
def P_mountain : List Str := [(Str.ofString "tree")]
theorem tr_mountain : trSs 200 (mkC N_mountain (defScope (S 65)) [false] l_mountain bltn consD []) (defBody (S 65)) = some (fun Φ => b_mountain (Φ (Str.ofString "need_tree")) (Φ (Str.ofString "mountain_of"))) := by kernel_rfl
theorem sc_mountain : FnScope N_mountain P_mountain (defScope (S 65)) := ⟨by rfl, by rfl, by rfl, by decide +kernel, by rfl, by decide +kernel, by decide +kernel⟩
/-! ### fork_count -/
def b_fork_count (phi_fork_count : CallD) : DS :=
    (fSeq (fRet (fIf (tBool (fPrim qEq (aCons (oSlot 0) (aCons (oOf (fTup vNil)) aNil)))) (fLit (.int (0))) (fPrim qAdd (aCons (oOf (fPrim qAdd (aCons (oOf (fCall phi_fork_count [false] (.val (vOf (fPrim pIx (aCons (oSlot 0) (aCons (oOf (fLit (.int (0)))) aNil)))) :: []))) (aCons (oOf (fCall phi_fork_count [false] (.val (vOf (fPrim pIx (aCons (oSlot 0) (aCons (oOf (fLit (.int (1)))) aNil)))) :: []))) aNil)))) (aCons (oOf (fLit (.int (1)))) aNil)))))
    fNext)
def phi_fork_count : Nat → CallD
  | 0 => fun _ => none
  | k + 1 => gate [false] (defD 1 (b_fork_count (phi_fork_count k)))
def l_fork_count (k : Nat) : Tab := [((Str.ofString "fork_count"), ⟨1, [false]⟩, phi_fork_count k)]
def N_fork_count : List Str := [(Str.ofString "tree")]
def P_fork_count : List Str := [(Str.ofString "tree")]
theorem tr_fork_count (k : Nat) : trSs 200 (mkC N_fork_count (defScope (S 28)) [false] (l_fork_count k) bltn consD []) (defBody (S 28)) = some (fun Φ => b_fork_count (Φ (Str.ofString "fork_count"))) := by kernel_rfl
theorem sc_fork_count : FnScope N_fork_count P_fork_count (defScope (S 28)) := ⟨by rfl, by rfl, by rfl, by decide +kernel, by rfl, by decide +kernel, by decide +kernel⟩
/-! ### reaches_of -/
def b_reaches_of (phi_reaches_of phi_fork_count : CallD) : DS :=
    (fSeq (fRet (fIf (tBool (fPrim qEq (aCons (oSlot 0) (aCons (oOf (fTup vNil)) aNil)))) (fTup vNil) (fPrim qAdd (aCons (oOf (fPrim qAdd (aCons (oOf (fCall phi_reaches_of [false] (.val (vOf (fPrim pIx (aCons (oSlot 0) (aCons (oOf (fLit (.int (0)))) aNil)))) :: []))) (aCons (oOf (fTup (vCons (vOf (fCall phi_fork_count [false] (.val (vOf (fPrim pIx (aCons (oSlot 0) (aCons (oOf (fLit (.int (1)))) aNil)))) :: []))) vNil))) aNil)))) (aCons (oOf (fCall phi_reaches_of [false] (.val (vOf (fPrim pIx (aCons (oSlot 0) (aCons (oOf (fLit (.int (1)))) aNil)))) :: []))) aNil)))))
    fNext)
def phi_reaches_of : Nat → CallD
  | 0 => fun _ => none
  | k + 1 => gate [false] (defD 1 (b_reaches_of (phi_reaches_of k) (phi_fork_count 9)))
def l_reaches_of (k : Nat) : Tab := [((Str.ofString "reaches_of"), ⟨1, [false]⟩, phi_reaches_of k), ((Str.ofString "fork_count"), ⟨1, [false]⟩, phi_fork_count 9)]
def N_reaches_of : List Str := [(Str.ofString "tree")]
def P_reaches_of : List Str := [(Str.ofString "tree")]
theorem tr_reaches_of (k : Nat) : trSs 200 (mkC N_reaches_of (defScope (S 30)) [false] (l_reaches_of k) bltn consD []) (defBody (S 30)) = some (fun Φ => b_reaches_of (Φ (Str.ofString "reaches_of")) (Φ (Str.ofString "fork_count"))) := by kernel_rfl
theorem sc_reaches_of : FnScope N_reaches_of P_reaches_of (defScope (S 30)) := ⟨by rfl, by rfl, by rfl, by decide +kernel, by rfl, by decide +kernel, by decide +kernel⟩
/-! ### reaches -/
def b_reaches (phi_need_tree phi_reaches_of : CallD) : DS :=
    (fSeq (fDrop (fCall phi_need_tree [false] (.val (vOf (fVar 0)) :: [])))
    (fSeq (fRet (fCall phi_reaches_of [false] (.val (vOf (fVar 0)) :: [])))
    fNext))
def phi_reaches : CallD := gate [false] (defD 1 (b_reaches (phi_need_tree) (phi_reaches_of 9)))
def l_reaches : Tab := [((Str.ofString "need_tree"), ⟨1, [false]⟩, phi_need_tree), ((Str.ofString "reaches_of"), ⟨1, [false]⟩, phi_reaches_of 9)]
def N_reaches : List Str := [(Str.ofString "tree")]
def P_reaches : List Str := [(Str.ofString "tree")]
theorem tr_reaches : trSs 200 (mkC N_reaches (defScope (S 34)) [false] l_reaches bltn consD []) (defBody (S 34)) = some (fun Φ => b_reaches (Φ (Str.ofString "need_tree")) (Φ (Str.ofString "reaches_of"))) := by kernel_rfl
theorem sc_reaches : FnScope N_reaches P_reaches (defScope (S 34)) := ⟨by rfl, by rfl, by rfl, by decide +kernel, by rfl, by decide +kernel, by decide +kernel⟩
/-! ### rises -/
def b_rises : DS :=
    (fSeq (fRet (fPrim pAll (aCons (oOf (fLc (iZip (vCons (vOf (fVar 0)) (vCons (vOf (fSl (oSlot 0) (pSome (vOf (fLit (.int (1))))) pNone)) vNil))) (.tup [1, 2]) tYesD (vOf (fPrim qLt (aCons (oSlot 1) (aCons (oSlot 2) aNil)))) [1, 2])) aNil)))
    fNext)
def phi_rises : CallD := gate [false] (defD 3 (b_rises))
def l_rises : Tab := []
def N_rises : List Str := [(Str.ofString "row"), (Str.ofString "one"), (Str.ofString "other")]
def P_rises : List Str := [(Str.ofString "row")]
theorem tr_rises : trSs 200 (mkC N_rises (defScope (S 13)) [false] l_rises bltn consD []) (defBody (S 13)) = some (fun Φ => b_rises) := by kernel_rfl
theorem sc_rises : FnScope N_rises P_rises (defScope (S 13)) := ⟨by rfl, by rfl, by rfl, by decide +kernel, by rfl, by decide +kernel, by decide +kernel⟩
/-! ### is_whole -/
def b_is_whole : DS :=
    (fSeq (fRet (fAnd (fIsi .int (oSlot 0)) (fAnd (fNot (fIsi .bool (oSlot 0))) (fChain (oSlot 1) (cMore qLe (oSlot 0) (cOne qLe (oSlot 2)))))))
    fNext)
def phi_is_whole : CallD := gate [false, false, false] (defD 3 (b_is_whole))
def l_is_whole : Tab := []
def N_is_whole : List Str := [(Str.ofString "value"), (Str.ofString "low"), (Str.ofString "high")]
def P_is_whole : List Str := [(Str.ofString "value"), (Str.ofString "low"), (Str.ofString "high")]
theorem tr_is_whole : trSs 200 (mkC N_is_whole (defScope (S 9)) [false, false, false] l_is_whole bltn consD []) (defBody (S 9)) = some (fun Φ => b_is_whole) := by kernel_rfl
theorem sc_is_whole : FnScope N_is_whole P_is_whole (defScope (S 9)) := ⟨by rfl, by rfl, by rfl, by decide +kernel, by rfl, by decide +kernel, by decide +kernel⟩
/-! ### are_next -/
def b_are_next : DS :=
    (fSeq (fRet (fPrim qIn (aCons (oOf (fPrim pModI (aCons (oOf (fPrim pSubI (aCons (oSlot 1) (aCons (oSlot 2) aNil)))) (aCons (oSlot 0) aNil)))) (aCons (oOf (fTup (vCons (vOf (fLit (.int (1)))) (vCons (vOf (fPrim pSubI (aCons (oSlot 0) (aCons (oOf (fLit (.int (1)))) aNil)))) vNil)))) aNil))))
    fNext)
def phi_are_next : CallD := gate [false, false, false] (defD 3 (b_are_next))
def l_are_next : Tab := []
def N_are_next : List Str := [(Str.ofString "sides"), (Str.ofString "one"), (Str.ofString "other")]
def P_are_next : List Str := [(Str.ofString "sides"), (Str.ofString "one"), (Str.ofString "other")]
theorem tr_are_next : trSs 200 (mkC N_are_next (defScope (S 10)) [false, false, false] l_are_next bltn consD []) (defBody (S 10)) = some (fun Φ => b_are_next) := by kernel_rfl
theorem sc_are_next : FnScope N_are_next P_are_next (defScope (S 10)) := ⟨by rfl, by rfl, by rfl, by decide +kernel, by rfl, by decide +kernel, by decide +kernel⟩
/-! ### fits_cut -/
def b_fits_cut (phi_are_next phi_is_whole : CallD) : DS :=
    (fSeq (fIfS (tOrD (tNotD (tTruth (oOf (fIsi .tuple (oSlot 1))))) (tOrD (tBool (fPrim qNe (aCons (oOf (fPrim qLen (aCons (oSlot 1) aNil))) (aCons (oOf (fLit (.int (2)))) aNil)))) (tNotD (tTruth (oOf (fPrim pAll (aCons (oOf (fLc (iSeq (vOf (fVar 1))) (.name 2) tYesD (vOf (fCall phi_is_whole [false, false, false] (.val (vOf (fVar 2)) :: (.val (vOf (fLit (.int (0)))) :: (.val (vOf (fPrim pSubI (aCons (oSlot 0) (aCons (oOf (fLit (.int (1)))) aNil)))) :: []))))) [2])) aNil))))))) (fSeq (fRet (fLit (.bool false)))
    fNext) fNext)
    (fSeq (fRet (fAnd (fPrim qLt (aCons (oOf (fPrim pIx (aCons (oSlot 1) (aCons (oOf (fLit (.int (0)))) aNil)))) (aCons (oOf (fPrim pIx (aCons (oSlot 1) (aCons (oOf (fLit (.int (1)))) aNil)))) aNil))) (fNot (fCall phi_are_next [false, false, false] (.val (vOf (fVar 0)) :: (.val (vOf (fPrim pIx (aCons (oSlot 1) (aCons (oOf (fLit (.int (0)))) aNil)))) :: (.val (vOf (fPrim pIx (aCons (oSlot 1) (aCons (oOf (fLit (.int (1)))) aNil)))) :: [])))))))
    fNext))
def phi_fits_cut : CallD := gate [false, false] (defD 3 (b_fits_cut (phi_are_next) (phi_is_whole)))
def l_fits_cut : Tab := [((Str.ofString "are_next"), ⟨3, [false, false, false]⟩, phi_are_next), ((Str.ofString "is_whole"), ⟨3, [false, false, false]⟩, phi_is_whole)]
def N_fits_cut : List Str := [(Str.ofString "sides"), (Str.ofString "value"), (Str.ofString "one")]
def P_fits_cut : List Str := [(Str.ofString "sides"), (Str.ofString "value")]
theorem tr_fits_cut : trSs 200 (mkC N_fits_cut (defScope (S 11)) [false, false] l_fits_cut bltn consD []) (defBody (S 11)) = some (fun Φ => b_fits_cut (Φ (Str.ofString "are_next")) (Φ (Str.ofString "is_whole"))) := by kernel_rfl
theorem sc_fits_cut : FnScope N_fits_cut P_fits_cut (defScope (S 11)) := ⟨by rfl, by rfl, by rfl, by decide +kernel, by rfl, by decide +kernel, by decide +kernel⟩
/-! ### cross -/
def b_cross : DS :=
    (fSeq (fRet (fOr (fChain (oOf (fPrim pIx (aCons (oSlot 0) (aCons (oOf (fLit (.int (0)))) aNil)))) (cMore qLt (oOf (fPrim pIx (aCons (oSlot 1) (aCons (oOf (fLit (.int (0)))) aNil)))) (cMore qLt (oOf (fPrim pIx (aCons (oSlot 0) (aCons (oOf (fLit (.int (1)))) aNil)))) (cOne qLt (oOf (fPrim pIx (aCons (oSlot 1) (aCons (oOf (fLit (.int (1)))) aNil)))))))) (fChain (oOf (fPrim pIx (aCons (oSlot 1) (aCons (oOf (fLit (.int (0)))) aNil)))) (cMore qLt (oOf (fPrim pIx (aCons (oSlot 0) (aCons (oOf (fLit (.int (0)))) aNil)))) (cMore qLt (oOf (fPrim pIx (aCons (oSlot 1) (aCons (oOf (fLit (.int (1)))) aNil)))) (cOne qLt (oOf (fPrim pIx (aCons (oSlot 0) (aCons (oOf (fLit (.int (1)))) aNil))))))))))
    fNext)
def phi_cross : CallD := gate [false, false] (defD 2 (b_cross))
def l_cross : Tab := []
def N_cross : List Str := [(Str.ofString "one"), (Str.ofString "other")]
def P_cross : List Str := [(Str.ofString "one"), (Str.ofString "other")]
theorem tr_cross : trSs 200 (mkC N_cross (defScope (S 12)) [false, false] l_cross bltn consD []) (defBody (S 12)) = some (fun Φ => b_cross) := by kernel_rfl
theorem sc_cross : FnScope N_cross P_cross (defScope (S 12)) := ⟨by rfl, by rfl, by rfl, by decide +kernel, by rfl, by decide +kernel, by decide +kernel⟩
/-! ### fits_cutting -/
def b_fits_cutting (phi_rises phi_is_whole phi_fits_cut phi_cross : CallD) : DS :=
    (fSeq (fIfS (tOrD (tNotD (tTruth (oOf (fIsi .tuple (oSlot 0))))) (tOrD (tBool (fPrim qNe (aCons (oOf (fPrim qLen (aCons (oSlot 0) aNil))) (aCons (oOf (fLit (.int (2)))) aNil)))) (tNotD (tTruth (oOf (fCall phi_is_whole [false, false, false] (.val (vOf (fPrim pIx (aCons (oSlot 0) (aCons (oOf (fLit (.int (0)))) aNil)))) :: (.val (vOf (fLit (.int (3)))) :: (.val (vOf (fLit (.int (40)))) :: []))))))))) (fSeq (fRet (fLit (.bool false)))
    fNext) fNext)
    (fSeq (fUnp (.tup [1, 2]) (vOf (fVar 0)))
    (fSeq (fIfS (tOrD (tNotD (tTruth (oOf (fIsi .tuple (oSlot 2))))) (tOrD (tBool (fPrim qNe (aCons (oOf (fPrim qLen (aCons (oSlot 2) aNil))) (aCons (oOf (fPrim pSubI (aCons (oSlot 1) (aCons (oOf (fLit (.int (3)))) aNil)))) aNil)))) (tNotD (tTruth (oOf (fPrim pAll (aCons (oOf (fLc (iSeq (vOf (fVar 2))) (.name 3) tYesD (vOf (fCall phi_fits_cut [false, false] (.val (vOf (fVar 1)) :: (.val (vOf (fVar 3)) :: [])))) [3])) aNil))))))) (fSeq (fRet (fLit (.bool false)))
    fNext) fNext)
    (fSeq (fRet (fAnd (fCall phi_rises [false] (.val (vOf (fVar 2)) :: [])) (fNot (fPrim pAny (aCons (oOf (fLc (iSeq (vOf (fVar 2))) (.name 4) tYesD (vOf (fPrim pAny (aCons (oOf (fLc (iSeq (vOf (fVar 2))) (.name 5) tYesD (vOf (fCall phi_cross [false, false] (.val (vOf (fVar 4)) :: (.val (vOf (fVar 5)) :: [])))) [5])) aNil))) [4])) aNil)))))
    fNext))))
def phi_fits_cutting : CallD := gate [false] (defD 6 (b_fits_cutting (phi_rises) (phi_is_whole) (phi_fits_cut) (phi_cross)))
def l_fits_cutting : Tab := [((Str.ofString "rises"), ⟨1, [false]⟩, phi_rises), ((Str.ofString "is_whole"), ⟨3, [false, false, false]⟩, phi_is_whole), ((Str.ofString "fits_cut"), ⟨2, [false, false]⟩, phi_fits_cut), ((Str.ofString "cross"), ⟨2, [false, false]⟩, phi_cross)]
def N_fits_cutting : List Str := [(Str.ofString "value"), (Str.ofString "sides"), (Str.ofString "cuts"), (Str.ofString "cut"), (Str.ofString "one"), (Str.ofString "other")]
def P_fits_cutting : List Str := [(Str.ofString "value")]
theorem tr_fits_cutting : trSs 200 (mkC N_fits_cutting (defScope (S 14)) [false] l_fits_cutting bltn consD []) (defBody (S 14)) = some (fun Φ => b_fits_cutting (Φ (Str.ofString "rises")) (Φ (Str.ofString "is_whole")) (Φ (Str.ofString "fits_cut")) (Φ (Str.ofString "cross"))) := by kernel_rfl
theorem sc_fits_cutting : FnScope N_fits_cutting P_fits_cutting (defScope (S 14)) := ⟨by rfl, by rfl, by rfl, by decide +kernel, by rfl, by decide +kernel, by decide +kernel⟩
/-! ### need_cutting -/
def b_need_cutting (phi_fits_cutting : CallD) : DS :=
    (fSeq (fIfS (tNotD (tTruth (oOf (fCall phi_fits_cutting [false] (.val (vOf (fVar 0)) :: []))))) (fSeq fStuck
    fNext) fNext)
    fNext)
def phi_need_cutting : CallD := gate [false] (defD 1 (b_need_cutting (phi_fits_cutting)))
def l_need_cutting : Tab := [((Str.ofString "fits_cutting"), ⟨1, [false]⟩, phi_fits_cutting)]
def N_need_cutting : List Str := [(Str.ofString "value")]
def P_need_cutting : List Str := [(Str.ofString "value")]
theorem tr_need_cutting : trSs 200 (mkC N_need_cutting (defScope (S 20)) [false] l_need_cutting bltn consD []) (defBody (S 20)) = some (fun Φ => b_need_cutting (Φ (Str.ofString "fits_cutting"))) := by kernel_rfl
theorem sc_need_cutting : FnScope N_need_cutting P_need_cutting (defScope (S 20)) := ⟨by rfl, by rfl, by rfl, by decide +kernel, by rfl, by decide +kernel, by decide +kernel⟩
/-! ### all_ties -/
def b_all_ties : DS :=
    (fSeq (fUnp (.tup [1, 2]) (vOf (fVar 0)))
    (fSeq (fRet (fPrim pSorted (aCons (oOf (fPrim qAdd (aCons (oOf (fPrim qAdd (aCons (oOf (fLc (iRange (vCons (vOf (fPrim pSubI (aCons (oSlot 1) (aCons (oOf (fLit (.int (1)))) aNil)))) vNil)) (.name 3) tYesD (vOf (fTup (vCons (vOf (fVar 3)) (vCons (vOf (fPrim qAdd (aCons (oSlot 3) (aCons (oOf (fLit (.int (1)))) aNil)))) vNil)))) [3])) (aCons (oOf (fLst (vCons (vOf (fTup (vCons (vOf (fLit (.int (0)))) (vCons (vOf (fPrim pSubI (aCons (oSlot 1) (aCons (oOf (fLit (.int (1)))) aNil)))) vNil)))) vNil))) aNil)))) (aCons (oOf (fPrim pList (aCons (oSlot 2) aNil))) aNil)))) aNil)))
    fNext))
def phi_all_ties : CallD := gate [false] (defD 4 (b_all_ties))
def l_all_ties : Tab := []
def N_all_ties : List Str := [(Str.ofString "cutting"), (Str.ofString "sides"), (Str.ofString "cuts"), (Str.ofString "one")]
def P_all_ties : List Str := [(Str.ofString "cutting")]
theorem tr_all_ties : trSs 200 (mkC N_all_ties (defScope (S 15)) [false] l_all_ties bltn consD []) (defBody (S 15)) = some (fun Φ => b_all_ties) := by kernel_rfl
theorem sc_all_ties : FnScope N_all_ties P_all_ties (defScope (S 15)) := ⟨by rfl, by rfl, by rfl, by decide +kernel, by rfl, by decide +kernel, by decide +kernel⟩
/-! ### near_of -/
def b_near_of (phi_all_ties : CallD) : DS :=
    (fSeq (fAsg 1 (fLc (iRange (vCons (vOf (fPrim pIx (aCons (oSlot 0) (aCons (oOf (fLit (.int (0)))) aNil)))) vNil)) (.name 4) tYesD (vOf (fLst vNil)) [4]))
    (fSeq (fFor (iSeq (vOf (fCall phi_all_ties [false] (.val (vOf (fVar 0)) :: [])))) (.tup [2, 3]) (fSeq (fSetIx 1 (vOf (fVar 2)) (vOf (fPrim qAdd (aCons (oOf (fPrim pIx (aCons (oSlot 1) (aCons (oSlot 2) aNil)))) (aCons (oOf (fLst (vCons (vOf (fVar 3)) vNil))) aNil)))))
    (fSeq (fSetIx 1 (vOf (fVar 3)) (vOf (fPrim qAdd (aCons (oOf (fPrim pIx (aCons (oSlot 1) (aCons (oSlot 3) aNil)))) (aCons (oOf (fLst (vCons (vOf (fVar 2)) vNil))) aNil)))))
    fNext)))
    (fSeq (fRet (fLc (iSeq (vOf (fVar 1))) (.name 5) tYesD (vOf (fPrim pSorted (aCons (oSlot 5) aNil))) [5]))
    fNext)))
def phi_near_of : CallD := gate [false] (defD 6 (b_near_of (phi_all_ties)))
def l_near_of : Tab := [((Str.ofString "all_ties"), ⟨1, [false]⟩, phi_all_ties)]
def N_near_of : List Str := [(Str.ofString "cutting"), (Str.ofString "found"), (Str.ofString "one"), (Str.ofString "other"), (Str.ofString "corner"), (Str.ofString "row")]
def P_near_of : List Str := [(Str.ofString "cutting")]
theorem tr_near_of : trSs 200 (mkC N_near_of (defScope (S 16)) [false] l_near_of bltn consD []) (defBody (S 16)) = some (fun Φ => b_near_of (Φ (Str.ofString "all_ties"))) := by kernel_rfl
theorem sc_near_of : FnScope N_near_of P_near_of (defScope (S 16)) := ⟨by rfl, by rfl, by rfl, by decide +kernel, by rfl, by decide +kernel, by decide +kernel⟩
/-! ### piece_counts -/
def b_piece_counts (phi_near_of : CallD) : DS :=
    (fSeq (fRet (fPrim pTuple (aCons (oOf (fLc (iSeq (vOf (fCall phi_near_of [false] (.val (vOf (fVar 0)) :: [])))) (.name 1) tYesD (vOf (fPrim pSubI (aCons (oOf (fPrim qLen (aCons (oSlot 1) aNil))) (aCons (oOf (fLit (.int (1)))) aNil)))) [1])) aNil)))
    fNext)
def phi_piece_counts : CallD := gate [false] (defD 2 (b_piece_counts (phi_near_of)))
def l_piece_counts : Tab := [((Str.ofString "near_of"), ⟨1, [false]⟩, phi_near_of)]
def N_piece_counts : List Str := [(Str.ofString "cutting"), (Str.ofString "row")]
def P_piece_counts : List Str := [(Str.ofString "cutting")]
theorem tr_piece_counts : trSs 200 (mkC N_piece_counts (defScope (S 19)) [false] l_piece_counts bltn consD []) (defBody (S 19)) = some (fun Φ => b_piece_counts (Φ (Str.ofString "near_of"))) := by kernel_rfl
theorem sc_piece_counts : FnScope N_piece_counts P_piece_counts (defScope (S 19)) := ⟨by rfl, by rfl, by rfl, by decide +kernel, by rfl, by decide +kernel, by decide +kernel⟩
/-! ### numbers_from -/
def b_numbers_from : DS :=
    (fSeq (fAsg 3 (fLst (vCons (vOf (fLit (.int (0)))) (vCons (vOf (fLit (.int (1)))) vNil))))
    (fSeq (fFor (iRange (vCons (vOf (fLit (.int (1)))) (vCons (vOf (fVar 2)) vNil))) (.name 4) (fSeq (fAsg 3 (fPrim qAdd (aCons (oSlot 3) (aCons (oOf (fLst (vCons (vOf (fPrim pSubI (aCons (oOf (fPrim qMul (aCons (oOf (fPrim pIx (aCons (oSlot 0) (aCons (oOf (fPrim pModI (aCons (oOf (fPrim qAdd (aCons (oSlot 1) (aCons (oSlot 4) aNil)))) (aCons (oOf (fPrim qLen (aCons (oSlot 0) aNil))) aNil)))) aNil)))) (aCons (oOf (fPrim pIx (aCons (oSlot 3) (aCons (oOf (fPrim pNeg (aCons (oOf (fLit (.int (1)))) aNil))) aNil)))) aNil)))) (aCons (oOf (fPrim pIx (aCons (oSlot 3) (aCons (oOf (fPrim pNeg (aCons (oOf (fLit (.int (2)))) aNil))) aNil)))) aNil)))) vNil))) aNil))))
    fNext))
    (fSeq (fRet (fSl (oSlot 3) pNone (pSome (vOf (fPrim qAdd (aCons (oSlot 2) (aCons (oOf (fLit (.int (1)))) aNil)))))))
    fNext)))
def phi_numbers_from : CallD := gate [false, false, false] (defD 5 (b_numbers_from))
def l_numbers_from : Tab := []
def N_numbers_from : List Str := [(Str.ofString "row"), (Str.ofString "place"), (Str.ofString "steps"), (Str.ofString "found"), (Str.ofString "turn")]
def P_numbers_from : List Str := [(Str.ofString "row"), (Str.ofString "place"), (Str.ofString "steps")]
theorem tr_numbers_from : trSs 200 (mkC N_numbers_from (defScope (S 36)) [false, false, false] l_numbers_from bltn consD []) (defBody (S 36)) = some (fun Φ => b_numbers_from) := by kernel_rfl
theorem sc_numbers_from : FnScope N_numbers_from P_numbers_from (defScope (S 36)) := ⟨by rfl, by rfl, by rfl, by decide +kernel, by rfl, by decide +kernel, by decide +kernel⟩
/-! ### frieze_of -/
def b_frieze_of (phi_piece_counts phi_numbers_from : CallD) : DS :=
    (fSeq (fUnp (.tup [4, 5]) (vOf (fTup (vCons (vOf (fPrim pIx (aCons (oSlot 0) (aCons (oOf (fLit (.int (0)))) aNil)))) (vCons (vOf (fCall phi_piece_counts [false] (.val (vOf (fVar 0)) :: []))) vNil)))))
    (fSeq (fAsg 1 (fLc (iRange (vCons (vOf (fVar 4)) vNil)) (.name 7) tYesD (vOf (fCall phi_numbers_from [false, false, false] (.val (vOf (fVar 5)) :: (.val (vOf (fVar 7)) :: (.val (vOf (fPrim pSubI (aCons (oOf (fPrim pSubI (aCons (oSlot 4) (aCons (oOf (fLit (.int (1)))) aNil)))) (aCons (oSlot 7) aNil)))) :: []))))) [7]))
    (fSeq (fAsg 2 (fTup vNil))
    (fSeq (fFor (iRange (vCons (vOf (fVar 4)) vNil)) (.name 3) (fSeq (fAsg 6 (fLc (iRange (vCons (vOf (fVar 3)) vNil)) (.name 8) tYesD (vOf (fPrim pIx (aCons (oOf (fPrim pIx (aCons (oSlot 1) (aCons (oSlot 8) aNil)))) (aCons (oOf (fPrim pSubI (aCons (oSlot 3) (aCons (oSlot 8) aNil)))) aNil)))) [8]))
    (fSeq (fAsg 2 (fPrim qAdd (aCons (oSlot 2) (aCons (oOf (fTup (vCons (vOf (fPrim pTuple (aCons (oOf (fPrim qAdd (aCons (oSlot 6) (aCons (oOf (fPrim pIx (aCons (oSlot 1) (aCons (oSlot 3) aNil)))) aNil)))) aNil))) vNil))) aNil))))
    fNext)))
    (fSeq (fRetN 2)
    fNext)))))
def phi_frieze_of : CallD := gate [false] (defD 9 (b_frieze_of (phi_piece_counts) (phi_numbers_from)))
def l_frieze_of : Tab := [((Str.ofString "piece_counts"), ⟨1, [false]⟩, phi_piece_counts), ((Str.ofString "numbers_from"), ⟨3, [false, false, false]⟩, phi_numbers_from)]
def N_frieze_of : List Str := [(Str.ofString "cutting"), (Str.ofString "behind"), (Str.ofString "rows"), (Str.ofString "one"), (Str.ofString "sides"), (Str.ofString "counts"), (Str.ofString "ahead"), (Str.ofString "corner"), (Str.ofString "other")]
def P_frieze_of : List Str := [(Str.ofString "cutting")]
theorem tr_frieze_of : trSs 200 (mkC N_frieze_of (defScope (S 37)) [false] l_frieze_of bltn consD []) (defBody (S 37)) = some (fun Φ => b_frieze_of (Φ (Str.ofString "piece_counts")) (Φ (Str.ofString "numbers_from"))) := by kernel_rfl
theorem sc_frieze_of : FnScope N_frieze_of P_frieze_of (defScope (S 37)) := ⟨by rfl, by rfl, by rfl, by decide +kernel, by rfl, by decide +kernel, by decide +kernel⟩
/-! ### frieze -/
def b_frieze (phi_need_cutting phi_frieze_of : CallD) : DS :=
    (fSeq (fDrop (fCall phi_need_cutting [false] (.val (vOf (fVar 0)) :: [])))
    (fSeq (fRet (fCall phi_frieze_of [false] (.val (vOf (fVar 0)) :: [])))
    fNext))
def phi_frieze : CallD := gate [false] (defD 1 (b_frieze (phi_need_cutting) (phi_frieze_of)))
def l_frieze : Tab := [((Str.ofString "need_cutting"), ⟨1, [false]⟩, phi_need_cutting), ((Str.ofString "frieze_of"), ⟨1, [false]⟩, phi_frieze_of)]
def N_frieze : List Str := [(Str.ofString "cutting")]
def P_frieze : List Str := [(Str.ofString "cutting")]
theorem tr_frieze : trSs 200 (mkC N_frieze (defScope (S 38)) [false] l_frieze bltn consD []) (defBody (S 38)) = some (fun Φ => b_frieze (Φ (Str.ofString "need_cutting")) (Φ (Str.ofString "frieze_of"))) := by kernel_rfl
theorem sc_frieze : FnScope N_frieze P_frieze (defScope (S 38)) := ⟨by rfl, by rfl, by rfl, by decide +kernel, by rfl, by decide +kernel, by decide +kernel⟩
/-! ### fits_line -/
def b_fits_line (phi_is_whole : CallD) : DS :=
    (fSeq (fIfS (tOrD (tNotD (tTruth (oOf (fIsi .tuple (oSlot 1))))) (tBool (fPrim qNe (aCons (oOf (fPrim qLen (aCons (oSlot 1) aNil))) (aCons (oOf (fLit (.int (2)))) aNil))))) (fSeq (fRet (fLit (.bool false)))
    fNext) fNext)
    (fSeq (fRet (fAnd (fPrim pAll (aCons (oOf (fLc (iSeq (vOf (fVar 1))) (.name 2) tYesD (vOf (fCall phi_is_whole [false, false, false] (.val (vOf (fVar 2)) :: (.val (vOf (fLit (.int (0)))) :: (.val (vOf (fPrim pSubI (aCons (oOf (fPrim pIx (aCons (oSlot 0) (aCons (oOf (fLit (.int (0)))) aNil)))) (aCons (oOf (fLit (.int (1)))) aNil)))) :: []))))) [2])) aNil)) (fPrim qLt (aCons (oOf (fPrim pIx (aCons (oSlot 1) (aCons (oOf (fLit (.int (0)))) aNil)))) (aCons (oOf (fPrim pIx (aCons (oSlot 1) (aCons (oOf (fLit (.int (1)))) aNil)))) aNil)))))
    fNext))
def phi_fits_line : CallD := gate [false, false] (defD 3 (b_fits_line (phi_is_whole)))
def l_fits_line : Tab := [((Str.ofString "is_whole"), ⟨3, [false, false, false]⟩, phi_is_whole)]
def N_fits_line : List Str := [(Str.ofString "cutting"), (Str.ofString "value"), (Str.ofString "one")]
def P_fits_line : List Str := [(Str.ofString "cutting"), (Str.ofString "value")]
theorem tr_fits_line : trSs 200 (mkC N_fits_line (defScope (S 45)) [false, false] l_fits_line bltn consD []) (defBody (S 45)) = some (fun Φ => b_fits_line (Φ (Str.ofString "is_whole"))) := by kernel_rfl
theorem sc_fits_line : FnScope N_fits_line P_fits_line (defScope (S 45)) := ⟨by rfl, by rfl, by rfl, by decide +kernel, by rfl, by decide +kernel, by decide +kernel⟩
/-! ### need_line -/
def b_need_line (phi_fits_line : CallD) : DS :=
    (fSeq (fIfS (tNotD (tTruth (oOf (fCall phi_fits_line [false, false] (.val (vOf (fVar 0)) :: (.val (vOf (fVar 1)) :: [])))))) (fSeq fStuck
    fNext) fNext)
    fNext)
def phi_need_line : CallD := gate [false, false] (defD 2 (b_need_line (phi_fits_line)))
def l_need_line : Tab := [((Str.ofString "fits_line"), ⟨2, [false, false]⟩, phi_fits_line)]
def N_need_line : List Str := [(Str.ofString "cutting"), (Str.ofString "value")]
def P_need_line : List Str := [(Str.ofString "cutting"), (Str.ofString "value")]
theorem tr_need_line : trSs 200 (mkC N_need_line (defScope (S 53)) [false, false] l_need_line bltn consD []) (defBody (S 53)) = some (fun Φ => b_need_line (Φ (Str.ofString "fits_line"))) := by kernel_rfl
theorem sc_need_line : FnScope N_need_line P_need_line (defScope (S 53)) := ⟨by rfl, by rfl, by rfl, by decide +kernel, by rfl, by decide +kernel, by decide +kernel⟩
/-! ### need_across -/
def b_need_across (phi_need_cutting phi_need_line : CallD) : DS :=
    (fSeq (fDrop (fCall phi_need_cutting [false] (.val (vOf (fVar 0)) :: [])))
    (fSeq (fDrop (fCall phi_need_line [false, false] (.val (vOf (fVar 0)) :: (.val (vOf (fVar 1)) :: []))))
    fNext))
def phi_need_across : CallD := gate [false, false] (defD 2 (b_need_across (phi_need_cutting) (phi_need_line)))
def l_need_across : Tab := [((Str.ofString "need_cutting"), ⟨1, [false]⟩, phi_need_cutting), ((Str.ofString "need_line"), ⟨2, [false, false]⟩, phi_need_line)]
def N_need_across : List Str := [(Str.ofString "cutting"), (Str.ofString "line")]
def P_need_across : List Str := [(Str.ofString "cutting"), (Str.ofString "line")]
theorem tr_need_across : trSs 200 (mkC N_need_across (defScope (S 54)) [false, false] l_need_across bltn consD []) (defBody (S 54)) = some (fun Φ => b_need_across (Φ (Str.ofString "need_cutting")) (Φ (Str.ofString "need_line"))) := by kernel_rfl
theorem sc_need_across : FnScope N_need_across P_need_across (defScope (S 54)) := ⟨by rfl, by rfl, by rfl, by decide +kernel, by rfl, by decide +kernel, by decide +kernel⟩
/-! ### met_at -/
def b_met_at : DS :=
    (fSeq (fUnp (.tup [3, 4]) (vOf (fIf (tBool (fChain (oOf (fPrim pIx (aCons (oSlot 1) (aCons (oOf (fLit (.int (0)))) aNil)))) (cMore qLt (oOf (fPrim pIx (aCons (oSlot 2) (aCons (oOf (fLit (.int (0)))) aNil)))) (cOne qLt (oOf (fPrim pIx (aCons (oSlot 1) (aCons (oOf (fLit (.int (1)))) aNil)))))))) (fVar 2) (fTup (vCons (vOf (fPrim pIx (aCons (oSlot 2) (aCons (oOf (fLit (.int (1)))) aNil)))) (vCons (vOf (fPrim pIx (aCons (oSlot 2) (aCons (oOf (fLit (.int (0)))) aNil)))) vNil))))))
    (fSeq (fRet (fTup (vCons (vOf (fVar 3)) (vCons (vOf (fPrim pModI (aCons (oOf (fPrim pSubI (aCons (oOf (fPrim pIx (aCons (oSlot 1) (aCons (oOf (fLit (.int (0)))) aNil)))) (aCons (oSlot 4) aNil)))) (aCons (oSlot 0) aNil)))) vNil))))
    fNext))
def phi_met_at : CallD := gate [false, false, false] (defD 5 (b_met_at))
def l_met_at : Tab := []
def N_met_at : List Str := [(Str.ofString "sides"), (Str.ofString "line"), (Str.ofString "cut"), (Str.ofString "inner"), (Str.ofString "outer")]
def P_met_at : List Str := [(Str.ofString "sides"), (Str.ofString "line"), (Str.ofString "cut")]
theorem tr_met_at : trSs 200 (mkC N_met_at (defScope (S 46)) [false, false, false] l_met_at bltn consD []) (defBody (S 46)) = some (fun Φ => b_met_at) := by kernel_rfl
theorem sc_met_at : FnScope N_met_at P_met_at (defScope (S 46)) := ⟨by rfl, by rfl, by rfl, by decide +kernel, by rfl, by decide +kernel, by decide +kernel⟩
/-! ### cuts_across -/
def b_cuts_across (phi_met_at phi_cross : CallD) : DS :=
    (fSeq (fAsg 2 (fLc (iSeq (vOf (fPrim pIx (aCons (oSlot 0) (aCons (oOf (fLit (.int (1)))) aNil))))) (.name 3) (tTruth (oOf (fCall phi_cross [false, false] (.val (vOf (fVar 1)) :: (.val (vOf (fVar 3)) :: []))))) (vOf (fTup (vCons (vOf (fCall phi_met_at [false, false, false] (.val (vOf (fPrim pIx (aCons (oSlot 0) (aCons (oOf (fLit (.int (0)))) aNil)))) :: (.val (vOf (fVar 1)) :: (.val (vOf (fVar 3)) :: []))))) (vCons (vOf (fVar 3)) vNil)))) [3]))
    (fSeq (fRet (fLc (iSeq (vOf (fPrim pSorted (aCons (oSlot 2) aNil)))) (.tup [4, 3]) tYesD (vOf (fVar 3)) [4, 3]))
    fNext))
def phi_cuts_across : CallD := gate [false, false] (defD 5 (b_cuts_across (phi_met_at) (phi_cross)))
def l_cuts_across : Tab := [((Str.ofString "met_at"), ⟨3, [false, false, false]⟩, phi_met_at), ((Str.ofString "cross"), ⟨2, [false, false]⟩, phi_cross)]
def N_cuts_across : List Str := [(Str.ofString "cutting"), (Str.ofString "line"), (Str.ofString "some"), (Str.ofString "cut"), (Str.ofString "place")]
def P_cuts_across : List Str := [(Str.ofString "cutting"), (Str.ofString "line")]
theorem tr_cuts_across : trSs 200 (mkC N_cuts_across (defScope (S 47)) [false, false] l_cuts_across bltn consD []) (defBody (S 47)) = some (fun Φ => b_cuts_across (Φ (Str.ofString "met_at")) (Φ (Str.ofString "cross"))) := by kernel_rfl
theorem sc_cuts_across : FnScope N_cuts_across P_cuts_across (defScope (S 47)) := ⟨by rfl, by rfl, by rfl, by decide +kernel, by rfl, by decide +kernel, by decide +kernel⟩
/-! ### next_corners -/
def b_next_corners : DS :=
    (fSeq (fUnp (.nst [(.t [2, 3]), (.t [4, 5, 6, 7])]) (vOf (fVar 0)))
    (fSeq (fIfS (tBool (fPrim qIn (aCons (oSlot 5) (aCons (oSlot 1) aNil)))) (fSeq (fRet (fTup (vCons (vOf (fTup (vCons (vOf (fPrim qAdd (aCons (oSlot 2) (aCons (oOf (fLit (.int (1)))) aNil)))) (vCons (vOf (fVar 3)) vNil)))) (vCons (vOf (fTup (vCons (vOf (fVar 7)) (vCons (vOf (fVar 6)) (vCons (vOf (fVar 5)) vNil))))) vNil))))
    fNext) fNext)
    (fSeq (fRet (fTup (vCons (vOf (fTup (vCons (vOf (fVar 2)) (vCons (vOf (fPrim qAdd (aCons (oSlot 3) (aCons (oOf (fLit (.int (1)))) aNil)))) vNil)))) (vCons (vOf (fTup (vCons (vOf (fVar 5)) (vCons (vOf (fVar 7)) (vCons (vOf (fVar 6)) vNil))))) vNil))))
    fNext)))
def phi_next_corners : CallD := gate [false, false] (defD 8 (b_next_corners))
def l_next_corners : Tab := []
def N_next_corners : List Str := [(Str.ofString "tile"), (Str.ofString "cut"), (Str.ofString "across"), (Str.ofString "up"), (Str.ofString "lower"), (Str.ofString "left"), (Str.ofString "upper"), (Str.ofString "right")]
def P_next_corners : List Str := [(Str.ofString "tile"), (Str.ofString "cut")]
theorem tr_next_corners : trSs 200 (mkC N_next_corners (defScope (S 49)) [false, false] l_next_corners bltn consD []) (defBody (S 49)) = some (fun Φ => b_next_corners) := by kernel_rfl
theorem sc_next_corners : FnScope N_next_corners P_next_corners (defScope (S 49)) := ⟨by rfl, by rfl, by rfl, by decide +kernel, by rfl, by decide +kernel, by decide +kernel⟩
/-! ### first_corners -/
def b_first_corners : DS :=
    (fSeq (fPar 3 4 (fPrim pIx (aCons (oSlot 0) (aCons (oOf (fLit (.int (0)))) aNil))) (fPrim pIx (aCons (oSlot 1) (aCons (oOf (fLit (.int (0)))) aNil))))
    (fSeq (fUnp (.tup [5, 6]) (vOf (fVar 2)))
    (fSeq (fIfS (tBool (fPrim qLt (aCons (oOf (fPrim pModI (aCons (oOf (fPrim pSubI (aCons (oSlot 4) (aCons (oSlot 5) aNil)))) (aCons (oSlot 3) aNil)))) (aCons (oOf (fPrim pModI (aCons (oOf (fPrim pSubI (aCons (oSlot 4) (aCons (oSlot 6) aNil)))) (aCons (oSlot 3) aNil)))) aNil)))) (fSeq (fRet (fTup (vCons (vOf (fVar 4)) (vCons (vOf (fVar 5)) (vCons (vOf (fVar 6)) vNil)))))
    fNext) fNext)
    (fSeq (fRet (fTup (vCons (vOf (fVar 4)) (vCons (vOf (fVar 6)) (vCons (vOf (fVar 5)) vNil)))))
    fNext))))
def phi_first_corners : CallD := gate [false, false, false] (defD 7 (b_first_corners))
def l_first_corners : Tab := []
def N_first_corners : List Str := [(Str.ofString "cutting"), (Str.ofString "line"), (Str.ofString "cut"), (Str.ofString "sides"), (Str.ofString "start"), (Str.ofString "one"), (Str.ofString "other")]
def P_first_corners : List Str := [(Str.ofString "cutting"), (Str.ofString "line"), (Str.ofString "cut")]
theorem tr_first_corners : trSs 200 (mkC N_first_corners (defScope (S 48)) [false, false, false] l_first_corners bltn consD []) (defBody (S 48)) = some (fun Φ => b_first_corners) := by kernel_rfl
theorem sc_first_corners : FnScope N_first_corners P_first_corners (defScope (S 48)) := ⟨by rfl, by rfl, by rfl, by decide +kernel, by rfl, by decide +kernel, by decide +kernel⟩
/-! ### thirds_of -/
def b_thirds_of (phi_near_of : CallD) : DS :=
    (fSeq (fAsg 2 (fCall phi_near_of [false] (.val (vOf (fVar 0)) :: [])))
    (fSeq (fRet (fLc (iSeq (vOf (fPrim pIx (aCons (oSlot 2) (aCons (oOf (fPrim pIx (aCons (oSlot 1) (aCons (oOf (fLit (.int (0)))) aNil)))) aNil))))) (.name 3) (tBool (fPrim qIn (aCons (oSlot 3) (aCons (oOf (fPrim pIx (aCons (oSlot 2) (aCons (oOf (fPrim pIx (aCons (oSlot 1) (aCons (oOf (fLit (.int (1)))) aNil)))) aNil)))) aNil)))) (vOf (fVar 3)) [3]))
    fNext))
def phi_thirds_of : CallD := gate [false, false] (defD 4 (b_thirds_of (phi_near_of)))
def l_thirds_of : Tab := [((Str.ofString "near_of"), ⟨1, [false]⟩, phi_near_of)]
def N_thirds_of : List Str := [(Str.ofString "cutting"), (Str.ofString "cut"), (Str.ofString "near"), (Str.ofString "corner")]
def P_thirds_of : List Str := [(Str.ofString "cutting"), (Str.ofString "cut")]
theorem tr_thirds_of : trSs 200 (mkC N_thirds_of (defScope (S 18)) [false, false] l_thirds_of bltn consD []) (defBody (S 18)) = some (fun Φ => b_thirds_of (Φ (Str.ofString "near_of"))) := by kernel_rfl
theorem sc_thirds_of : FnScope N_thirds_of P_thirds_of (defScope (S 18)) := ⟨by rfl, by rfl, by rfl, by decide +kernel, by rfl, by decide +kernel, by decide +kernel⟩
/-! ### tiles_of -/
def b_tiles_of (phi_cuts_across phi_next_corners phi_first_corners phi_thirds_of : CallD) : DS :=
    (fSeq (fAsg 2 (fTup vNil))
    (fSeq (fFor (iSeq (vOf (fCall phi_cuts_across [false, false] (.val (vOf (fVar 0)) :: (.val (vOf (fVar 1)) :: []))))) (.name 3) (fSeq (fIfS (tBool (fPrim qEq (aCons (oSlot 2) (aCons (oOf (fTup vNil)) aNil)))) (fSeq (fPar 8 9 (fTup (vCons (vOf (fLit (.int (0)))) (vCons (vOf (fLit (.int (0)))) vNil))) (fCall phi_first_corners [false, false, false] (.val (vOf (fVar 0)) :: (.val (vOf (fVar 1)) :: (.val (vOf (fVar 3)) :: [])))))
    fNext) (fSeq (fUnp (.tup [8, 9]) (vOf (fCall phi_next_corners [false, false] (.val (vOf (fPrim pIx (aCons (oSlot 2) (aCons (oOf (fPrim pNeg (aCons (oOf (fLit (.int (1)))) aNil))) aNil)))) :: (.val (vOf (fVar 3)) :: [])))))
    fNext))
    (fSeq (fUnp (.tup [5, 6, 7]) (vOf (fVar 9)))
    (fSeq (fAsg 4 (fPrim pIx (aCons (oOf (fLc (iSeq (vOf (fCall phi_thirds_of [false, false] (.val (vOf (fVar 0)) :: (.val (vOf (fVar 3)) :: []))))) (.name 10) (tBool (fPrim qNe (aCons (oSlot 10) (aCons (oSlot 5) aNil)))) (vOf (fVar 10)) [10])) (aCons (oOf (fLit (.int (0)))) aNil))))
    (fSeq (fAsg 2 (fPrim qAdd (aCons (oSlot 2) (aCons (oOf (fTup (vCons (vOf (fTup (vCons (vOf (fVar 8)) (vCons (vOf (fTup (vCons (vOf (fVar 5)) (vCons (vOf (fVar 6)) (vCons (vOf (fVar 4)) (vCons (vOf (fVar 7)) vNil)))))) vNil)))) vNil))) aNil))))
    fNext)))))
    (fSeq (fRetN 2)
    fNext)))
def phi_tiles_of : CallD := gate [false, false] (defD 11 (b_tiles_of (phi_cuts_across) (phi_next_corners) (phi_first_corners) (phi_thirds_of)))
def l_tiles_of : Tab := [((Str.ofString "cuts_across"), ⟨2, [false, false]⟩, phi_cuts_across), ((Str.ofString "next_corners"), ⟨2, [false, false]⟩, phi_next_corners), ((Str.ofString "first_corners"), ⟨3, [false, false, false]⟩, phi_first_corners), ((Str.ofString "thirds_of"), ⟨2, [false, false]⟩, phi_thirds_of)]
def N_tiles_of : List Str := [(Str.ofString "cutting"), (Str.ofString "line"), (Str.ofString "found"), (Str.ofString "cut"), (Str.ofString "upper"), (Str.ofString "lower"), (Str.ofString "left"), (Str.ofString "right"), (Str.ofString "spot"), (Str.ofString "corners"), (Str.ofString "corner")]
def P_tiles_of : List Str := [(Str.ofString "cutting"), (Str.ofString "line")]
theorem tr_tiles_of : trSs 200 (mkC N_tiles_of (defScope (S 50)) [false, false] l_tiles_of bltn consD []) (defBody (S 50)) = some (fun Φ => b_tiles_of (Φ (Str.ofString "cuts_across")) (Φ (Str.ofString "next_corners")) (Φ (Str.ofString "first_corners")) (Φ (Str.ofString "thirds_of"))) := by kernel_rfl
theorem sc_tiles_of : FnScope N_tiles_of P_tiles_of (defScope (S 50)) := ⟨by rfl, by rfl, by rfl, by decide +kernel, by rfl, by decide +kernel, by decide +kernel⟩
/-! ### spots_of -/
def b_spots_of : DS :=
    (fSeq (fRet (fLc (iSeq (vOf (fVar 0))) (.tup [1, 2]) tYesD (vOf (fVar 1)) [1, 2]))
    fNext)
def phi_spots_of : CallD := gate [false] (defD 3 (b_spots_of))
def l_spots_of : Tab := []
def N_spots_of : List Str := [(Str.ofString "tiles"), (Str.ofString "spot"), (Str.ofString "corners")]
def P_spots_of : List Str := [(Str.ofString "tiles")]
theorem tr_spots_of : trSs 200 (mkC N_spots_of (defScope (S 56)) [false] l_spots_of bltn consD []) (defBody (S 56)) = some (fun Φ => b_spots_of) := by kernel_rfl
theorem sc_spots_of : FnScope N_spots_of P_spots_of (defScope (S 56)) := ⟨by rfl, by rfl, by rfl, by decide +kernel, by rfl, by decide +kernel, by decide +kernel⟩
/-! ### rails_at -/
def b_rails_at : DS :=
    (fSeq (fUnp (.tup [1, 2]) (vOf (fVar 0)))
    (fSeq (fPar 3 4 (fTup (vCons (vOf (fVar 1)) (vCons (vOf (fVar 2)) vNil))) (fTup (vCons (vOf (fVar 1)) (vCons (vOf (fPrim qAdd (aCons (oSlot 2) (aCons (oOf (fLit (.int (1)))) aNil)))) vNil))))
    (fSeq (fPar 5 6 (fTup (vCons (vOf (fPrim qAdd (aCons (oSlot 1) (aCons (oOf (fLit (.int (1)))) aNil)))) (vCons (vOf (fVar 2)) vNil))) (fTup (vCons (vOf (fPrim qAdd (aCons (oSlot 1) (aCons (oOf (fLit (.int (1)))) aNil)))) (vCons (vOf (fPrim qAdd (aCons (oSlot 2) (aCons (oOf (fLit (.int (1)))) aNil)))) vNil))))
    (fSeq (fRet (fLst (vCons (vOf (fTup (vCons (vOf (fVar 3)) (vCons (vOf (fVar 4)) vNil)))) (vCons (vOf (fTup (vCons (vOf (fVar 3)) (vCons (vOf (fVar 5)) vNil)))) (vCons (vOf (fTup (vCons (vOf (fVar 4)) (vCons (vOf (fVar 6)) vNil)))) (vCons (vOf (fTup (vCons (vOf (fVar 5)) (vCons (vOf (fVar 6)) vNil)))) vNil))))))
    fNext))))
def phi_rails_at : CallD := gate [false] (defD 7 (b_rails_at))
def l_rails_at : Tab := []
def N_rails_at : List Str := [(Str.ofString "spot"), (Str.ofString "across"), (Str.ofString "up"), (Str.ofString "low"), (Str.ofString "high"), (Str.ofString "far"), (Str.ofString "last")]
def P_rails_at : List Str := [(Str.ofString "spot")]
theorem tr_rails_at : trSs 200 (mkC N_rails_at (defScope (S 52)) [false] l_rails_at bltn consD []) (defBody (S 52)) = some (fun Φ => b_rails_at) := by kernel_rfl
theorem sc_rails_at : FnScope N_rails_at P_rails_at (defScope (S 52)) := ⟨by rfl, by rfl, by rfl, by decide +kernel, by rfl, by decide +kernel, by decide +kernel⟩
/-! ### all_rails -/
def b_all_rails (phi_spots_of phi_rails_at : CallD) : DS :=
    (fSeq (fRet (fSortSet (vOf (fLc2 (iSeq (vOf (fCall phi_spots_of [false] (.val (vOf (fVar 0)) :: [])))) (.name 1) tYesD (iSeq (vOf (fCall phi_rails_at [false] (.val (vOf (fVar 1)) :: [])))) (.name 2) tYesD (vOf (fVar 2)) [1, 2] [2]))))
    fNext)
def phi_all_rails : CallD := gate [false] (defD 3 (b_all_rails (phi_spots_of) (phi_rails_at)))
def l_all_rails : Tab := [((Str.ofString "spots_of"), ⟨1, [false]⟩, phi_spots_of), ((Str.ofString "rails_at"), ⟨1, [false]⟩, phi_rails_at)]
def N_all_rails : List Str := [(Str.ofString "tiles"), (Str.ofString "spot"), (Str.ofString "rail")]
def P_all_rails : List Str := [(Str.ofString "tiles")]
theorem tr_all_rails : trSs 200 (mkC N_all_rails (defScope (S 57)) [false] l_all_rails bltn consD []) (defBody (S 57)) = some (fun Φ => b_all_rails (Φ (Str.ofString "spots_of")) (Φ (Str.ofString "rails_at"))) := by kernel_rfl
theorem sc_all_rails : FnScope N_all_rails P_all_rails (defScope (S 57)) := ⟨by rfl, by rfl, by rfl, by decide +kernel, by rfl, by decide +kernel, by decide +kernel⟩
/-! ### is_pure -/
def b_is_pure (phi_is_pure : CallD) : DS :=
    (fSeq (fIfS (tTruth (oOf (fIsi .tuple (oSlot 0)))) (fSeq (fRet (fPrim pAll (aCons (oOf (fLc (iSeq (vOf (fVar 0))) (.name 1) tYesD (vOf (fCall phi_is_pure [false] (.val (vOf (fVar 1)) :: []))) [1])) aNil)))
    fNext) fNext)
    (fSeq (fRet (fAnd (fIsi .int (oSlot 0)) (fNot (fIsi .bool (oSlot 0)))))
    fNext))
def phi_is_pure : Nat → CallD
  | 0 => fun _ => none
  | k + 1 => gate [false] (defD 2 (b_is_pure (phi_is_pure k)))
def l_is_pure (k : Nat) : Tab := [((Str.ofString "is_pure"), ⟨1, [false]⟩, phi_is_pure k)]
def N_is_pure : List Str := [(Str.ofString "value"), (Str.ofString "part")]
def P_is_pure : List Str := [(Str.ofString "value")]
theorem tr_is_pure (k : Nat) : trSs 200 (mkC N_is_pure (defScope (S 58)) [false] (l_is_pure k) bltn consD []) (defBody (S 58)) = some (fun Φ => b_is_pure (Φ (Str.ofString "is_pure"))) := by kernel_rfl
theorem sc_is_pure : FnScope N_is_pure P_is_pure (defScope (S 58)) := ⟨by rfl, by rfl, by rfl, by decide +kernel, by rfl, by decide +kernel, by decide +kernel⟩
/-! ### fits_pairing -/
def b_fits_pairing (phi_all_rails phi_rises phi_is_pure : CallD) : DS :=
    (fSeq (fAsg 2 (fCall phi_all_rails [false] (.val (vOf (fVar 0)) :: [])))
    (fSeq (fIfS (tOrD (tNotD (tTruth (oOf (fIsi .tuple (oSlot 1))))) (tOrD (tNotD (tTruth (oOf (fPrim pAll (aCons (oOf (fLc (iSeq (vOf (fVar 1))) (.name 4) tYesD (vOf (fAnd (fCall phi_is_pure [false] (.val (vOf (fVar 4)) :: [])) (fPrim qIn (aCons (oSlot 4) (aCons (oSlot 2) aNil))))) [4])) aNil))))) (tNotD (tTruth (oOf (fCall phi_rises [false] (.val (vOf (fVar 1)) :: []))))))) (fSeq (fRet (fLit (.bool false)))
    fNext) fNext)
    (fSeq (fAsg 3 (fLc2 (iSeq (vOf (fVar 1))) (.name 4) tYesD (iSeq (vOf (fVar 4))) (.name 5) tYesD (vOf (fVar 5)) [4, 5] [5]))
    (fSeq (fRet (fPrim qEq (aCons (oOf (fPrim pSorted (aCons (oSlot 3) aNil))) (aCons (oOf (fSortSet (vOf (fLc2 (iSeq (vOf (fVar 2))) (.name 4) tYesD (iSeq (vOf (fVar 4))) (.name 5) tYesD (vOf (fVar 5)) [4, 5] [5])))) aNil))))
    fNext))))
def phi_fits_pairing : CallD := gate [false, false] (defD 6 (b_fits_pairing (phi_all_rails) (phi_rises) (phi_is_pure 3)))
def l_fits_pairing : Tab := [((Str.ofString "all_rails"), ⟨1, [false]⟩, phi_all_rails), ((Str.ofString "rises"), ⟨1, [false]⟩, phi_rises), ((Str.ofString "is_pure"), ⟨1, [false]⟩, phi_is_pure 3)]
def N_fits_pairing : List Str := [(Str.ofString "tiles"), (Str.ofString "value"), (Str.ofString "some"), (Str.ofString "points"), (Str.ofString "rail"), (Str.ofString "point")]
def P_fits_pairing : List Str := [(Str.ofString "tiles"), (Str.ofString "value")]
theorem tr_fits_pairing : trSs 200 (mkC N_fits_pairing (defScope (S 59)) [false, false] l_fits_pairing bltn consD []) (defBody (S 59)) = some (fun Φ => b_fits_pairing (Φ (Str.ofString "all_rails")) (Φ (Str.ofString "rises")) (Φ (Str.ofString "is_pure"))) := by kernel_rfl
theorem sc_fits_pairing : FnScope N_fits_pairing P_fits_pairing (defScope (S 59)) := ⟨by rfl, by rfl, by rfl, by decide +kernel, by rfl, by decide +kernel, by decide +kernel⟩
/-! ### need_pairing -/
def b_need_pairing (phi_fits_pairing : CallD) : DS :=
    (fSeq (fIfS (tNotD (tTruth (oOf (fCall phi_fits_pairing [false, false] (.val (vOf (fVar 0)) :: (.val (vOf (fVar 1)) :: [])))))) (fSeq fStuck
    fNext) fNext)
    fNext)
def phi_need_pairing : CallD := gate [false, false] (defD 2 (b_need_pairing (phi_fits_pairing)))
def l_need_pairing : Tab := [((Str.ofString "fits_pairing"), ⟨2, [false, false]⟩, phi_fits_pairing)]
def N_need_pairing : List Str := [(Str.ofString "tiles"), (Str.ofString "value")]
def P_need_pairing : List Str := [(Str.ofString "tiles"), (Str.ofString "value")]
theorem tr_need_pairing : trSs 200 (mkC N_need_pairing (defScope (S 60)) [false, false] l_need_pairing bltn consD []) (defBody (S 60)) = some (fun Φ => b_need_pairing (Φ (Str.ofString "fits_pairing"))) := by kernel_rfl
theorem sc_need_pairing : FnScope N_need_pairing P_need_pairing (defScope (S 60)) := ⟨by rfl, by rfl, by rfl, by decide +kernel, by rfl, by decide +kernel, by decide +kernel⟩
/-! ### tiles_for -/
def b_tiles_for (phi_need_across phi_tiles_of phi_need_pairing : CallD) : DS :=
    (fSeq (fDrop (fCall phi_need_across [false, false] (.val (vOf (fVar 0)) :: (.val (vOf (fVar 1)) :: []))))
    (fSeq (fAsg 3 (fCall phi_tiles_of [false, false] (.val (vOf (fVar 0)) :: (.val (vOf (fVar 1)) :: []))))
    (fSeq (fFor (iSeq (vOf (fVar 2))) (.name 4) (fSeq (fDrop (fCall phi_need_pairing [false, false] (.val (vOf (fVar 3)) :: (.val (vOf (fVar 4)) :: []))))
    fNext))
    (fSeq (fRetN 3)
    fNext))))
def phi_tiles_for : CallD := gate [false, false, false] (defD 5 (b_tiles_for (phi_need_across) (phi_tiles_of) (phi_need_pairing)))
def l_tiles_for : Tab := [((Str.ofString "need_across"), ⟨2, [false, false]⟩, phi_need_across), ((Str.ofString "tiles_of"), ⟨2, [false, false]⟩, phi_tiles_of), ((Str.ofString "need_pairing"), ⟨2, [false, false]⟩, phi_need_pairing)]
def N_tiles_for : List Str := [(Str.ofString "cutting"), (Str.ofString "line"), (Str.ofString "some"), (Str.ofString "tiles"), (Str.ofString "value")]
def P_tiles_for : List Str := [(Str.ofString "cutting"), (Str.ofString "line"), (Str.ofString "some")]
theorem tr_tiles_for : trSs 200 (mkC N_tiles_for (defScope (S 61)) [false, false, false] l_tiles_for bltn consD []) (defBody (S 61)) = some (fun Φ => b_tiles_for (Φ (Str.ofString "need_across")) (Φ (Str.ofString "tiles_of")) (Φ (Str.ofString "need_pairing"))) := by kernel_rfl
theorem sc_tiles_for : FnScope N_tiles_for P_tiles_for (defScope (S 61)) := ⟨by rfl, by rfl, by rfl, by decide +kernel, by rfl, by decide +kernel, by decide +kernel⟩
/-! ### is_later_first -/
def b_is_later_first : DS :=
    (fSeq (fRet (fPrim qEq (aCons (oOf (fPrim qEq (aCons (oSlot 1) (aCons (oOf (fLit (.str (Str.ofString "right")))) aNil)))) (aCons (oOf (fPrim qEq (aCons (oOf (fPrim pModI (aCons (oSlot 0) (aCons (oOf (fLit (.int (2)))) aNil)))) (aCons (oOf (fLit (.int (0)))) aNil)))) aNil))))
    fNext)
def phi_is_later_first : CallD := gate [false, false] (defD 2 (b_is_later_first))
def l_is_later_first : Tab := []
def N_is_later_first : List Str := [(Str.ofString "place"), (Str.ofString "word")]
def P_is_later_first : List Str := [(Str.ofString "place"), (Str.ofString "word")]
theorem tr_is_later_first : trSs 200 (mkC N_is_later_first (defScope (S 40)) [false, false] l_is_later_first bltn consD []) (defBody (S 40)) = some (fun Φ => b_is_later_first) := by kernel_rfl
theorem sc_is_later_first : FnScope N_is_later_first P_is_later_first (defScope (S 40)) := ⟨by rfl, by rfl, by rfl, by decide +kernel, by rfl, by decide +kernel, by decide +kernel⟩
/-! ### rows_added -/
def b_rows_added : DS :=
    (fSeq (fAsg 2 (fPrim qMax (aCons (oOf (fPrim qLen (aCons (oSlot 0) aNil))) (aCons (oOf (fPrim qLen (aCons (oSlot 1) aNil))) aNil))))
    (fSeq (fAsg 3 (fLc (iSeq (vOf (fTup (vCons (vOf (fVar 0)) (vCons (vOf (fVar 1)) vNil))))) (.name 4) tYesD (vOf (fPrim qAdd (aCons (oOf (fPrim pList (aCons (oSlot 4) aNil))) (aCons (oOf (fPrim qMul (aCons (oOf (fLst (vCons (vOf (fLit (.int (0)))) vNil))) (aCons (oOf (fPrim pSubI (aCons (oSlot 2) (aCons (oOf (fPrim qLen (aCons (oSlot 4) aNil))) aNil)))) aNil)))) aNil)))) [4]))
    (fSeq (fRet (fLc (iZip (vCons (vOf (fPrim pIx (aCons (oSlot 3) (aCons (oOf (fLit (.int (0)))) aNil)))) (vCons (vOf (fPrim pIx (aCons (oSlot 3) (aCons (oOf (fLit (.int (1)))) aNil)))) vNil))) (.tup [5, 6]) tYesD (vOf (fPrim qAdd (aCons (oSlot 5) (aCons (oSlot 6) aNil)))) [5, 6]))
    fNext)))
def phi_rows_added : CallD := gate [false, false] (defD 7 (b_rows_added))
def l_rows_added : Tab := []
def N_rows_added : List Str := [(Str.ofString "one"), (Str.ofString "other"), (Str.ofString "size"), (Str.ofString "wide"), (Str.ofString "row"), (Str.ofString "mine"), (Str.ofString "yours")]
def P_rows_added : List Str := [(Str.ofString "one"), (Str.ofString "other")]
theorem tr_rows_added : trSs 200 (mkC N_rows_added (defScope (S 41)) [false, false] l_rows_added bltn consD []) (defBody (S 41)) = some (fun Φ => b_rows_added) := by kernel_rfl
theorem sc_rows_added : FnScope N_rows_added P_rows_added (defScope (S 41)) := ⟨by rfl, by rfl, by rfl, by decide +kernel, by rfl, by decide +kernel, by decide +kernel⟩
/-! ### level_rows -/
def b_level_rows (phi_is_later_first phi_rows_added : CallD) : DS :=
    (fSeq (fPar 2 3 (fLst (vCons (vOf (fLit (.int (1)))) vNil)) (fLst (vCons (vOf (fLit (.int (0)))) (vCons (vOf (fLit (.int (1)))) vNil))))
    (fSeq (fFor (iRange3 (vCons (vOf (fPrim pSubI (aCons (oOf (fPrim qLen (aCons (oSlot 0) aNil))) (aCons (oOf (fLit (.int (1)))) aNil)))) (vCons (vOf (fPrim pNeg (aCons (oOf (fLit (.int (1)))) aNil))) (vCons (vOf (fPrim pNeg (aCons (oOf (fLit (.int (1)))) aNil))) vNil)))) (.name 1) (fSeq (fIfS (tTruth (oOf (fCall phi_is_later_first [false, false] (.val (vOf (fVar 1)) :: (.val (vOf (fPrim pIx (aCons (oSlot 0) (aCons (oSlot 1) aNil)))) :: []))))) (fSeq (fPar 2 3 (fCall phi_rows_added [false, false] (.val (vOf (fVar 2)) :: (.val (vOf (fVar 3)) :: []))) (fPrim qAdd (aCons (oOf (fLst (vCons (vOf (fLit (.int (0)))) vNil))) (aCons (oSlot 3) aNil))))
    fNext) (fSeq (fPar 2 3 (fVar 2) (fPrim qAdd (aCons (oOf (fLst (vCons (vOf (fLit (.int (0)))) vNil))) (aCons (oOf (fCall phi_rows_added [false, false] (.val (vOf (fVar 2)) :: (.val (vOf (fVar 3)) :: [])))) aNil))))
    fNext))
    fNext))
    (fSeq (fRet (fTup (vCons (vOf (fVar 2)) (vCons (vOf (fVar 3)) vNil))))
    fNext)))
def phi_level_rows : CallD := gate [false] (defD 4 (b_level_rows (phi_is_later_first) (phi_rows_added)))
def l_level_rows : Tab := [((Str.ofString "is_later_first"), ⟨2, [false, false]⟩, phi_is_later_first), ((Str.ofString "rows_added"), ⟨2, [false, false]⟩, phi_rows_added)]
def N_level_rows : List Str := [(Str.ofString "shape"), (Str.ofString "place"), (Str.ofString "without"), (Str.ofString "within")]
def P_level_rows : List Str := [(Str.ofString "shape")]
theorem tr_level_rows : trSs 200 (mkC N_level_rows (defScope (S 42)) [false] l_level_rows bltn consD []) (defBody (S 42)) = some (fun Φ => b_level_rows (Φ (Str.ofString "is_later_first")) (Φ (Str.ofString "rows_added"))) := by kernel_rfl
theorem sc_level_rows : FnScope N_level_rows P_level_rows (defScope (S 42)) := ⟨by rfl, by rfl, by rfl, by decide +kernel, by rfl, by decide +kernel, by decide +kernel⟩
/-! ### tally_by -/
def b_tally_by (phi_level_rows : CallD) : DS :=
    (fSeq (fUnp (.tup [1, 2]) (vOf (fCall phi_level_rows [false] (.val (vOf (fVar 0)) :: []))))
    (fSeq (fRet (fTup (vCons (vOf (fPrim qAdd (aCons (oOf (fPrim qSum (aCons (oSlot 1) aNil))) (aCons (oOf (fPrim qSum (aCons (oSlot 2) aNil))) aNil)))) (vCons (vOf (fPrim qSum (aCons (oSlot 1) aNil))) vNil))))
    fNext))
def phi_tally_by : CallD := gate [false] (defD 3 (b_tally_by (phi_level_rows)))
def l_tally_by : Tab := [((Str.ofString "level_rows"), ⟨1, [false]⟩, phi_level_rows)]
def N_tally_by : List Str := [(Str.ofString "shape"), (Str.ofString "without"), (Str.ofString "within")]
def P_tally_by : List Str := [(Str.ofString "shape")]
theorem tr_tally_by : trSs 200 (mkC N_tally_by (defScope (S 43)) [false] l_tally_by bltn consD []) (defBody (S 43)) = some (fun Φ => b_tally_by (Φ (Str.ofString "level_rows"))) := by kernel_rfl
theorem sc_tally_by : FnScope N_tally_by P_tally_by (defScope (S 43)) := ⟨by rfl, by rfl, by rfl, by decide +kernel, by rfl, by decide +kernel, by decide +kernel⟩
/-! ### words_of -/
def b_words_of : DS :=
    (fSeq (fAsg 1 (fLc (iSeq (vOf (fVar 0))) (.tup [2, 3]) tYesD (vOf (fVar 2)) [2, 3]))
    (fSeq (fRet (fPrim pTuple (aCons (oOf (fLc (iZip (vCons (vOf (fVar 1)) (vCons (vOf (fSl (oSlot 1) (pSome (vOf (fLit (.int (1))))) pNone)) vNil))) (.tup [4, 5]) tYesD (vOf (fIf (tBool (fPrim qEq (aCons (oOf (fPrim pIx (aCons (oSlot 4) (aCons (oOf (fLit (.int (1)))) aNil)))) (aCons (oOf (fPrim pIx (aCons (oSlot 5) (aCons (oOf (fLit (.int (1)))) aNil)))) aNil)))) (fLit (.str (Str.ofString "right"))) (fLit (.str (Str.ofString "up"))))) [4, 5])) aNil)))
    fNext))
def phi_words_of : CallD := gate [false] (defD 6 (b_words_of))
def l_words_of : Tab := []
def N_words_of : List Str := [(Str.ofString "tiles"), (Str.ofString "spots"), (Str.ofString "spot"), (Str.ofString "corners"), (Str.ofString "one"), (Str.ofString "other")]
def P_words_of : List Str := [(Str.ofString "tiles")]
theorem tr_words_of : trSs 200 (mkC N_words_of (defScope (S 51)) [false] l_words_of bltn consD []) (defBody (S 51)) = some (fun Φ => b_words_of) := by kernel_rfl
theorem sc_words_of : FnScope N_words_of P_words_of (defScope (S 51)) := ⟨by rfl, by rfl, by rfl, by decide +kernel, by rfl, by decide +kernel, by decide +kernel⟩
/-! ### count_pairings -/
def b_count_pairings (phi_tiles_for phi_tally_by phi_words_of : CallD) : DS :=
    (fSeq (fAsg 2 (fCall phi_tiles_for [false, false, false] (.val (vOf (fVar 0)) :: (.val (vOf (fVar 1)) :: (.val (vOf (fTup vNil)) :: [])))))
    (fSeq (fRet (fIf (tBool (fPrim qNe (aCons (oSlot 2) (aCons (oOf (fTup vNil)) aNil)))) (fPrim pIx (aCons (oOf (fCall phi_tally_by [false] (.val (vOf (fCall phi_words_of [false] (.val (vOf (fVar 2)) :: []))) :: []))) (aCons (oOf (fLit (.int (0)))) aNil))) (fLit (.int (1)))))
    fNext))
def phi_count_pairings : CallD := gate [false, false] (defD 3 (b_count_pairings (phi_tiles_for) (phi_tally_by) (phi_words_of)))
def l_count_pairings : Tab := [((Str.ofString "tiles_for"), ⟨3, [false, false, false]⟩, phi_tiles_for), ((Str.ofString "tally_by"), ⟨1, [false]⟩, phi_tally_by), ((Str.ofString "words_of"), ⟨1, [false]⟩, phi_words_of)]
def N_count_pairings : List Str := [(Str.ofString "cutting"), (Str.ofString "line"), (Str.ofString "tiles")]
def P_count_pairings : List Str := [(Str.ofString "cutting"), (Str.ofString "line")]
theorem tr_count_pairings : trSs 200 (mkC N_count_pairings (defScope (S 62)) [false, false] l_count_pairings bltn consD []) (defBody (S 62)) = some (fun Φ => b_count_pairings (Φ (Str.ofString "tiles_for")) (Φ (Str.ofString "tally_by")) (Φ (Str.ofString "words_of"))) := by kernel_rfl
theorem sc_count_pairings : FnScope N_count_pairings P_count_pairings (defScope (S 62)) := ⟨by rfl, by rfl, by rfl, by decide +kernel, by rfl, by decide +kernel, by decide +kernel⟩
/-! ### _law_number_across -/
def b__law_number_across : DS :=
    (fSeq (fPar 4 5 (fPrim pSubI (aCons (oOf (fPrim qLen (aCons (oSlot 0) aNil))) (aCons (oOf (fLit (.int (1)))) aNil))) (fPrim pSubI (aCons (oOf (fPrim qLen (aCons (oSlot 1) aNil))) (aCons (oOf (fLit (.int (1)))) aNil))))
    (fSeq (fRet (fPrim qAdd (aCons (oOf (fPrim qMul (aCons (oOf (fPrim pIx (aCons (oOf (fPrim pIx (aCons (oSlot 0) (aCons (oOf (fLit (.int (0)))) aNil)))) (aCons (oSlot 2) aNil)))) (aCons (oOf (fPrim pIx (aCons (oOf (fPrim pIx (aCons (oSlot 1) (aCons (oOf (fLit (.int (0)))) aNil)))) (aCons (oSlot 3) aNil)))) aNil)))) (aCons (oOf (fPrim qMul (aCons (oOf (fPrim qAdd (aCons (oOf (fPrim pIx (aCons (oOf (fPrim pIx (aCons (oSlot 1) (aCons (oSlot 3) aNil)))) (aCons (oSlot 5) aNil)))) (aCons (oOf (fPrim pIx (aCons (oOf (fPrim pIx (aCons (oSlot 1) (aCons (oOf (fLit (.int (0)))) aNil)))) (aCons (oSlot 3) aNil)))) aNil)))) (aCons (oOf (fPrim pIx (aCons (oOf (fPrim pIx (aCons (oSlot 0) (aCons (oSlot 2) aNil)))) (aCons (oSlot 4) aNil)))) aNil)))) aNil))))
    fNext))
def phi__law_number_across : CallD := gate [false, false, false, false] (defD 6 (b__law_number_across))
def l__law_number_across : Tab := []
def N__law_number_across : List Str := [(Str.ofString "_law_mine"), (Str.ofString "_law_yours"), (Str.ofString "_law_i"), (Str.ofString "_law_j"), (Str.ofString "_law_middle"), (Str.ofString "_law_last")]
def P__law_number_across : List Str := [(Str.ofString "_law_mine"), (Str.ofString "_law_yours"), (Str.ofString "_law_i"), (Str.ofString "_law_j")]
theorem tr__law_number_across : trSs 200 (mkC N__law_number_across (defScope (S 80)) [false, false, false, false] l__law_number_across bltn consD []) (defBody (S 80)) = some (fun Φ => b__law_number_across) := by kernel_rfl
theorem sc__law_number_across : FnScope N__law_number_across P__law_number_across (defScope (S 80)) := ⟨by rfl, by rfl, by rfl, by decide +kernel, by rfl, by decide +kernel, by decide +kernel⟩
/-! ### is_cutting -/
def b_is_cutting (phi_fits_cutting : CallD) : DS :=
    (fSeq (fRet (fCall phi_fits_cutting [false] (.val (vOf (fVar 0)) :: [])))
    fNext)
def phi_is_cutting : CallD := gate [false] (defD 1 (b_is_cutting (phi_fits_cutting)))
def l_is_cutting : Tab := [((Str.ofString "fits_cutting"), ⟨1, [false]⟩, phi_fits_cutting)]
def N_is_cutting : List Str := [(Str.ofString "value")]
def P_is_cutting : List Str := [(Str.ofString "value")]
theorem tr_is_cutting : trSs 200 (mkC N_is_cutting (defScope (S 22)) [false] l_is_cutting bltn consD []) (defBody (S 22)) = some (fun Φ => b_is_cutting (Φ (Str.ofString "fits_cutting"))) := by kernel_rfl
theorem sc_is_cutting : FnScope N_is_cutting P_is_cutting (defScope (S 22)) := ⟨by rfl, by rfl, by rfl, by decide +kernel, by rfl, by decide +kernel, by decide +kernel⟩
/-! ### need_few -/
def b_need_few : DS :=
    (fSeq (fIfS (tBool (fPrim qGt (aCons (oSlot 0) (aCons (oSlot 1) aNil)))) (fSeq fStuck
    fNext) fNext)
    fNext)
def phi_need_few : CallD := gate [false, false] (defD 2 (b_need_few))
def l_need_few : Tab := []
def N_need_few : List Str := [(Str.ofString "many"), (Str.ofString "limit")]
def P_need_few : List Str := [(Str.ofString "many"), (Str.ofString "limit")]
theorem tr_need_few : trSs 200 (mkC N_need_few (defScope (S 21)) [false, false] l_need_few bltn consD []) (defBody (S 21)) = some (fun Φ => b_need_few) := by kernel_rfl
theorem sc_need_few : FnScope N_need_few P_need_few (defScope (S 21)) := ⟨by rfl, by rfl, by rfl, by decide +kernel, by rfl, by decide +kernel, by decide +kernel⟩
/-! ### need_small_cutting -/
def b_need_small_cutting (phi_need_cutting phi_need_few : CallD) : DS :=
    (fSeq (fDrop (fCall phi_need_cutting [false] (.val (vOf (fVar 0)) :: [])))
    (fSeq (fDrop (fCall phi_need_few [false, false] (.val (vOf (fPrim pIx (aCons (oSlot 0) (aCons (oOf (fLit (.int (0)))) aNil)))) :: (.val (vOf (fPrim qAdd (aCons (oOf (fLit (.int (24)))) (aCons (oOf (fLit (.int (2)))) aNil)))) :: []))))
    fNext))
def phi_need_small_cutting : CallD := gate [false] (defD 1 (b_need_small_cutting (phi_need_cutting) (phi_need_few)))
def l_need_small_cutting : Tab := [((Str.ofString "need_cutting"), ⟨1, [false]⟩, phi_need_cutting), ((Str.ofString "need_few"), ⟨2, [false, false]⟩, phi_need_few)]
def N_need_small_cutting : List Str := [(Str.ofString "cutting")]
def P_need_small_cutting : List Str := [(Str.ofString "cutting")]
theorem tr_need_small_cutting : trSs 200 (mkC N_need_small_cutting (defScope (S 32)) [false] l_need_small_cutting bltn consD []) (defBody (S 32)) = some (fun Φ => b_need_small_cutting (Φ (Str.ofString "need_cutting")) (Φ (Str.ofString "need_few"))) := by kernel_rfl
theorem sc_need_small_cutting : FnScope N_need_small_cutting P_need_small_cutting (defScope (S 32)) := ⟨by rfl, by rfl, by rfl, by decide +kernel, by rfl, by decide +kernel, by decide +kernel⟩
/-! ### tree_between -/
def b_tree_between (phi_tree_between phi_thirds_of : CallD) : DS :=
    (fSeq (fIfS (tBool (fPrim qLt (aCons (oOf (fPrim pSubI (aCons (oSlot 2) (aCons (oSlot 1) aNil)))) (aCons (oOf (fLit (.int (2)))) aNil)))) (fSeq (fRet (fTup vNil))
    fNext) fNext)
    (fSeq (fAsg 3 (fPrim pIx (aCons (oOf (fLc (iSeq (vOf (fCall phi_thirds_of [false, false] (.val (vOf (fVar 0)) :: (.val (vOf (fTup (vCons (vOf (fVar 1)) (vCons (vOf (fVar 2)) vNil)))) :: []))))) (.name 4) (tBool (fChain (oSlot 1) (cMore qLt (oSlot 4) (cOne qLt (oSlot 2))))) (vOf (fVar 4)) [4])) (aCons (oOf (fLit (.int (0)))) aNil))))
    (fSeq (fRet (fTup (vCons (vOf (fCall phi_tree_between [false, false, false] (.val (vOf (fVar 0)) :: (.val (vOf (fVar 1)) :: (.val (vOf (fVar 3)) :: []))))) (vCons (vOf (fCall phi_tree_between [false, false, false] (.val (vOf (fVar 0)) :: (.val (vOf (fVar 3)) :: (.val (vOf (fVar 2)) :: []))))) vNil))))
    fNext)))
def phi_tree_between : Nat → CallD
  | 0 => fun _ => none
  | k + 1 => gate [false, false, false] (defD 5 (b_tree_between (phi_tree_between k) (phi_thirds_of)))
def l_tree_between (k : Nat) : Tab := [((Str.ofString "tree_between"), ⟨3, [false, false, false]⟩, phi_tree_between k), ((Str.ofString "thirds_of"), ⟨2, [false, false]⟩, phi_thirds_of)]
def N_tree_between : List Str := [(Str.ofString "cutting"), (Str.ofString "first"), (Str.ofString "last"), (Str.ofString "third"), (Str.ofString "corner")]
def P_tree_between : List Str := [(Str.ofString "cutting"), (Str.ofString "first"), (Str.ofString "last")]
theorem tr_tree_between (k : Nat) : trSs 200 (mkC N_tree_between (defScope (S 29)) [false, false, false] (l_tree_between k) bltn consD []) (defBody (S 29)) = some (fun Φ => b_tree_between (Φ (Str.ofString "tree_between")) (Φ (Str.ofString "thirds_of"))) := by kernel_rfl
theorem sc_tree_between : FnScope N_tree_between P_tree_between (defScope (S 29)) := ⟨by rfl, by rfl, by rfl, by decide +kernel, by rfl, by decide +kernel, by decide +kernel⟩
/-! ### tree_of -/
def b_tree_of (phi_need_small_cutting phi_tree_between : CallD) : DS :=
    (fSeq (fDrop (fCall phi_need_small_cutting [false] (.val (vOf (fVar 0)) :: [])))
    (fSeq (fRet (fCall phi_tree_between [false, false, false] (.val (vOf (fVar 0)) :: (.val (vOf (fLit (.int (0)))) :: (.val (vOf (fPrim pSubI (aCons (oOf (fPrim pIx (aCons (oSlot 0) (aCons (oOf (fLit (.int (0)))) aNil)))) (aCons (oOf (fLit (.int (1)))) aNil)))) :: [])))))
    fNext))
def phi_tree_of : CallD := gate [false] (defD 1 (b_tree_of (phi_need_small_cutting) (phi_tree_between 10)))
def l_tree_of : Tab := [((Str.ofString "need_small_cutting"), ⟨1, [false]⟩, phi_need_small_cutting), ((Str.ofString "tree_between"), ⟨3, [false, false, false]⟩, phi_tree_between 10)]
def N_tree_of : List Str := [(Str.ofString "cutting")]
def P_tree_of : List Str := [(Str.ofString "cutting")]
theorem tr_tree_of : trSs 200 (mkC N_tree_of (defScope (S 33)) [false] l_tree_of bltn consD []) (defBody (S 33)) = some (fun Φ => b_tree_of (Φ (Str.ofString "need_small_cutting")) (Φ (Str.ofString "tree_between"))) := by kernel_rfl
theorem sc_tree_of : FnScope N_tree_of P_tree_of (defScope (S 33)) := ⟨by rfl, by rfl, by rfl, by decide +kernel, by rfl, by decide +kernel, by decide +kernel⟩
/-! ### counts_at -/
def b_counts_at (phi_need_cutting phi_piece_counts : CallD) : DS :=
    (fSeq (fDrop (fCall phi_need_cutting [false] (.val (vOf (fVar 0)) :: [])))
    (fSeq (fRet (fCall phi_piece_counts [false] (.val (vOf (fVar 0)) :: [])))
    fNext))
def phi_counts_at : CallD := gate [false] (defD 1 (b_counts_at (phi_need_cutting) (phi_piece_counts)))
def l_counts_at : Tab := [((Str.ofString "need_cutting"), ⟨1, [false]⟩, phi_need_cutting), ((Str.ofString "piece_counts"), ⟨1, [false]⟩, phi_piece_counts)]
def N_counts_at : List Str := [(Str.ofString "cutting")]
def P_counts_at : List Str := [(Str.ofString "cutting")]
theorem tr_counts_at : trSs 200 (mkC N_counts_at (defScope (S 23)) [false] l_counts_at bltn consD []) (defBody (S 23)) = some (fun Φ => b_counts_at (Φ (Str.ofString "need_cutting")) (Φ (Str.ofString "piece_counts"))) := by kernel_rfl
theorem sc_counts_at : FnScope N_counts_at P_counts_at (defScope (S 23)) := ⟨by rfl, by rfl, by rfl, by decide +kernel, by rfl, by decide +kernel, by decide +kernel⟩
/-! ### gathered -/
def b_gathered : DS :=
    (fSeq (fAsg 1 fDict0)
    (fSeq (fFor (iEnum (vCons (vOf (fVar 0)) vNil)) (.tup [2, 3]) (fSeq (fDPut 1 (vOf (fVar 3)) (vOf (fPrim qAdd (aCons (oOf (fDGetOr 1 (vOf (fVar 3)) (vOf (fTup vNil)))) (aCons (oOf (fTup (vCons (vOf (fVar 2)) vNil))) aNil)))))
    fNext))
    (fSeq (fRet (fPrim pTuple (aCons (oOf (fSortedV 1)) aNil)))
    fNext)))
def phi_gathered : CallD := gate [false] (defD 4 (b_gathered))
def l_gathered : Tab := []
def N_gathered : List Str := [(Str.ofString "keys"), (Str.ofString "found"), (Str.ofString "point"), (Str.ofString "key")]
def P_gathered : List Str := [(Str.ofString "keys")]
theorem tr_gathered : trSs 200 (mkC N_gathered (defScope (S 67)) [false] l_gathered bltn consD [(Str.ofString "found")]) (defBody (S 67)) = some (fun Φ => b_gathered) := by kernel_rfl
theorem sc_gathered : FnScope N_gathered P_gathered (defScope (S 67)) := ⟨by rfl, by rfl, by rfl, by decide +kernel, by rfl, by decide +kernel, by decide +kernel⟩
/-! ### all_pieces -/
def b_all_pieces (phi_all_ties phi_near_of : CallD) : DS :=
    (fSeq (fUnp (.tup [1, 2]) (vOf (fTup (vCons (vOf (fCall phi_near_of [false] (.val (vOf (fVar 0)) :: []))) (vCons (vOf (fLst vNil)) vNil)))))
    (fSeq (fFor (iSeq (vOf (fCall phi_all_ties [false] (.val (vOf (fVar 0)) :: [])))) (.tup [3, 4]) (fSeq (fAsg 2 (fPrim qAdd (aCons (oSlot 2) (aCons (oOf (fLc (iSeq (vOf (fPrim pIx (aCons (oSlot 1) (aCons (oSlot 3) aNil))))) (.name 5) (tAndD (tBool (fPrim qGt (aCons (oSlot 5) (aCons (oSlot 4) aNil)))) (tBool (fPrim qIn (aCons (oSlot 5) (aCons (oOf (fPrim pIx (aCons (oSlot 1) (aCons (oSlot 4) aNil)))) aNil))))) (vOf (fTup (vCons (vOf (fVar 3)) (vCons (vOf (fVar 4)) (vCons (vOf (fVar 5)) vNil))))) [5])) aNil))))
    fNext))
    (fSeq (fRet (fPrim pSorted (aCons (oSlot 2) aNil)))
    fNext)))
def phi_all_pieces : CallD := gate [false] (defD 6 (b_all_pieces (phi_all_ties) (phi_near_of)))
def l_all_pieces : Tab := [((Str.ofString "all_ties"), ⟨1, [false]⟩, phi_all_ties), ((Str.ofString "near_of"), ⟨1, [false]⟩, phi_near_of)]
def N_all_pieces : List Str := [(Str.ofString "cutting"), (Str.ofString "near"), (Str.ofString "found"), (Str.ofString "one"), (Str.ofString "other"), (Str.ofString "third")]
def P_all_pieces : List Str := [(Str.ofString "cutting")]
theorem tr_all_pieces : trSs 200 (mkC N_all_pieces (defScope (S 17)) [false] l_all_pieces bltn consD []) (defBody (S 17)) = some (fun Φ => b_all_pieces (Φ (Str.ofString "all_ties")) (Φ (Str.ofString "near_of"))) := by kernel_rfl
theorem sc_all_pieces : FnScope N_all_pieces P_all_pieces (defScope (S 17)) := ⟨by rfl, by rfl, by rfl, by decide +kernel, by rfl, by decide +kernel, by decide +kernel⟩
/-! ### greatest_blocks -/
def b_greatest_blocks (phi_gathered phi_all_pieces : CallD) : DS :=
    (fSeq (fAsg 1 (fDc (iSeq (vOf (fCall phi_all_pieces [false] (.val (vOf (fVar 0)) :: [])))) (.tup [2, 3, 4]) tYesD (vOf (fVar 3)) (vOf (fVar 4)) [2, 3, 4]))
    (fSeq (fRet (fCall phi_gathered [false] (.val (vOf (fLc (iRange (vCons (vOf (fLit (.int (1)))) (vCons (vOf (fPrim pSubI (aCons (oOf (fPrim pIx (aCons (oSlot 0) (aCons (oOf (fLit (.int (0)))) aNil)))) (aCons (oOf (fLit (.int (1)))) aNil)))) vNil))) (.name 5) tYesD (vOf (fDGet 1 (vOf (fVar 5)))) [5])) :: [])))
    fNext))
def phi_greatest_blocks : CallD := gate [false] (defD 6 (b_greatest_blocks (phi_gathered) (phi_all_pieces)))
def l_greatest_blocks : Tab := [((Str.ofString "gathered"), ⟨1, [false]⟩, phi_gathered), ((Str.ofString "all_pieces"), ⟨1, [false]⟩, phi_all_pieces)]
def N_greatest_blocks : List Str := [(Str.ofString "cutting"), (Str.ofString "known"), (Str.ofString "first"), (Str.ofString "middle"), (Str.ofString "last"), (Str.ofString "corner")]
def P_greatest_blocks : List Str := [(Str.ofString "cutting")]
theorem tr_greatest_blocks : trSs 200 (mkC N_greatest_blocks (defScope (S 69)) [false] l_greatest_blocks bltn consD [(Str.ofString "known")]) (defBody (S 69)) = some (fun Φ => b_greatest_blocks (Φ (Str.ofString "gathered")) (Φ (Str.ofString "all_pieces"))) := by kernel_rfl
theorem sc_greatest_blocks : FnScope N_greatest_blocks P_greatest_blocks (defScope (S 69)) := ⟨by rfl, by rfl, by rfl, by decide +kernel, by rfl, by decide +kernel, by decide +kernel⟩
/-! ### parting_of -/
def b_parting_of (phi_need_cutting phi_greatest_blocks : CallD) : DS :=
    (fSeq (fDrop (fCall phi_need_cutting [false] (.val (vOf (fVar 0)) :: [])))
    (fSeq (fRet (fCall phi_greatest_blocks [false] (.val (vOf (fVar 0)) :: [])))
    fNext))
def phi_parting_of : CallD := gate [false] (defD 1 (b_parting_of (phi_need_cutting) (phi_greatest_blocks)))
def l_parting_of : Tab := [((Str.ofString "need_cutting"), ⟨1, [false]⟩, phi_need_cutting), ((Str.ofString "greatest_blocks"), ⟨1, [false]⟩, phi_greatest_blocks)]
def N_parting_of : List Str := [(Str.ofString "cutting")]
def P_parting_of : List Str := [(Str.ofString "cutting")]
theorem tr_parting_of : trSs 200 (mkC N_parting_of (defScope (S 70)) [false] l_parting_of bltn consD []) (defBody (S 70)) = some (fun Φ => b_parting_of (Φ (Str.ofString "need_cutting")) (Φ (Str.ofString "greatest_blocks"))) := by kernel_rfl
theorem sc_parting_of : FnScope N_parting_of P_parting_of (defScope (S 70)) := ⟨by rfl, by rfl, by rfl, by decide +kernel, by rfl, by decide +kernel, by decide +kernel⟩
/-! ### _law_ties -/
def b__law_ties : DS :=
    (fSeq (fUnp (.tup [2, 3]) (vOf (fVar 0)))
    (fSeq (fAsg 1 (fPrim qAdd (aCons (oOf (fLc (iRange (vCons (vOf (fPrim pSubI (aCons (oSlot 2) (aCons (oOf (fLit (.int (1)))) aNil)))) vNil)) (.name 4) tYesD (vOf (fTup (vCons (vOf (fVar 4)) (vCons (vOf (fPrim qAdd (aCons (oSlot 4) (aCons (oOf (fLit (.int (1)))) aNil)))) vNil)))) [4])) (aCons (oOf (fLst (vCons (vOf (fTup (vCons (vOf (fLit (.int (0)))) (vCons (vOf (fPrim pSubI (aCons (oSlot 2) (aCons (oOf (fLit (.int (1)))) aNil)))) vNil)))) vNil))) aNil))))
    (fSeq (fRet (fSortSet (vOf (fPrim qAdd (aCons (oOf (fPrim pList (aCons (oSlot 3) aNil))) (aCons (oSlot 1) aNil))))))
    fNext)))
def phi__law_ties : CallD := gate [false] (defD 5 (b__law_ties))
def l__law_ties : Tab := []
def N__law_ties : List Str := [(Str.ofString "_law_cutting_here"), (Str.ofString "_law_rim"), (Str.ofString "_law_sides"), (Str.ofString "_law_cuts_here"), (Str.ofString "_law_at")]
def P__law_ties : List Str := [(Str.ofString "_law_cutting_here")]
theorem tr__law_ties : trSs 200 (mkC N__law_ties (defScope (S 76)) [false] l__law_ties bltn consD []) (defBody (S 76)) = some (fun Φ => b__law_ties) := by kernel_rfl
theorem sc__law_ties : FnScope N__law_ties P__law_ties (defScope (S 76)) := ⟨by rfl, by rfl, by rfl, by decide +kernel, by rfl, by decide +kernel, by decide +kernel⟩
/-! ### _law_is_last -/
def b__law_is_last (phi__law_ties : CallD) : DS :=
    (fSeq (fPar 2 3 (fPrim qAdd (aCons (oOf (fPrim pIx (aCons (oSlot 1) (aCons (oOf (fPrim pNeg (aCons (oOf (fLit (.int (1)))) aNil))) aNil)))) (aCons (oOf (fLit (.int (1)))) aNil))) (fPrim pSubI (aCons (oOf (fPrim pIx (aCons (oSlot 0) (aCons (oOf (fLit (.int (0)))) aNil)))) (aCons (oOf (fLit (.int (1)))) aNil))))
    (fSeq (fRet (fPrim qIn (aCons (oOf (fTup (vCons (vOf (fVar 2)) (vCons (vOf (fVar 3)) vNil)))) (aCons (oOf (fCall phi__law_ties [false] (.val (vOf (fVar 0)) :: []))) aNil))))
    fNext))
def phi__law_is_last : CallD := gate [false, false] (defD 4 (b__law_is_last (phi__law_ties)))
def l__law_is_last : Tab := [((Str.ofString "_law_ties"), ⟨1, [false]⟩, phi__law_ties)]
def N__law_is_last : List Str := [(Str.ofString "_law_cutting_here"), (Str.ofString "_law_block"), (Str.ofString "_law_corner"), (Str.ofString "_law_last")]
def P__law_is_last : List Str := [(Str.ofString "_law_cutting_here"), (Str.ofString "_law_block")]
theorem tr__law_is_last : trSs 200 (mkC N__law_is_last (defScope (S 79)) [false, false] l__law_is_last bltn consD []) (defBody (S 79)) = some (fun Φ => b__law_is_last (Φ (Str.ofString "_law_ties"))) := by kernel_rfl
theorem sc__law_is_last : FnScope N__law_is_last P__law_is_last (defScope (S 79)) := ⟨by rfl, by rfl, by rfl, by decide +kernel, by rfl, by decide +kernel, by decide +kernel⟩
/-! ### _law_blocks -/
def b__law_blocks (phi__law_is_last : CallD) : DS :=
    (fSeq (fUnp3 5 6 7 (vOf (fPrim pSubI (aCons (oOf (fPrim pIx (aCons (oSlot 0) (aCons (oOf (fLit (.int (0)))) aNil)))) (aCons (oOf (fLit (.int (1)))) aNil)))) (fPrim pList (aCons (oSlot 2) aNil)) (vOf (fTup (vCons (vOf (fPrim pSubI (aCons (oOf (fPrim pIx (aCons (oSlot 0) (aCons (oOf (fLit (.int (0)))) aNil)))) (aCons (oOf (fLit (.int (2)))) aNil)))) vNil))))
    (fSeq (fFor (iSeq (vOf (fVar 3))) (.name 4) (fSeq (fAsg 8 (fPrim pTuple (aCons (oOf (fLc (iSeq (vOf (fVar 4))) (.name 9) tYesD (vOf (fPrim qAdd (aCons (oSlot 9) (aCons (oSlot 5) aNil)))) [9])) aNil)))
    (fSeq (fIfS (tAndD (tBool (fPrim qIn (aCons (oOf (fPrim pSubI (aCons (oOf (fPrim pIx (aCons (oSlot 1) (aCons (oOf (fLit (.int (0)))) aNil)))) (aCons (oOf (fLit (.int (3)))) aNil)))) (aCons (oSlot 4) aNil)))) (tTruth (oOf (fCall phi__law_is_last [false, false] (.val (vOf (fVar 1)) :: (.val (vOf (fVar 4)) :: [])))))) (fSeq (fAsg 7 (fPrim qAdd (aCons (oSlot 7) (aCons (oSlot 8) aNil))))
    fNext) (fSeq (fDrop (fApp 6 (vOf (fVar 8))))
    fNext))
    fNext)))
    (fSeq (fRet (fPrim pTuple (aCons (oOf (fPrim pSorted (aCons (oOf (fPrim qAdd (aCons (oSlot 6) (aCons (oOf (fLst (vCons (vOf (fVar 7)) vNil))) aNil)))) aNil))) aNil)))
    fNext)))
def phi__law_blocks : CallD := gate [false, false, false, false] (defD 10 (b__law_blocks (phi__law_is_last)))
def l__law_blocks : Tab := [((Str.ofString "_law_is_last"), ⟨2, [false, false]⟩, phi__law_is_last)]
def N__law_blocks : List Str := [(Str.ofString "_law_one"), (Str.ofString "_law_two"), (Str.ofString "_law_mine"), (Str.ofString "_law_yours"), (Str.ofString "_law_block"), (Str.ofString "_law_middle"), (Str.ofString "_law_found"), (Str.ofString "_law_top"), (Str.ofString "_law_fresh"), (Str.ofString "_law_point")]
def P__law_blocks : List Str := [(Str.ofString "_law_one"), (Str.ofString "_law_two"), (Str.ofString "_law_mine"), (Str.ofString "_law_yours")]
theorem tr__law_blocks : trSs 200 (mkC N__law_blocks (defScope (S 78)) [false, false, false, false] l__law_blocks bltn consD []) (defBody (S 78)) = some (fun Φ => b__law_blocks (Φ (Str.ofString "_law_is_last"))) := by kernel_rfl
theorem sc__law_blocks : FnScope N__law_blocks P__law_blocks (defScope (S 78)) := ⟨by rfl, by rfl, by rfl, by decide +kernel, by rfl, by decide +kernel, by decide +kernel⟩
/-! ### _law_right -/
def b__law_right (phi__law_both phi_mountain phi_reaches phi_frieze phi_count_pairings phi__law_number_across phi_is_cutting phi_tree_of phi_counts_at phi_parting_of phi__law_blocks : CallD) : DS :=
    (fSeq (fUnp (.tup [4, 5]) (vOf (fTup (vCons (vOf (fCall phi__law_both [false, false] (.val (vOf (fVar 0)) :: (.val (vOf (fVar 1)) :: [])))) (vCons (vOf (fPrim pSubI (aCons (oOf (fPrim pIx (aCons (oSlot 0) (aCons (oOf (fLit (.int (0)))) aNil)))) (aCons (oOf (fLit (.int (1)))) aNil)))) vNil)))))
    (fSeq (fIfS (tOrD (tBool (fPrim qNot (aCons (oOf (fCall phi_is_cutting [false] (.val (vOf (fVar 4)) :: []))) (aCons (oOf (fLit (.bool true))) aNil)))) (tBool (fPrim qNe (aCons (oOf (fCall phi_tree_of [false] (.val (vOf (fVar 4)) :: []))) (aCons (oOf (fTup (vCons (vOf (fCall phi_tree_of [false] (.val (vOf (fVar 0)) :: []))) (vCons (vOf (fCall phi_tree_of [false] (.val (vOf (fVar 1)) :: []))) vNil)))) aNil))))) (fSeq (fRet (fLit (.bool false)))
    fNext) fNext)
    (fSeq (fIfS (tBool (fPrim qNe (aCons (oOf (fCall phi_mountain [false] (.val (vOf (fCall phi_tree_of [false] (.val (vOf (fVar 4)) :: []))) :: []))) (aCons (oOf (fPrim qAdd (aCons (oOf (fPrim qAdd (aCons (oOf (fPrim qAdd (aCons (oOf (fLit (.str (Str.ofString "u")))) (aCons (oOf (fCall phi_mountain [false] (.val (vOf (fCall phi_tree_of [false] (.val (vOf (fVar 0)) :: []))) :: []))) aNil)))) (aCons (oOf (fLit (.str (Str.ofString "d")))) aNil)))) (aCons (oOf (fCall phi_mountain [false] (.val (vOf (fCall phi_tree_of [false] (.val (vOf (fVar 1)) :: []))) :: []))) aNil)))) aNil)))) (fSeq (fRet (fLit (.bool false)))
    fNext) fNext)
    (fSeq (fIfS (tBool (fPrim qNe (aCons (oOf (fCall phi_reaches [false] (.val (vOf (fCall phi_tree_of [false] (.val (vOf (fVar 4)) :: []))) :: []))) (aCons (oOf (fPrim qAdd (aCons (oOf (fPrim qAdd (aCons (oOf (fCall phi_reaches [false] (.val (vOf (fCall phi_tree_of [false] (.val (vOf (fVar 0)) :: []))) :: []))) (aCons (oOf (fTup (vCons (vOf (fPrim pSubI (aCons (oOf (fPrim pIx (aCons (oSlot 1) (aCons (oOf (fLit (.int (0)))) aNil)))) (aCons (oOf (fLit (.int (2)))) aNil)))) vNil))) aNil)))) (aCons (oOf (fCall phi_reaches [false] (.val (vOf (fCall phi_tree_of [false] (.val (vOf (fVar 1)) :: []))) :: []))) aNil)))) aNil)))) (fSeq (fRet (fLit (.bool false)))
    fNext) fNext)
    (fSeq (fPar 6 7 (fPrim pList (aCons (oOf (fCall phi_counts_at [false] (.val (vOf (fVar 0)) :: []))) aNil)) (fPrim pList (aCons (oOf (fCall phi_counts_at [false] (.val (vOf (fVar 1)) :: []))) aNil)))
    (fSeq (fAsg 2 (fPrim qAdd (aCons (oOf (fPrim qAdd (aCons (oOf (fPrim qAdd (aCons (oOf (fPrim qAdd (aCons (oOf (fLst (vCons (vOf (fPrim qAdd (aCons (oOf (fPrim pIx (aCons (oSlot 6) (aCons (oOf (fLit (.int (0)))) aNil)))) (aCons (oOf (fLit (.int (1)))) aNil)))) vNil))) (aCons (oOf (fSl (oSlot 6) (pSome (vOf (fLit (.int (1))))) (pSome (vOf (fPrim pNeg (aCons (oOf (fLit (.int (1)))) aNil)))))) aNil)))) (aCons (oOf (fLst (vCons (vOf (fPrim qAdd (aCons (oOf (fPrim qAdd (aCons (oOf (fPrim pIx (aCons (oSlot 6) (aCons (oOf (fPrim pNeg (aCons (oOf (fLit (.int (1)))) aNil))) aNil)))) (aCons (oOf (fLit (.int (1)))) aNil)))) (aCons (oOf (fPrim pIx (aCons (oSlot 7) (aCons (oOf (fLit (.int (0)))) aNil)))) aNil)))) vNil))) aNil)))) (aCons (oOf (fSl (oSlot 7) (pSome (vOf (fLit (.int (1))))) (pSome (vOf (fPrim pNeg (aCons (oOf (fLit (.int (1)))) aNil)))))) aNil)))) (aCons (oOf (fLst (vCons (vOf (fPrim qAdd (aCons (oOf (fPrim pIx (aCons (oSlot 7) (aCons (oOf (fPrim pNeg (aCons (oOf (fLit (.int (1)))) aNil))) aNil)))) (aCons (oOf (fLit (.int (1)))) aNil)))) vNil))) aNil))))
    (fSeq (fIfS (tOrD (tBool (fPrim qNe (aCons (oOf (fPrim pList (aCons (oOf (fCall phi_counts_at [false] (.val (vOf (fVar 4)) :: []))) aNil))) (aCons (oSlot 2) aNil)))) (tBool (fPrim qNe (aCons (oOf (fCall phi_parting_of [false] (.val (vOf (fVar 4)) :: []))) (aCons (oOf (fCall phi__law_blocks [false, false, false, false] (.val (vOf (fVar 0)) :: (.val (vOf (fVar 1)) :: (.val (vOf (fCall phi_parting_of [false] (.val (vOf (fVar 0)) :: []))) :: (.val (vOf (fCall phi_parting_of [false] (.val (vOf (fVar 1)) :: []))) :: [])))))) aNil))))) (fSeq (fRet (fLit (.bool false)))
    fNext) fNext)
    (fSeq (fPar3 8 9 10 (vOf (fCall phi_frieze [false] (.val (vOf (fVar 0)) :: []))) (vOf (fCall phi_frieze [false] (.val (vOf (fVar 1)) :: []))) (vOf (fCall phi_frieze [false] (.val (vOf (fVar 4)) :: []))))
    (fSeq (fIfS (tBool (fPrim qNe (aCons (oOf (fLc (iSeq (vOf (fSl (oSlot 10) pNone (pSome (vOf (fPrim pIx (aCons (oSlot 0) (aCons (oOf (fLit (.int (0)))) aNil)))))))) (.name 12) tYesD (vOf (fPrim pList (aCons (oOf (fSl (oSlot 12) pNone (pSome (vOf (fPrim pIx (aCons (oSlot 0) (aCons (oOf (fLit (.int (0)))) aNil))))))) aNil))) [12])) (aCons (oOf (fLc (iSeq (vOf (fVar 8))) (.name 12) tYesD (vOf (fPrim pList (aCons (oSlot 12) aNil))) [12])) aNil)))) (fSeq (fRet (fLit (.bool false)))
    fNext) fNext)
    (fSeq (fIfS (tBool (fPrim qNe (aCons (oOf (fLc (iSeq (vOf (fSl (oSlot 10) (pSome (vOf (fVar 5))) pNone))) (.name 12) tYesD (vOf (fPrim pList (aCons (oOf (fSl (oSlot 12) (pSome (vOf (fVar 5))) pNone)) aNil))) [12])) (aCons (oOf (fLc (iSeq (vOf (fVar 9))) (.name 12) tYesD (vOf (fPrim pList (aCons (oSlot 12) aNil))) [12])) aNil)))) (fSeq (fRet (fLit (.bool false)))
    fNext) fNext)
    (fSeq (fFor (iRange (vCons (vOf (fPrim pIx (aCons (oSlot 0) (aCons (oOf (fLit (.int (0)))) aNil)))) vNil)) (.name 3) (fSeq (fFor (iRange (vCons (vOf (fLit (.int (1)))) (vCons (vOf (fPrim pIx (aCons (oSlot 1) (aCons (oOf (fLit (.int (0)))) aNil)))) vNil))) (.name 11) (fSeq (fAsg 2 (fCall phi__law_number_across [false, false, false, false] (.val (vOf (fVar 8)) :: (.val (vOf (fVar 9)) :: (.val (vOf (fVar 3)) :: (.val (vOf (fVar 11)) :: []))))))
    (fSeq (fIfS (tBool (fPrim qNe (aCons (oOf (fPrim pIx (aCons (oOf (fPrim pIx (aCons (oSlot 10) (aCons (oSlot 3) aNil)))) (aCons (oOf (fPrim qAdd (aCons (oSlot 11) (aCons (oSlot 5) aNil)))) aNil)))) (aCons (oSlot 2) aNil)))) (fSeq (fRet (fLit (.bool false)))
    fNext) fNext)
    fNext)))
    fNext))
    (fSeq (fPar 3 11 (fPrim pDivI (aCons (oOf (fPrim pIx (aCons (oSlot 0) (aCons (oOf (fLit (.int (0)))) aNil)))) (aCons (oOf (fLit (.int (2)))) aNil))) (fPrim pDivI (aCons (oOf (fPrim pIx (aCons (oSlot 1) (aCons (oOf (fLit (.int (0)))) aNil)))) (aCons (oOf (fLit (.int (2)))) aNil))))
    (fSeq (fRet (fPrim qEq (aCons (oOf (fCall phi_count_pairings [false, false] (.val (vOf (fVar 4)) :: (.val (vOf (fTup (vCons (vOf (fVar 3)) (vCons (vOf (fPrim qAdd (aCons (oSlot 11) (aCons (oSlot 5) aNil)))) vNil)))) :: [])))) (aCons (oOf (fCall phi__law_number_across [false, false, false, false] (.val (vOf (fVar 8)) :: (.val (vOf (fVar 9)) :: (.val (vOf (fVar 3)) :: (.val (vOf (fVar 11)) :: [])))))) aNil))))
    fNext)))))))))))))
def phi__law_right : CallD := gate [false, false] (defD 13 (b__law_right (phi__law_both) (phi_mountain) (phi_reaches) (phi_frieze) (phi_count_pairings) (phi__law_number_across) (phi_is_cutting) (phi_tree_of) (phi_counts_at) (phi_parting_of) (phi__law_blocks)))
def l__law_right : Tab := [((Str.ofString "_law_both"), ⟨2, [false, false]⟩, phi__law_both), ((Str.ofString "mountain"), ⟨1, [false]⟩, phi_mountain), ((Str.ofString "reaches"), ⟨1, [false]⟩, phi_reaches), ((Str.ofString "frieze"), ⟨1, [false]⟩, phi_frieze), ((Str.ofString "count_pairings"), ⟨2, [false, false]⟩, phi_count_pairings), ((Str.ofString "_law_number_across"), ⟨4, [false, false, false, false]⟩, phi__law_number_across), ((Str.ofString "is_cutting"), ⟨1, [false]⟩, phi_is_cutting), ((Str.ofString "tree_of"), ⟨1, [false]⟩, phi_tree_of), ((Str.ofString "counts_at"), ⟨1, [false]⟩, phi_counts_at), ((Str.ofString "parting_of"), ⟨1, [false]⟩, phi_parting_of), ((Str.ofString "_law_blocks"), ⟨4, [false, false, false, false]⟩, phi__law_blocks)]
def N__law_right : List Str := [(Str.ofString "_law_one"), (Str.ofString "_law_two"), (Str.ofString "_law_due"), (Str.ofString "_law_i"), (Str.ofString "_law_whole"), (Str.ofString "_law_middle"), (Str.ofString "_law_left"), (Str.ofString "_law_right_here"), (Str.ofString "_law_mine"), (Str.ofString "_law_yours"), (Str.ofString "_law_lines"), (Str.ofString "_law_j"), (Str.ofString "_law_line")]
def P__law_right : List Str := [(Str.ofString "_law_one"), (Str.ofString "_law_two")]
theorem tr__law_right : trSs 200 (mkC N__law_right (defScope (S 81)) [false, false] l__law_right bltn consD []) (defBody (S 81)) = some (fun Φ => b__law_right (Φ (Str.ofString "_law_both")) (Φ (Str.ofString "mountain")) (Φ (Str.ofString "reaches")) (Φ (Str.ofString "frieze")) (Φ (Str.ofString "count_pairings")) (Φ (Str.ofString "_law_number_across")) (Φ (Str.ofString "is_cutting")) (Φ (Str.ofString "tree_of")) (Φ (Str.ofString "counts_at")) (Φ (Str.ofString "parting_of")) (Φ (Str.ofString "_law_blocks"))) := by kernel_rfl
theorem sc__law_right : FnScope N__law_right P__law_right (defScope (S 81)) := ⟨by rfl, by rfl, by rfl, by decide +kernel, by rfl, by decide +kernel, by decide +kernel⟩
/-! ### _law_roll -/
def b__law_roll : DS :=
    (fSeq (fIfS (tBool (fPrim qGt (aCons (oOf (fPrim pIx (aCons (oSlot 0) (aCons (oOf (fLit (.int (0)))) aNil)))) (aCons (oOf (fLit (.int (0)))) aNil)))) (fSeq (fAsg 3 (fPrim pModI (aCons (oOf (fPrim pInt (aCons (oOf (fPrim pIx (aCons (oSlot 0) (aCons (oOf (fLit (.int (0)))) aNil)))) aNil))) (aCons (oSlot 1) aNil))))
    (fSeq (fSetIx 0 (vOf (fLit (.int (0)))) (vOf (fPrim pDivI (aCons (oOf (fPrim pIx (aCons (oSlot 0) (aCons (oOf (fLit (.int (0)))) aNil)))) (aCons (oSlot 1) aNil)))))
    (fSeq (fRetN 3)
    fNext))) fNext)
    (fSeq (fSetIx 0 (vOf (fLit (.int (1)))) (vOf (fPrim pModI (aCons (oOf (fPrim pInt (aCons (oOf (fPrim qAdd (aCons (oOf (fPrim qMul (aCons (oOf (fPrim pIx (aCons (oSlot 0) (aCons (oOf (fLit (.int (1)))) aNil)))) (aCons (oOf (fLit (.int (30671)))) aNil)))) (aCons (oOf (fLit (.int (7919)))) aNil)))) aNil))) (aCons (oOf (fLit (.int (2147483549)))) aNil)))))
    (fSeq (fAsg 2 (fPrim pModI (aCons (oOf (fPrim pInt (aCons (oOf (fPrim qMul (aCons (oOf (fPrim pIx (aCons (oSlot 0) (aCons (oOf (fLit (.int (1)))) aNil)))) (aCons (oOf (fPrim qAdd (aCons (oOf (fPrim pIx (aCons (oSlot 0) (aCons (oOf (fLit (.int (1)))) aNil)))) (aCons (oOf (fLit (.int (131)))) aNil)))) aNil)))) aNil))) (aCons (oOf (fLit (.int (2147483587)))) aNil))))
    (fSeq (fRet (fPrim pModI (aCons (oOf (fPrim pInt (aCons (oOf (fPrim pDivI (aCons (oSlot 2) (aCons (oOf (fLit (.int (709)))) aNil)))) aNil))) (aCons (oSlot 1) aNil))))
    fNext))))
def phi__law_roll : CallD := gate [true, false] (defD 4 (b__law_roll))
def l__law_roll : Tab := []
def N__law_roll : List Str := [(Str.ofString "_law_cup_here"), (Str.ofString "_law_many"), (Str.ofString "_law_deep"), (Str.ofString "_law_found")]
def P__law_roll : List Str := [(Str.ofString "_law_cup_here"), (Str.ofString "_law_many")]
theorem tr__law_roll : trSs 200 (mkC N__law_roll (defScope (S 73)) [true, false] l__law_roll bltn consD []) (defBody (S 73)) = some (fun Φ => b__law_roll) := by kernel_rfl
theorem sc__law_roll : FnScope N__law_roll P__law_roll (defScope (S 73)) := ⟨by rfl, by rfl, by rfl, by decide +kernel, by rfl, by decide +kernel, by decide +kernel⟩
/-! ### _law_cuts -/
def b__law_cuts (phi__law_roll phi__law_cuts : CallD) : DS :=
    (fSeq (fIfS (tBool (fPrim qLt (aCons (oOf (fPrim pSubI (aCons (oSlot 2) (aCons (oSlot 1) aNil)))) (aCons (oOf (fLit (.int (2)))) aNil)))) (fSeq (fRet (fLst vNil))
    fNext) fNext)
    (fSeq (fAsg 3 (fPrim qAdd (aCons (oOf (fPrim qAdd (aCons (oSlot 1) (aCons (oOf (fLit (.int (1)))) aNil)))) (aCons (oOf (fCall phi__law_roll [true, false] (.slot 0 :: (.val (vOf (fPrim pSubI (aCons (oOf (fPrim pSubI (aCons (oSlot 2) (aCons (oSlot 1) aNil)))) (aCons (oOf (fLit (.int (1)))) aNil)))) :: [])))) aNil))))
    (fSeq (fAsg 4 (fLc (iSeq (vOf (fTup (vCons (vOf (fTup (vCons (vOf (fVar 1)) (vCons (vOf (fVar 3)) vNil)))) (vCons (vOf (fTup (vCons (vOf (fVar 3)) (vCons (vOf (fVar 2)) vNil)))) vNil))))) (.tup [5, 6]) (tBool (fPrim qGt (aCons (oOf (fPrim pSubI (aCons (oSlot 6) (aCons (oSlot 5) aNil)))) (aCons (oOf (fLit (.int (1)))) aNil)))) (vOf (fTup (vCons (vOf (fVar 5)) (vCons (vOf (fVar 6)) vNil)))) [5, 6]))
    (fSeq (fRet (fPrim qAdd (aCons (oOf (fPrim qAdd (aCons (oSlot 4) (aCons (oOf (fCall phi__law_cuts [true, false, false] (.slot 0 :: (.val (vOf (fVar 1)) :: (.val (vOf (fVar 3)) :: []))))) aNil)))) (aCons (oOf (fCall phi__law_cuts [true, false, false] (.slot 0 :: (.val (vOf (fVar 3)) :: (.val (vOf (fVar 2)) :: []))))) aNil))))
    fNext))))
def phi__law_cuts : Nat → CallD
  | 0 => fun _ => none
  | k + 1 => gate [true, false, false] (defD 7 (b__law_cuts (phi__law_roll) (phi__law_cuts k)))
def l__law_cuts (k : Nat) : Tab := [((Str.ofString "_law_roll"), ⟨2, [true, false]⟩, phi__law_roll), ((Str.ofString "_law_cuts"), ⟨3, [true, false, false]⟩, phi__law_cuts k)]
def N__law_cuts : List Str := [(Str.ofString "_law_cup_here"), (Str.ofString "_law_first"), (Str.ofString "_law_last"), (Str.ofString "_law_third"), (Str.ofString "_law_found"), (Str.ofString "_law_one"), (Str.ofString "_law_two")]
def P__law_cuts : List Str := [(Str.ofString "_law_cup_here"), (Str.ofString "_law_first"), (Str.ofString "_law_last")]
theorem tr__law_cuts (k : Nat) : trSs 200 (mkC N__law_cuts (defScope (S 74)) [true, false, false] (l__law_cuts k) bltn consD []) (defBody (S 74)) = some (fun Φ => b__law_cuts (Φ (Str.ofString "_law_roll")) (Φ (Str.ofString "_law_cuts"))) := by kernel_rfl
theorem sc__law_cuts : FnScope N__law_cuts P__law_cuts (defScope (S 74)) := ⟨by rfl, by rfl, by rfl, by decide +kernel, by rfl, by decide +kernel, by decide +kernel⟩
/-! ### _law_cutting -/
def b__law_cutting (phi__law_roll phi__law_cuts : CallD) : DS :=
    (fSeq (fAsg 3 (fPrim qAdd (aCons (oSlot 1) (aCons (oOf (fCall phi__law_roll [true, false] (.slot 0 :: (.val (vOf (fPrim qAdd (aCons (oOf (fPrim pSubI (aCons (oSlot 2) (aCons (oSlot 1) aNil)))) (aCons (oOf (fLit (.int (1)))) aNil)))) :: [])))) aNil))))
    (fSeq (fRet (fTup (vCons (vOf (fVar 3)) (vCons (vOf (fPrim pTuple (aCons (oOf (fPrim pSorted (aCons (oOf (fCall phi__law_cuts [true, false, false] (.slot 0 :: (.val (vOf (fLit (.int (0)))) :: (.val (vOf (fPrim pSubI (aCons (oSlot 3) (aCons (oOf (fLit (.int (1)))) aNil)))) :: []))))) aNil))) aNil))) vNil))))
    fNext))
def phi__law_cutting : CallD := gate [true, false, false] (defD 4 (b__law_cutting (phi__law_roll) (phi__law_cuts 6)))
def l__law_cutting : Tab := [((Str.ofString "_law_roll"), ⟨2, [true, false]⟩, phi__law_roll), ((Str.ofString "_law_cuts"), ⟨3, [true, false, false]⟩, phi__law_cuts 6)]
def N__law_cutting : List Str := [(Str.ofString "_law_cup_here"), (Str.ofString "_law_least"), (Str.ofString "_law_most"), (Str.ofString "_law_sides")]
def P__law_cutting : List Str := [(Str.ofString "_law_cup_here"), (Str.ofString "_law_least"), (Str.ofString "_law_most")]
theorem tr__law_cutting : trSs 200 (mkC N__law_cutting (defScope (S 75)) [true, false, false] l__law_cutting bltn consD []) (defBody (S 75)) = some (fun Φ => b__law_cutting (Φ (Str.ofString "_law_roll")) (Φ (Str.ofString "_law_cuts"))) := by kernel_rfl
theorem sc__law_cutting : FnScope N__law_cutting P__law_cutting (defScope (S 75)) := ⟨by rfl, by rfl, by rfl, by decide +kernel, by rfl, by decide +kernel, by decide +kernel⟩
/-! ### law -/
def b_law (phi__law_cup phi__law_right phi__law_cutting : CallD) : DS :=
    (fSeq (fAsg 1 (fCall phi__law_cup [false] (.val (vOf (fVar 0)) :: [])))
    (fSeq (fIfS (tNotD (tTruth (oOf (fCall phi__law_right [false, false] (.val (vOf (fCall phi__law_cutting [true, false, false] (.slot 1 :: (.val (vOf (fLit (.int (3)))) :: (.val (vOf (fLit (.int (5)))) :: []))))) :: (.val (vOf (fCall phi__law_cutting [true, false, false] (.slot 1 :: (.val (vOf (fLit (.int (3)))) :: (.val (vOf (fLit (.int (5)))) :: []))))) :: [])))))) (fSeq (fRet (fLit (.bool false)))
    fNext) fNext)
    (fSeq (fRet (fAnd (fCall phi__law_right [false, false] (.val (vOf (fTup (vCons (vOf (fLit (.int (4)))) (vCons (vOf (fTup (vCons (vOf (fTup (vCons (vOf (fLit (.int (0)))) (vCons (vOf (fLit (.int (2)))) vNil)))) vNil))) vNil)))) :: (.val (vOf (fTup (vCons (vOf (fLit (.int (4)))) (vCons (vOf (fTup (vCons (vOf (fTup (vCons (vOf (fLit (.int (1)))) (vCons (vOf (fLit (.int (3)))) vNil)))) vNil))) vNil)))) :: []))) (fCall phi__law_right [false, false] (.val (vOf (fTup (vCons (vOf (fLit (.int (3)))) (vCons (vOf (fTup vNil)) vNil)))) :: (.val (vOf (fTup (vCons (vOf (fLit (.int (5)))) (vCons (vOf (fTup (vCons (vOf (fTup (vCons (vOf (fLit (.int (0)))) (vCons (vOf (fLit (.int (2)))) vNil)))) (vCons (vOf (fTup (vCons (vOf (fLit (.int (0)))) (vCons (vOf (fLit (.int (3)))) vNil)))) vNil)))) vNil)))) :: [])))))
    fNext)))
def phi_law : CallD := gate [false] (defD 2 (b_law (phi__law_cup) (phi__law_right) (phi__law_cutting)))
def l_law : Tab := [((Str.ofString "_law_cup"), ⟨1, [false]⟩, phi__law_cup), ((Str.ofString "_law_right"), ⟨2, [false, false]⟩, phi__law_right), ((Str.ofString "_law_cutting"), ⟨3, [true, false, false]⟩, phi__law_cutting)]
def N_law : List Str := [(Str.ofString "_law_script"), (Str.ofString "_law_cup_here")]
def P_law : List Str := [(Str.ofString "_law_script")]
theorem tr_law : trSs 200 (mkC N_law (defScope (S 82)) [false] l_law bltn consD []) (defBody (S 82)) = some (fun Φ => b_law (Φ (Str.ofString "_law_cup")) (Φ (Str.ofString "_law_right")) (Φ (Str.ofString "_law_cutting"))) := by kernel_rfl
theorem sc_law : FnScope N_law P_law (defScope (S 82)) := ⟨by rfl, by rfl, by rfl, by decide +kernel, by rfl, by decide +kernel, by decide +kernel⟩
def fn0 : List He.DefD := [mkD (Str.ofString "_law_cup") (S 72), mkD (Str.ofString "_law_both") (S 77), mkD (Str.ofString "tree_size") (S 26), mkD (Str.ofString "fits_tree") (S 27), mkD (Str.ofString "need_tree") (S 31), mkD (Str.ofString "mountain_of") (S 64), mkD (Str.ofString "mountain") (S 65), mkD (Str.ofString "fork_count") (S 28), mkD (Str.ofString "reaches_of") (S 30), mkD (Str.ofString "reaches") (S 34), mkD (Str.ofString "rises") (S 13), mkD (Str.ofString "is_whole") (S 9), mkD (Str.ofString "are_next") (S 10), mkD (Str.ofString "fits_cut") (S 11), mkD (Str.ofString "cross") (S 12)]
def fn1 : List He.DefD := [mkD (Str.ofString "fits_cutting") (S 14), mkD (Str.ofString "need_cutting") (S 20), mkD (Str.ofString "all_ties") (S 15), mkD (Str.ofString "near_of") (S 16), mkD (Str.ofString "piece_counts") (S 19), mkD (Str.ofString "numbers_from") (S 36), mkD (Str.ofString "frieze_of") (S 37), mkD (Str.ofString "frieze") (S 38), mkD (Str.ofString "fits_line") (S 45), mkD (Str.ofString "need_line") (S 53), mkD (Str.ofString "need_across") (S 54), mkD (Str.ofString "met_at") (S 46), mkD (Str.ofString "cuts_across") (S 47), mkD (Str.ofString "next_corners") (S 49), mkD (Str.ofString "first_corners") (S 48)]
def fn2 : List He.DefD := [mkD (Str.ofString "thirds_of") (S 18), mkD (Str.ofString "tiles_of") (S 50), mkD (Str.ofString "spots_of") (S 56), mkD (Str.ofString "rails_at") (S 52), mkD (Str.ofString "all_rails") (S 57), mkD (Str.ofString "is_pure") (S 58), mkD (Str.ofString "fits_pairing") (S 59), mkD (Str.ofString "need_pairing") (S 60), mkD (Str.ofString "tiles_for") (S 61), mkD (Str.ofString "is_later_first") (S 40), mkD (Str.ofString "rows_added") (S 41), mkD (Str.ofString "level_rows") (S 42), mkD (Str.ofString "tally_by") (S 43), mkD (Str.ofString "words_of") (S 51), mkD (Str.ofString "count_pairings") (S 62)]
def fn3 : List He.DefD := [mkD (Str.ofString "_law_number_across") (S 80), mkD (Str.ofString "is_cutting") (S 22), mkD (Str.ofString "need_few") (S 21), mkD (Str.ofString "need_small_cutting") (S 32), mkD (Str.ofString "tree_between") (S 29), mkD (Str.ofString "tree_of") (S 33), mkD (Str.ofString "counts_at") (S 23), mkD (Str.ofString "gathered") (S 67), mkD (Str.ofString "all_pieces") (S 17), mkD (Str.ofString "greatest_blocks") (S 69), mkD (Str.ofString "parting_of") (S 70), mkD (Str.ofString "_law_ties") (S 76), mkD (Str.ofString "_law_is_last") (S 79), mkD (Str.ofString "_law_blocks") (S 78), mkD (Str.ofString "_law_right") (S 81)]
def fn4 : List He.DefD := [mkD (Str.ofString "_law_roll") (S 73), mkD (Str.ofString "_law_cuts") (S 74), mkD (Str.ofString "_law_cutting") (S 75), mkD (Str.ofString "law") (S 82)]
def fn : List He.DefD := fn0 ++ (fn1 ++ (fn2 ++ (fn3 ++ (fn4))))
section
variable {P : Program} {w : World} {K : PySem.W.Frag} {mg : Str → Option Value} {base : Heap}
theorem ok__law_cup (A : HeadOk fn K mg bltn consD) : OkF P w K mg base 1 (Str.ofString "_law_cup") 1 phi__law_cup := by
  obtain ⟨f, fd, F, hm⟩ := A.d 0 (mkD (Str.ofString "_law_cup") (S 72)) (by rfl)
  exact okF_of (k := 0) F hm sc__law_cup (F.bindsN (ps := P__law_cup) fun _ _ _ _ _ _ us hl => match us, hl with | [_], _ => rfl) A.b allNil tr__law_cup (by kernel_rfl)
theorem ok__law_both (A : HeadOk fn K mg bltn consD) : OkF P w K mg base 1 (Str.ofString "_law_both") 2 phi__law_both := by
  obtain ⟨f, fd, F, hm⟩ := A.d 1 (mkD (Str.ofString "_law_both") (S 77)) (by rfl)
  exact okF_of (k := 0) F hm sc__law_both (F.bindsN (ps := P__law_both) fun _ _ _ _ _ _ us hl => match us, hl with | [_, _], _ => rfl) A.b allNil tr__law_both (by kernel_rfl)
theorem ok_tree_size (A : HeadOk fn K mg bltn consD) : ∀ k : Nat, OkF P w K mg base (1 + k) (Str.ofString "tree_size") 2 (phi_tree_size k)
  | 0 => by
    obtain ⟨f, fd, F, hm⟩ := A.d 2 (mkD (Str.ofString "tree_size") (S 26)) (by rfl)
    exact okF_zero (st := S 26) F hm (F.bindsN (ps := P_tree_size) fun _ _ _ _ _ _ us hl => match us, hl with | [_, _], _ => rfl)
  | k + 1 => by
    obtain ⟨f, fd, F, hm⟩ := A.d 2 (mkD (Str.ofString "tree_size") (S 26)) (by rfl)
    have ih := ok_tree_size A k
    exact okF_of (k := 1 + k) F hm sc_tree_size (F.bindsN (ps := P_tree_size) fun _ _ _ _ _ _ us hl => match us, hl with | [_, _], _ => rfl) A.b (allCons ih allNil) (tr_tree_size k) (by kernel_rfl)
theorem ok_fits_tree (A : HeadOk fn K mg bltn consD) : OkF P w K mg base 12 (Str.ofString "fits_tree") 1 phi_fits_tree := by
  obtain ⟨f, fd, F, hm⟩ := A.d 3 (mkD (Str.ofString "fits_tree") (S 27)) (by rfl)
  exact okF_of (k := 11) F hm sc_fits_tree (F.bindsN (ps := P_fits_tree) fun _ _ _ _ _ _ us hl => match us, hl with | [_], _ => rfl) A.b (allCons ((ok_tree_size A 10).mono (by decide)) allNil) tr_fits_tree (by kernel_rfl)
theorem ok_need_tree (A : HeadOk fn K mg bltn consD) : OkF P w K mg base 13 (Str.ofString "need_tree") 1 phi_need_tree := by
  obtain ⟨f, fd, F, hm⟩ := A.d 4 (mkD (Str.ofString "need_tree") (S 31)) (by rfl)
  exact okF_of (k := 12) F hm sc_need_tree (F.bindsN (ps := P_need_tree) fun _ _ _ _ _ _ us hl => match us, hl with | [_], _ => rfl) A.b (allCons ((ok_fits_tree A).mono (by decide)) allNil) tr_need_tree (by kernel_rfl)
theorem ok_mountain_of (A : HeadOk fn K mg bltn consD) : ∀ k : Nat, OkF P w K mg base (1 + k) (Str.ofString "mountain_of") 1 (phi_mountain_of k)
  | 0 => by
    obtain ⟨f, fd, F, hm⟩ := A.d 5 (mkD (Str.ofString "mountain_of") (S 64)) (by rfl)
    exact okF_zero (st := S 64) F hm (F.bindsN (ps := P_mountain_of) fun _ _ _ _ _ _ us hl => match us, hl with | [_], _ => rfl)
  | k + 1 => by
    obtain ⟨f, fd, F, hm⟩ := A.d 5 (mkD (Str.ofString "mountain_of") (S 64)) (by rfl)
    have ih := ok_mountain_of A k
    exact okF_of (k := 1 + k) F hm sc_mountain_of (F.bindsN (ps := P_mountain_of) fun _ _ _ _ _ _ us hl => match us, hl with | [_], _ => rfl) A.b (allCons ih allNil) (tr_mountain_of k) (by kernel_rfl)
theorem ok_mountain (A : HeadOk fn K mg bltn consD) : OkF P w K mg base 14 (Str.ofString "mountain") 1 phi_mountain := by
  obtain ⟨f, fd, F, hm⟩ := A.d 6 (mkD (Str.ofString "mountain") (S 65)) (by rfl)
  exact okF_of (k := 13) F hm sc_mountain (F.bindsN (ps := P_mountain) fun _ _ _ _ _ _ us hl => match us, hl with | [_], _ => rfl) A.b (allCons ((ok_need_tree A).mono (by decide)) (allCons ((ok_mountain_of A 9).mono (by decide)) allNil)) tr_mountain (by kernel_rfl)
theorem ok_fork_count (A : HeadOk fn K mg bltn consD) : ∀ k : Nat, OkF P w K mg base (1 + k) (Str.ofString "fork_count") 1 (phi_fork_count k)
  | 0 => by
    obtain ⟨f, fd, F, hm⟩ := A.d 7 (mkD (Str.ofString "fork_count") (S 28)) (by rfl)
    exact okF_zero (st := S 28) F hm (F.bindsN (ps := P_fork_count) fun _ _ _ _ _ _ us hl => match us, hl with | [_], _ => rfl)
  | k + 1 => by
    obtain ⟨f, fd, F, hm⟩ := A.d 7 (mkD (Str.ofString "fork_count") (S 28)) (by rfl)
    have ih := ok_fork_count A k
    exact okF_of (k := 1 + k) F hm sc_fork_count (F.bindsN (ps := P_fork_count) fun _ _ _ _ _ _ us hl => match us, hl with | [_], _ => rfl) A.b (allCons ih allNil) (tr_fork_count k) (by kernel_rfl)
theorem ok_reaches_of (A : HeadOk fn K mg bltn consD) : ∀ k : Nat, OkF P w K mg base (11 + k) (Str.ofString "reaches_of") 1 (phi_reaches_of k)
  | 0 => by
    obtain ⟨f, fd, F, hm⟩ := A.d 8 (mkD (Str.ofString "reaches_of") (S 30)) (by rfl)
    exact okF_zero (st := S 30) F hm (F.bindsN (ps := P_reaches_of) fun _ _ _ _ _ _ us hl => match us, hl with | [_], _ => rfl)
  | k + 1 => by
    obtain ⟨f, fd, F, hm⟩ := A.d 8 (mkD (Str.ofString "reaches_of") (S 30)) (by rfl)
    have ih := ok_reaches_of A k
    exact okF_of (k := 11 + k) F hm sc_reaches_of (F.bindsN (ps := P_reaches_of) fun _ _ _ _ _ _ us hl => match us, hl with | [_], _ => rfl) A.b (allCons ih (allCons ((ok_fork_count A 9).mono (by omega)) allNil)) (tr_reaches_of k) (by kernel_rfl)
theorem ok_reaches (A : HeadOk fn K mg bltn consD) : OkF P w K mg base 21 (Str.ofString "reaches") 1 phi_reaches := by
  obtain ⟨f, fd, F, hm⟩ := A.d 9 (mkD (Str.ofString "reaches") (S 34)) (by rfl)
  exact okF_of (k := 20) F hm sc_reaches (F.bindsN (ps := P_reaches) fun _ _ _ _ _ _ us hl => match us, hl with | [_], _ => rfl) A.b (allCons ((ok_need_tree A).mono (by decide)) (allCons ((ok_reaches_of A 9).mono (by decide)) allNil)) tr_reaches (by kernel_rfl)
theorem ok_rises (A : HeadOk fn K mg bltn consD) : OkF P w K mg base 1 (Str.ofString "rises") 1 phi_rises := by
  obtain ⟨f, fd, F, hm⟩ := A.d 10 (mkD (Str.ofString "rises") (S 13)) (by rfl)
  exact okF_of (k := 0) F hm sc_rises (F.bindsN (ps := P_rises) fun _ _ _ _ _ _ us hl => match us, hl with | [_], _ => rfl) A.b allNil tr_rises (by kernel_rfl)
theorem ok_is_whole (A : HeadOk fn K mg bltn consD) : OkF P w K mg base 1 (Str.ofString "is_whole") 3 phi_is_whole := by
  obtain ⟨f, fd, F, hm⟩ := A.d 11 (mkD (Str.ofString "is_whole") (S 9)) (by rfl)
  exact okF_of (k := 0) F hm sc_is_whole (F.bindsN (ps := P_is_whole) fun _ _ _ _ _ _ us hl => match us, hl with | [_, _, _], _ => rfl) A.b allNil tr_is_whole (by kernel_rfl)
theorem ok_are_next (A : HeadOk fn K mg bltn consD) : OkF P w K mg base 1 (Str.ofString "are_next") 3 phi_are_next := by
  obtain ⟨f, fd, F, hm⟩ := A.d 12 (mkD (Str.ofString "are_next") (S 10)) (by rfl)
  exact okF_of (k := 0) F hm sc_are_next (F.bindsN (ps := P_are_next) fun _ _ _ _ _ _ us hl => match us, hl with | [_, _, _], _ => rfl) A.b allNil tr_are_next (by kernel_rfl)
theorem ok_fits_cut (A : HeadOk fn K mg bltn consD) : OkF P w K mg base 2 (Str.ofString "fits_cut") 2 phi_fits_cut := by
  obtain ⟨f, fd, F, hm⟩ := A.d 13 (mkD (Str.ofString "fits_cut") (S 11)) (by rfl)
  exact okF_of (k := 1) F hm sc_fits_cut (F.bindsN (ps := P_fits_cut) fun _ _ _ _ _ _ us hl => match us, hl with | [_, _], _ => rfl) A.b (allCons ((ok_are_next A).mono (by decide)) (allCons ((ok_is_whole A).mono (by decide)) allNil)) tr_fits_cut (by kernel_rfl)
theorem ok_cross (A : HeadOk fn K mg bltn consD) : OkF P w K mg base 1 (Str.ofString "cross") 2 phi_cross := by
  obtain ⟨f, fd, F, hm⟩ := A.d 14 (mkD (Str.ofString "cross") (S 12)) (by rfl)
  exact okF_of (k := 0) F hm sc_cross (F.bindsN (ps := P_cross) fun _ _ _ _ _ _ us hl => match us, hl with | [_, _], _ => rfl) A.b allNil tr_cross (by kernel_rfl)
theorem ok_fits_cutting (A : HeadOk fn K mg bltn consD) : OkF P w K mg base 3 (Str.ofString "fits_cutting") 1 phi_fits_cutting := by
  obtain ⟨f, fd, F, hm⟩ := A.d 15 (mkD (Str.ofString "fits_cutting") (S 14)) (by rfl)
  exact okF_of (k := 2) F hm sc_fits_cutting (F.bindsN (ps := P_fits_cutting) fun _ _ _ _ _ _ us hl => match us, hl with | [_], _ => rfl) A.b (allCons ((ok_rises A).mono (by decide)) (allCons ((ok_is_whole A).mono (by decide)) (allCons ((ok_fits_cut A).mono (by decide)) (allCons ((ok_cross A).mono (by decide)) allNil)))) tr_fits_cutting (by kernel_rfl)
theorem ok_need_cutting (A : HeadOk fn K mg bltn consD) : OkF P w K mg base 4 (Str.ofString "need_cutting") 1 phi_need_cutting := by
  obtain ⟨f, fd, F, hm⟩ := A.d 16 (mkD (Str.ofString "need_cutting") (S 20)) (by rfl)
  exact okF_of (k := 3) F hm sc_need_cutting (F.bindsN (ps := P_need_cutting) fun _ _ _ _ _ _ us hl => match us, hl with | [_], _ => rfl) A.b (allCons ((ok_fits_cutting A).mono (by decide)) allNil) tr_need_cutting (by kernel_rfl)
theorem ok_all_ties (A : HeadOk fn K mg bltn consD) : OkF P w K mg base 1 (Str.ofString "all_ties") 1 phi_all_ties := by
  obtain ⟨f, fd, F, hm⟩ := A.d 17 (mkD (Str.ofString "all_ties") (S 15)) (by rfl)
  exact okF_of (k := 0) F hm sc_all_ties (F.bindsN (ps := P_all_ties) fun _ _ _ _ _ _ us hl => match us, hl with | [_], _ => rfl) A.b allNil tr_all_ties (by kernel_rfl)
theorem ok_near_of (A : HeadOk fn K mg bltn consD) : OkF P w K mg base 2 (Str.ofString "near_of") 1 phi_near_of := by
  obtain ⟨f, fd, F, hm⟩ := A.d 18 (mkD (Str.ofString "near_of") (S 16)) (by rfl)
  exact okF_of (k := 1) F hm sc_near_of (F.bindsN (ps := P_near_of) fun _ _ _ _ _ _ us hl => match us, hl with | [_], _ => rfl) A.b (allCons ((ok_all_ties A).mono (by decide)) allNil) tr_near_of (by kernel_rfl)
theorem ok_piece_counts (A : HeadOk fn K mg bltn consD) : OkF P w K mg base 3 (Str.ofString "piece_counts") 1 phi_piece_counts := by
  obtain ⟨f, fd, F, hm⟩ := A.d 19 (mkD (Str.ofString "piece_counts") (S 19)) (by rfl)
  exact okF_of (k := 2) F hm sc_piece_counts (F.bindsN (ps := P_piece_counts) fun _ _ _ _ _ _ us hl => match us, hl with | [_], _ => rfl) A.b (allCons ((ok_near_of A).mono (by decide)) allNil) tr_piece_counts (by kernel_rfl)
theorem ok_numbers_from (A : HeadOk fn K mg bltn consD) : OkF P w K mg base 1 (Str.ofString "numbers_from") 3 phi_numbers_from := by
  obtain ⟨f, fd, F, hm⟩ := A.d 20 (mkD (Str.ofString "numbers_from") (S 36)) (by rfl)
  exact okF_of (k := 0) F hm sc_numbers_from (F.bindsN (ps := P_numbers_from) fun _ _ _ _ _ _ us hl => match us, hl with | [_, _, _], _ => rfl) A.b allNil tr_numbers_from (by kernel_rfl)
theorem ok_frieze_of (A : HeadOk fn K mg bltn consD) : OkF P w K mg base 4 (Str.ofString "frieze_of") 1 phi_frieze_of := by
  obtain ⟨f, fd, F, hm⟩ := A.d 21 (mkD (Str.ofString "frieze_of") (S 37)) (by rfl)
  exact okF_of (k := 3) F hm sc_frieze_of (F.bindsN (ps := P_frieze_of) fun _ _ _ _ _ _ us hl => match us, hl with | [_], _ => rfl) A.b (allCons ((ok_piece_counts A).mono (by decide)) (allCons ((ok_numbers_from A).mono (by decide)) allNil)) tr_frieze_of (by kernel_rfl)
theorem ok_frieze (A : HeadOk fn K mg bltn consD) : OkF P w K mg base 5 (Str.ofString "frieze") 1 phi_frieze := by
  obtain ⟨f, fd, F, hm⟩ := A.d 22 (mkD (Str.ofString "frieze") (S 38)) (by rfl)
  exact okF_of (k := 4) F hm sc_frieze (F.bindsN (ps := P_frieze) fun _ _ _ _ _ _ us hl => match us, hl with | [_], _ => rfl) A.b (allCons ((ok_need_cutting A).mono (by decide)) (allCons ((ok_frieze_of A).mono (by decide)) allNil)) tr_frieze (by kernel_rfl)
theorem ok_fits_line (A : HeadOk fn K mg bltn consD) : OkF P w K mg base 2 (Str.ofString "fits_line") 2 phi_fits_line := by
  obtain ⟨f, fd, F, hm⟩ := A.d 23 (mkD (Str.ofString "fits_line") (S 45)) (by rfl)
  exact okF_of (k := 1) F hm sc_fits_line (F.bindsN (ps := P_fits_line) fun _ _ _ _ _ _ us hl => match us, hl with | [_, _], _ => rfl) A.b (allCons ((ok_is_whole A).mono (by decide)) allNil) tr_fits_line (by kernel_rfl)
theorem ok_need_line (A : HeadOk fn K mg bltn consD) : OkF P w K mg base 3 (Str.ofString "need_line") 2 phi_need_line := by
  obtain ⟨f, fd, F, hm⟩ := A.d 24 (mkD (Str.ofString "need_line") (S 53)) (by rfl)
  exact okF_of (k := 2) F hm sc_need_line (F.bindsN (ps := P_need_line) fun _ _ _ _ _ _ us hl => match us, hl with | [_, _], _ => rfl) A.b (allCons ((ok_fits_line A).mono (by decide)) allNil) tr_need_line (by kernel_rfl)
theorem ok_need_across (A : HeadOk fn K mg bltn consD) : OkF P w K mg base 5 (Str.ofString "need_across") 2 phi_need_across := by
  obtain ⟨f, fd, F, hm⟩ := A.d 25 (mkD (Str.ofString "need_across") (S 54)) (by rfl)
  exact okF_of (k := 4) F hm sc_need_across (F.bindsN (ps := P_need_across) fun _ _ _ _ _ _ us hl => match us, hl with | [_, _], _ => rfl) A.b (allCons ((ok_need_cutting A).mono (by decide)) (allCons ((ok_need_line A).mono (by decide)) allNil)) tr_need_across (by kernel_rfl)
theorem ok_met_at (A : HeadOk fn K mg bltn consD) : OkF P w K mg base 1 (Str.ofString "met_at") 3 phi_met_at := by
  obtain ⟨f, fd, F, hm⟩ := A.d 26 (mkD (Str.ofString "met_at") (S 46)) (by rfl)
  exact okF_of (k := 0) F hm sc_met_at (F.bindsN (ps := P_met_at) fun _ _ _ _ _ _ us hl => match us, hl with | [_, _, _], _ => rfl) A.b allNil tr_met_at (by kernel_rfl)
theorem ok_cuts_across (A : HeadOk fn K mg bltn consD) : OkF P w K mg base 2 (Str.ofString "cuts_across") 2 phi_cuts_across := by
  obtain ⟨f, fd, F, hm⟩ := A.d 27 (mkD (Str.ofString "cuts_across") (S 47)) (by rfl)
  exact okF_of (k := 1) F hm sc_cuts_across (F.bindsN (ps := P_cuts_across) fun _ _ _ _ _ _ us hl => match us, hl with | [_, _], _ => rfl) A.b (allCons ((ok_met_at A).mono (by decide)) (allCons ((ok_cross A).mono (by decide)) allNil)) tr_cuts_across (by kernel_rfl)
theorem ok_next_corners (A : HeadOk fn K mg bltn consD) : OkF P w K mg base 1 (Str.ofString "next_corners") 2 phi_next_corners := by
  obtain ⟨f, fd, F, hm⟩ := A.d 28 (mkD (Str.ofString "next_corners") (S 49)) (by rfl)
  exact okF_of (k := 0) F hm sc_next_corners (F.bindsN (ps := P_next_corners) fun _ _ _ _ _ _ us hl => match us, hl with | [_, _], _ => rfl) A.b allNil tr_next_corners (by kernel_rfl)
theorem ok_first_corners (A : HeadOk fn K mg bltn consD) : OkF P w K mg base 1 (Str.ofString "first_corners") 3 phi_first_corners := by
  obtain ⟨f, fd, F, hm⟩ := A.d 29 (mkD (Str.ofString "first_corners") (S 48)) (by rfl)
  exact okF_of (k := 0) F hm sc_first_corners (F.bindsN (ps := P_first_corners) fun _ _ _ _ _ _ us hl => match us, hl with | [_, _, _], _ => rfl) A.b allNil tr_first_corners (by kernel_rfl)
theorem ok_thirds_of (A : HeadOk fn K mg bltn consD) : OkF P w K mg base 3 (Str.ofString "thirds_of") 2 phi_thirds_of := by
  obtain ⟨f, fd, F, hm⟩ := A.d 30 (mkD (Str.ofString "thirds_of") (S 18)) (by rfl)
  exact okF_of (k := 2) F hm sc_thirds_of (F.bindsN (ps := P_thirds_of) fun _ _ _ _ _ _ us hl => match us, hl with | [_, _], _ => rfl) A.b (allCons ((ok_near_of A).mono (by decide)) allNil) tr_thirds_of (by kernel_rfl)
theorem ok_tiles_of (A : HeadOk fn K mg bltn consD) : OkF P w K mg base 4 (Str.ofString "tiles_of") 2 phi_tiles_of := by
  obtain ⟨f, fd, F, hm⟩ := A.d 31 (mkD (Str.ofString "tiles_of") (S 50)) (by rfl)
  exact okF_of (k := 3) F hm sc_tiles_of (F.bindsN (ps := P_tiles_of) fun _ _ _ _ _ _ us hl => match us, hl with | [_, _], _ => rfl) A.b (allCons ((ok_cuts_across A).mono (by decide)) (allCons ((ok_next_corners A).mono (by decide)) (allCons ((ok_first_corners A).mono (by decide)) (allCons ((ok_thirds_of A).mono (by decide)) allNil)))) tr_tiles_of (by kernel_rfl)
theorem ok_spots_of (A : HeadOk fn K mg bltn consD) : OkF P w K mg base 1 (Str.ofString "spots_of") 1 phi_spots_of := by
  obtain ⟨f, fd, F, hm⟩ := A.d 32 (mkD (Str.ofString "spots_of") (S 56)) (by rfl)
  exact okF_of (k := 0) F hm sc_spots_of (F.bindsN (ps := P_spots_of) fun _ _ _ _ _ _ us hl => match us, hl with | [_], _ => rfl) A.b allNil tr_spots_of (by kernel_rfl)
theorem ok_rails_at (A : HeadOk fn K mg bltn consD) : OkF P w K mg base 1 (Str.ofString "rails_at") 1 phi_rails_at := by
  obtain ⟨f, fd, F, hm⟩ := A.d 33 (mkD (Str.ofString "rails_at") (S 52)) (by rfl)
  exact okF_of (k := 0) F hm sc_rails_at (F.bindsN (ps := P_rails_at) fun _ _ _ _ _ _ us hl => match us, hl with | [_], _ => rfl) A.b allNil tr_rails_at (by kernel_rfl)
theorem ok_all_rails (A : HeadOk fn K mg bltn consD) : OkF P w K mg base 2 (Str.ofString "all_rails") 1 phi_all_rails := by
  obtain ⟨f, fd, F, hm⟩ := A.d 34 (mkD (Str.ofString "all_rails") (S 57)) (by rfl)
  exact okF_of (k := 1) F hm sc_all_rails (F.bindsN (ps := P_all_rails) fun _ _ _ _ _ _ us hl => match us, hl with | [_], _ => rfl) A.b (allCons ((ok_spots_of A).mono (by decide)) (allCons ((ok_rails_at A).mono (by decide)) allNil)) tr_all_rails (by kernel_rfl)
theorem ok_is_pure (A : HeadOk fn K mg bltn consD) : ∀ k : Nat, OkF P w K mg base (1 + k) (Str.ofString "is_pure") 1 (phi_is_pure k)
  | 0 => by
    obtain ⟨f, fd, F, hm⟩ := A.d 35 (mkD (Str.ofString "is_pure") (S 58)) (by rfl)
    exact okF_zero (st := S 58) F hm (F.bindsN (ps := P_is_pure) fun _ _ _ _ _ _ us hl => match us, hl with | [_], _ => rfl)
  | k + 1 => by
    obtain ⟨f, fd, F, hm⟩ := A.d 35 (mkD (Str.ofString "is_pure") (S 58)) (by rfl)
    have ih := ok_is_pure A k
    exact okF_of (k := 1 + k) F hm sc_is_pure (F.bindsN (ps := P_is_pure) fun _ _ _ _ _ _ us hl => match us, hl with | [_], _ => rfl) A.b (allCons ih allNil) (tr_is_pure k) (by kernel_rfl)
theorem ok_fits_pairing (A : HeadOk fn K mg bltn consD) : OkF P w K mg base 5 (Str.ofString "fits_pairing") 2 phi_fits_pairing := by
  obtain ⟨f, fd, F, hm⟩ := A.d 36 (mkD (Str.ofString "fits_pairing") (S 59)) (by rfl)
  exact okF_of (k := 4) F hm sc_fits_pairing (F.bindsN (ps := P_fits_pairing) fun _ _ _ _ _ _ us hl => match us, hl with | [_, _], _ => rfl) A.b (allCons ((ok_all_rails A).mono (by decide)) (allCons ((ok_rises A).mono (by decide)) (allCons ((ok_is_pure A 3).mono (by decide)) allNil))) tr_fits_pairing (by kernel_rfl)
theorem ok_need_pairing (A : HeadOk fn K mg bltn consD) : OkF P w K mg base 6 (Str.ofString "need_pairing") 2 phi_need_pairing := by
  obtain ⟨f, fd, F, hm⟩ := A.d 37 (mkD (Str.ofString "need_pairing") (S 60)) (by rfl)
  exact okF_of (k := 5) F hm sc_need_pairing (F.bindsN (ps := P_need_pairing) fun _ _ _ _ _ _ us hl => match us, hl with | [_, _], _ => rfl) A.b (allCons ((ok_fits_pairing A).mono (by decide)) allNil) tr_need_pairing (by kernel_rfl)
theorem ok_tiles_for (A : HeadOk fn K mg bltn consD) : OkF P w K mg base 7 (Str.ofString "tiles_for") 3 phi_tiles_for := by
  obtain ⟨f, fd, F, hm⟩ := A.d 38 (mkD (Str.ofString "tiles_for") (S 61)) (by rfl)
  exact okF_of (k := 6) F hm sc_tiles_for (F.bindsN (ps := P_tiles_for) fun _ _ _ _ _ _ us hl => match us, hl with | [_, _, _], _ => rfl) A.b (allCons ((ok_need_across A).mono (by decide)) (allCons ((ok_tiles_of A).mono (by decide)) (allCons ((ok_need_pairing A).mono (by decide)) allNil))) tr_tiles_for (by kernel_rfl)
theorem ok_is_later_first (A : HeadOk fn K mg bltn consD) : OkF P w K mg base 1 (Str.ofString "is_later_first") 2 phi_is_later_first := by
  obtain ⟨f, fd, F, hm⟩ := A.d 39 (mkD (Str.ofString "is_later_first") (S 40)) (by rfl)
  exact okF_of (k := 0) F hm sc_is_later_first (F.bindsN (ps := P_is_later_first) fun _ _ _ _ _ _ us hl => match us, hl with | [_, _], _ => rfl) A.b allNil tr_is_later_first (by kernel_rfl)
theorem ok_rows_added (A : HeadOk fn K mg bltn consD) : OkF P w K mg base 1 (Str.ofString "rows_added") 2 phi_rows_added := by
  obtain ⟨f, fd, F, hm⟩ := A.d 40 (mkD (Str.ofString "rows_added") (S 41)) (by rfl)
  exact okF_of (k := 0) F hm sc_rows_added (F.bindsN (ps := P_rows_added) fun _ _ _ _ _ _ us hl => match us, hl with | [_, _], _ => rfl) A.b allNil tr_rows_added (by kernel_rfl)
theorem ok_level_rows (A : HeadOk fn K mg bltn consD) : OkF P w K mg base 2 (Str.ofString "level_rows") 1 phi_level_rows := by
  obtain ⟨f, fd, F, hm⟩ := A.d 41 (mkD (Str.ofString "level_rows") (S 42)) (by rfl)
  exact okF_of (k := 1) F hm sc_level_rows (F.bindsN (ps := P_level_rows) fun _ _ _ _ _ _ us hl => match us, hl with | [_], _ => rfl) A.b (allCons ((ok_is_later_first A).mono (by decide)) (allCons ((ok_rows_added A).mono (by decide)) allNil)) tr_level_rows (by kernel_rfl)
theorem ok_tally_by (A : HeadOk fn K mg bltn consD) : OkF P w K mg base 3 (Str.ofString "tally_by") 1 phi_tally_by := by
  obtain ⟨f, fd, F, hm⟩ := A.d 42 (mkD (Str.ofString "tally_by") (S 43)) (by rfl)
  exact okF_of (k := 2) F hm sc_tally_by (F.bindsN (ps := P_tally_by) fun _ _ _ _ _ _ us hl => match us, hl with | [_], _ => rfl) A.b (allCons ((ok_level_rows A).mono (by decide)) allNil) tr_tally_by (by kernel_rfl)
theorem ok_words_of (A : HeadOk fn K mg bltn consD) : OkF P w K mg base 1 (Str.ofString "words_of") 1 phi_words_of := by
  obtain ⟨f, fd, F, hm⟩ := A.d 43 (mkD (Str.ofString "words_of") (S 51)) (by rfl)
  exact okF_of (k := 0) F hm sc_words_of (F.bindsN (ps := P_words_of) fun _ _ _ _ _ _ us hl => match us, hl with | [_], _ => rfl) A.b allNil tr_words_of (by kernel_rfl)
theorem ok_count_pairings (A : HeadOk fn K mg bltn consD) : OkF P w K mg base 8 (Str.ofString "count_pairings") 2 phi_count_pairings := by
  obtain ⟨f, fd, F, hm⟩ := A.d 44 (mkD (Str.ofString "count_pairings") (S 62)) (by rfl)
  exact okF_of (k := 7) F hm sc_count_pairings (F.bindsN (ps := P_count_pairings) fun _ _ _ _ _ _ us hl => match us, hl with | [_, _], _ => rfl) A.b (allCons ((ok_tiles_for A).mono (by decide)) (allCons ((ok_tally_by A).mono (by decide)) (allCons ((ok_words_of A).mono (by decide)) allNil))) tr_count_pairings (by kernel_rfl)
theorem ok__law_number_across (A : HeadOk fn K mg bltn consD) : OkF P w K mg base 1 (Str.ofString "_law_number_across") 4 phi__law_number_across := by
  obtain ⟨f, fd, F, hm⟩ := A.d 45 (mkD (Str.ofString "_law_number_across") (S 80)) (by rfl)
  exact okF_of (k := 0) F hm sc__law_number_across (F.bindsN (ps := P__law_number_across) fun _ _ _ _ _ _ us hl => match us, hl with | [_, _, _, _], _ => rfl) A.b allNil tr__law_number_across (by kernel_rfl)
theorem ok_is_cutting (A : HeadOk fn K mg bltn consD) : OkF P w K mg base 4 (Str.ofString "is_cutting") 1 phi_is_cutting := by
  obtain ⟨f, fd, F, hm⟩ := A.d 46 (mkD (Str.ofString "is_cutting") (S 22)) (by rfl)
  exact okF_of (k := 3) F hm sc_is_cutting (F.bindsN (ps := P_is_cutting) fun _ _ _ _ _ _ us hl => match us, hl with | [_], _ => rfl) A.b (allCons ((ok_fits_cutting A).mono (by decide)) allNil) tr_is_cutting (by kernel_rfl)
theorem ok_need_few (A : HeadOk fn K mg bltn consD) : OkF P w K mg base 1 (Str.ofString "need_few") 2 phi_need_few := by
  obtain ⟨f, fd, F, hm⟩ := A.d 47 (mkD (Str.ofString "need_few") (S 21)) (by rfl)
  exact okF_of (k := 0) F hm sc_need_few (F.bindsN (ps := P_need_few) fun _ _ _ _ _ _ us hl => match us, hl with | [_, _], _ => rfl) A.b allNil tr_need_few (by kernel_rfl)
theorem ok_need_small_cutting (A : HeadOk fn K mg bltn consD) : OkF P w K mg base 5 (Str.ofString "need_small_cutting") 1 phi_need_small_cutting := by
  obtain ⟨f, fd, F, hm⟩ := A.d 48 (mkD (Str.ofString "need_small_cutting") (S 32)) (by rfl)
  exact okF_of (k := 4) F hm sc_need_small_cutting (F.bindsN (ps := P_need_small_cutting) fun _ _ _ _ _ _ us hl => match us, hl with | [_], _ => rfl) A.b (allCons ((ok_need_cutting A).mono (by decide)) (allCons ((ok_need_few A).mono (by decide)) allNil)) tr_need_small_cutting (by kernel_rfl)
theorem ok_tree_between (A : HeadOk fn K mg bltn consD) : ∀ k : Nat, OkF P w K mg base (4 + k) (Str.ofString "tree_between") 3 (phi_tree_between k)
  | 0 => by
    obtain ⟨f, fd, F, hm⟩ := A.d 49 (mkD (Str.ofString "tree_between") (S 29)) (by rfl)
    exact okF_zero (st := S 29) F hm (F.bindsN (ps := P_tree_between) fun _ _ _ _ _ _ us hl => match us, hl with | [_, _, _], _ => rfl)
  | k + 1 => by
    obtain ⟨f, fd, F, hm⟩ := A.d 49 (mkD (Str.ofString "tree_between") (S 29)) (by rfl)
    have ih := ok_tree_between A k
    exact okF_of (k := 4 + k) F hm sc_tree_between (F.bindsN (ps := P_tree_between) fun _ _ _ _ _ _ us hl => match us, hl with | [_, _, _], _ => rfl) A.b (allCons ih (allCons ((ok_thirds_of A).mono (by omega)) allNil)) (tr_tree_between k) (by kernel_rfl)
theorem ok_tree_of (A : HeadOk fn K mg bltn consD) : OkF P w K mg base 15 (Str.ofString "tree_of") 1 phi_tree_of := by
  obtain ⟨f, fd, F, hm⟩ := A.d 50 (mkD (Str.ofString "tree_of") (S 33)) (by rfl)
  exact okF_of (k := 14) F hm sc_tree_of (F.bindsN (ps := P_tree_of) fun _ _ _ _ _ _ us hl => match us, hl with | [_], _ => rfl) A.b (allCons ((ok_need_small_cutting A).mono (by decide)) (allCons ((ok_tree_between A 10).mono (by decide)) allNil)) tr_tree_of (by kernel_rfl)
theorem ok_counts_at (A : HeadOk fn K mg bltn consD) : OkF P w K mg base 5 (Str.ofString "counts_at") 1 phi_counts_at := by
  obtain ⟨f, fd, F, hm⟩ := A.d 51 (mkD (Str.ofString "counts_at") (S 23)) (by rfl)
  exact okF_of (k := 4) F hm sc_counts_at (F.bindsN (ps := P_counts_at) fun _ _ _ _ _ _ us hl => match us, hl with | [_], _ => rfl) A.b (allCons ((ok_need_cutting A).mono (by decide)) (allCons ((ok_piece_counts A).mono (by decide)) allNil)) tr_counts_at (by kernel_rfl)
theorem ok_gathered (A : HeadOk fn K mg bltn consD) : OkF P w K mg base 1 (Str.ofString "gathered") 1 phi_gathered := by
  obtain ⟨f, fd, F, hm⟩ := A.d 52 (mkD (Str.ofString "gathered") (S 67)) (by rfl)
  exact okF_of (k := 0) F hm sc_gathered (F.bindsN (ps := P_gathered) fun _ _ _ _ _ _ us hl => match us, hl with | [_], _ => rfl) A.b allNil tr_gathered (by kernel_rfl)
theorem ok_all_pieces (A : HeadOk fn K mg bltn consD) : OkF P w K mg base 3 (Str.ofString "all_pieces") 1 phi_all_pieces := by
  obtain ⟨f, fd, F, hm⟩ := A.d 53 (mkD (Str.ofString "all_pieces") (S 17)) (by rfl)
  exact okF_of (k := 2) F hm sc_all_pieces (F.bindsN (ps := P_all_pieces) fun _ _ _ _ _ _ us hl => match us, hl with | [_], _ => rfl) A.b (allCons ((ok_all_ties A).mono (by decide)) (allCons ((ok_near_of A).mono (by decide)) allNil)) tr_all_pieces (by kernel_rfl)
theorem ok_greatest_blocks (A : HeadOk fn K mg bltn consD) : OkF P w K mg base 4 (Str.ofString "greatest_blocks") 1 phi_greatest_blocks := by
  obtain ⟨f, fd, F, hm⟩ := A.d 54 (mkD (Str.ofString "greatest_blocks") (S 69)) (by rfl)
  exact okF_of (k := 3) F hm sc_greatest_blocks (F.bindsN (ps := P_greatest_blocks) fun _ _ _ _ _ _ us hl => match us, hl with | [_], _ => rfl) A.b (allCons ((ok_gathered A).mono (by decide)) (allCons ((ok_all_pieces A).mono (by decide)) allNil)) tr_greatest_blocks (by kernel_rfl)
theorem ok_parting_of (A : HeadOk fn K mg bltn consD) : OkF P w K mg base 5 (Str.ofString "parting_of") 1 phi_parting_of := by
  obtain ⟨f, fd, F, hm⟩ := A.d 55 (mkD (Str.ofString "parting_of") (S 70)) (by rfl)
  exact okF_of (k := 4) F hm sc_parting_of (F.bindsN (ps := P_parting_of) fun _ _ _ _ _ _ us hl => match us, hl with | [_], _ => rfl) A.b (allCons ((ok_need_cutting A).mono (by decide)) (allCons ((ok_greatest_blocks A).mono (by decide)) allNil)) tr_parting_of (by kernel_rfl)
theorem ok__law_ties (A : HeadOk fn K mg bltn consD) : OkF P w K mg base 1 (Str.ofString "_law_ties") 1 phi__law_ties := by
  obtain ⟨f, fd, F, hm⟩ := A.d 56 (mkD (Str.ofString "_law_ties") (S 76)) (by rfl)
  exact okF_of (k := 0) F hm sc__law_ties (F.bindsN (ps := P__law_ties) fun _ _ _ _ _ _ us hl => match us, hl with | [_], _ => rfl) A.b allNil tr__law_ties (by kernel_rfl)
theorem ok__law_is_last (A : HeadOk fn K mg bltn consD) : OkF P w K mg base 2 (Str.ofString "_law_is_last") 2 phi__law_is_last := by
  obtain ⟨f, fd, F, hm⟩ := A.d 57 (mkD (Str.ofString "_law_is_last") (S 79)) (by rfl)
  exact okF_of (k := 1) F hm sc__law_is_last (F.bindsN (ps := P__law_is_last) fun _ _ _ _ _ _ us hl => match us, hl with | [_, _], _ => rfl) A.b (allCons ((ok__law_ties A).mono (by decide)) allNil) tr__law_is_last (by kernel_rfl)
theorem ok__law_blocks (A : HeadOk fn K mg bltn consD) : OkF P w K mg base 3 (Str.ofString "_law_blocks") 4 phi__law_blocks := by
  obtain ⟨f, fd, F, hm⟩ := A.d 58 (mkD (Str.ofString "_law_blocks") (S 78)) (by rfl)
  exact okF_of (k := 2) F hm sc__law_blocks (F.bindsN (ps := P__law_blocks) fun _ _ _ _ _ _ us hl => match us, hl with | [_, _, _, _], _ => rfl) A.b (allCons ((ok__law_is_last A).mono (by decide)) allNil) tr__law_blocks (by kernel_rfl)
theorem ok__law_right (A : HeadOk fn K mg bltn consD) : OkF P w K mg base 22 (Str.ofString "_law_right") 2 phi__law_right := by
  obtain ⟨f, fd, F, hm⟩ := A.d 59 (mkD (Str.ofString "_law_right") (S 81)) (by rfl)
  exact okF_of (k := 21) F hm sc__law_right (F.bindsN (ps := P__law_right) fun _ _ _ _ _ _ us hl => match us, hl with | [_, _], _ => rfl) A.b (allCons ((ok__law_both A).mono (by decide)) (allCons ((ok_mountain A).mono (by decide)) (allCons ((ok_reaches A).mono (by decide)) (allCons ((ok_frieze A).mono (by decide)) (allCons ((ok_count_pairings A).mono (by decide)) (allCons ((ok__law_number_across A).mono (by decide)) (allCons ((ok_is_cutting A).mono (by decide)) (allCons ((ok_tree_of A).mono (by decide)) (allCons ((ok_counts_at A).mono (by decide)) (allCons ((ok_parting_of A).mono (by decide)) (allCons ((ok__law_blocks A).mono (by decide)) allNil))))))))))) tr__law_right (by kernel_rfl)
theorem ok__law_roll (A : HeadOk fn K mg bltn consD) : OkF P w K mg base 1 (Str.ofString "_law_roll") 2 phi__law_roll := by
  obtain ⟨f, fd, F, hm⟩ := A.d 60 (mkD (Str.ofString "_law_roll") (S 73)) (by rfl)
  exact okF_of (k := 0) F hm sc__law_roll (F.bindsN (ps := P__law_roll) fun _ _ _ _ _ _ us hl => match us, hl with | [_, _], _ => rfl) A.b allNil tr__law_roll (by kernel_rfl)
theorem ok__law_cuts (A : HeadOk fn K mg bltn consD) : ∀ k : Nat, OkF P w K mg base (2 + k) (Str.ofString "_law_cuts") 3 (phi__law_cuts k)
  | 0 => by
    obtain ⟨f, fd, F, hm⟩ := A.d 61 (mkD (Str.ofString "_law_cuts") (S 74)) (by rfl)
    exact okF_zero (st := S 74) F hm (F.bindsN (ps := P__law_cuts) fun _ _ _ _ _ _ us hl => match us, hl with | [_, _, _], _ => rfl)
  | k + 1 => by
    obtain ⟨f, fd, F, hm⟩ := A.d 61 (mkD (Str.ofString "_law_cuts") (S 74)) (by rfl)
    have ih := ok__law_cuts A k
    exact okF_of (k := 2 + k) F hm sc__law_cuts (F.bindsN (ps := P__law_cuts) fun _ _ _ _ _ _ us hl => match us, hl with | [_, _, _], _ => rfl) A.b (allCons ((ok__law_roll A).mono (by omega)) (allCons ih allNil)) (tr__law_cuts k) (by kernel_rfl)
theorem ok__law_cutting (A : HeadOk fn K mg bltn consD) : OkF P w K mg base 9 (Str.ofString "_law_cutting") 3 phi__law_cutting := by
  obtain ⟨f, fd, F, hm⟩ := A.d 62 (mkD (Str.ofString "_law_cutting") (S 75)) (by rfl)
  exact okF_of (k := 8) F hm sc__law_cutting (F.bindsN (ps := P__law_cutting) fun _ _ _ _ _ _ us hl => match us, hl with | [_, _, _], _ => rfl) A.b (allCons ((ok__law_roll A).mono (by decide)) (allCons ((ok__law_cuts A 6).mono (by decide)) allNil)) tr__law_cutting (by kernel_rfl)
theorem ok_law (A : HeadOk fn K mg bltn consD) : OkF P w K mg base 23 (Str.ofString "law") 1 phi_law := by
  obtain ⟨f, fd, F, hm⟩ := A.d 63 (mkD (Str.ofString "law") (S 82)) (by rfl)
  exact okF_of (k := 22) F hm sc_law (F.bindsN (ps := P_law) fun _ _ _ _ _ _ us hl => match us, hl with | [_], _ => rfl) A.b (allCons ((ok__law_cup A).mono (by decide)) (allCons ((ok__law_right A).mono (by decide)) (allCons ((ok__law_cutting A).mono (by decide)) allNil))) tr_law (by kernel_rfl)
theorem law_fn (A : HeadOk fn K mg bltn consD) {f : Addr} {fd : FuncData} (F : FunD K (Str.ofString "law") (Str.ofString "law") (defArgs (S 82)) (defBody (S 82)) (defScope (S 82)) [] [] f fd) : FnOk P w K mg base CX0 23 f fd P_law (spD K 1 phi_law) := by
  have h := def_okF (P := P) (w := w) (base := base) (k := 22) F sc_law A.b (allCons ((ok__law_cup A).mono (by decide)) (allCons ((ok__law_right A).mono (by decide)) (allCons ((ok__law_cutting A).mono (by decide)) allNil))) tr_law
  have e : gate [false] (defD N_law.length ((fun Φ => b_law (Φ (Str.ofString "_law_cup")) (Φ (Str.ofString "_law_right")) (Φ (Str.ofString "_law_cutting"))) l_law.phi)) = phi_law := by kernel_rfl
  exact e ▸ h
end

end Ev.Lw
end
/-! ## Hk81 -/
section
set_option Elab.async false
set_option linter.all false
set_option maxRecDepth 100000
set_option maxHeartbeats 0
open PySem L2 Ev
namespace Ev.Lw
/-! ### the head -/
def loose0 : List Str := [(Str.ofString "WorldError"), (Str.ofString "InvalidCutting"), (Str.ofString "InvalidLine"), (Str.ofString "InvalidPairing"), (Str.ofString "InvalidTree"), (Str.ofString "TooMany"), (Str.ofString "MOST"), (Str.ofString "is_whole"), (Str.ofString "are_next"), (Str.ofString "fits_cut"), (Str.ofString "cross"), (Str.ofString "rises"), (Str.ofString "fits_cutting"), (Str.ofString "all_ties"), (Str.ofString "near_of"), (Str.ofString "all_pieces"), (Str.ofString "thirds_of"), (Str.ofString "piece_counts"), (Str.ofString "need_cutting"), (Str.ofString "need_few"), (Str.ofString "is_cutting"), (Str.ofString "counts_at"), (Str.ofString "MOST_FORKS"), (Str.ofString "tree_size"), (Str.ofString "fits_tree"), (Str.ofString "fork_count"), (Str.ofString "tree_between"), (Str.ofString "reaches_of"), (Str.ofString "need_tree"), (Str.ofString "need_small_cutting")]
def loose1 : List Str := [(Str.ofString "tree_of"), (Str.ofString "reaches"), (Str.ofString "numbers_from"), (Str.ofString "frieze_of"), (Str.ofString "frieze"), (Str.ofString "is_later_first"), (Str.ofString "rows_added"), (Str.ofString "level_rows"), (Str.ofString "tally_by"), (Str.ofString "fits_line"), (Str.ofString "met_at"), (Str.ofString "cuts_across"), (Str.ofString "first_corners"), (Str.ofString "next_corners"), (Str.ofString "tiles_of"), (Str.ofString "words_of"), (Str.ofString "rails_at"), (Str.ofString "need_line"), (Str.ofString "need_across"), (Str.ofString "spots_of"), (Str.ofString "all_rails"), (Str.ofString "is_pure"), (Str.ofString "fits_pairing"), (Str.ofString "need_pairing"), (Str.ofString "tiles_for"), (Str.ofString "count_pairings"), (Str.ofString "mountain_of"), (Str.ofString "mountain"), (Str.ofString "gathered"), (Str.ofString "greatest_blocks")]
def loose2 : List Str := [(Str.ofString "parting_of"), (Str.ofString "_law_cup"), (Str.ofString "_law_roll"), (Str.ofString "_law_cuts"), (Str.ofString "_law_cutting"), (Str.ofString "_law_ties"), (Str.ofString "_law_both"), (Str.ofString "_law_blocks"), (Str.ofString "_law_is_last"), (Str.ofString "_law_number_across"), (Str.ofString "_law_right")]
def loose : List Str := loose0 ++ (loose1 ++ (loose2))
def fa : List He.Fa := gloFa fn ++ (freeFa bltn ++ conFa cons)
abbrev R : PySem.W.OpenRow := PySem.W.OpenLaw.row PySem.Challenge.rw_eightworlds_k81_whole_two_above_one_piec
abbrev hk : PySem.W.Hook := He.hookD 2 fa fn
def ob (s : PySem.W.SharedT) : He.AlD := He.obsDG 2 fa fn (HandSHeadRun.getT s)
theorem ob_eq (s : PySem.W.SharedT) : ob s = hk.obs s.abs := He.obsDG_eq (HandSHeadRun.getT_eq s)
theorem run (w : World) : HandSHeadRun.RunEq R (PySem.W.view R.prog [82]) hk ob 20000 loose w := by
  intro os
  kernel_rfl
theorem fn_mk : ∀ d ∈ fn, ∃ x st, d = mkD x st := (allCons ⟨_, _, rfl⟩ (allCons ⟨_, _, rfl⟩ (allCons ⟨_, _, rfl⟩ (allCons ⟨_, _, rfl⟩ (allCons ⟨_, _, rfl⟩ (allCons ⟨_, _, rfl⟩ (allCons ⟨_, _, rfl⟩ (allCons ⟨_, _, rfl⟩ (allCons ⟨_, _, rfl⟩ (allCons ⟨_, _, rfl⟩ (allCons ⟨_, _, rfl⟩ (allCons ⟨_, _, rfl⟩ (allCons ⟨_, _, rfl⟩ (allCons ⟨_, _, rfl⟩ (allCons ⟨_, _, rfl⟩ (allCons ⟨_, _, rfl⟩ (allCons ⟨_, _, rfl⟩ (allCons ⟨_, _, rfl⟩ (allCons ⟨_, _, rfl⟩ (allCons ⟨_, _, rfl⟩ (allCons ⟨_, _, rfl⟩ (allCons ⟨_, _, rfl⟩ (allCons ⟨_, _, rfl⟩ (allCons ⟨_, _, rfl⟩ (allCons ⟨_, _, rfl⟩ (allCons ⟨_, _, rfl⟩ (allCons ⟨_, _, rfl⟩ (allCons ⟨_, _, rfl⟩ (allCons ⟨_, _, rfl⟩ (allCons ⟨_, _, rfl⟩ (allCons ⟨_, _, rfl⟩ (allCons ⟨_, _, rfl⟩ (allCons ⟨_, _, rfl⟩ (allCons ⟨_, _, rfl⟩ (allCons ⟨_, _, rfl⟩ (allCons ⟨_, _, rfl⟩ (allCons ⟨_, _, rfl⟩ (allCons ⟨_, _, rfl⟩ (allCons ⟨_, _, rfl⟩ (allCons ⟨_, _, rfl⟩ (allCons ⟨_, _, rfl⟩ (allCons ⟨_, _, rfl⟩ (allCons ⟨_, _, rfl⟩ (allCons ⟨_, _, rfl⟩ (allCons ⟨_, _, rfl⟩ (allCons ⟨_, _, rfl⟩ (allCons ⟨_, _, rfl⟩ (allCons ⟨_, _, rfl⟩ (allCons ⟨_, _, rfl⟩ (allCons ⟨_, _, rfl⟩ (allCons ⟨_, _, rfl⟩ (allCons ⟨_, _, rfl⟩ (allCons ⟨_, _, rfl⟩ (allCons ⟨_, _, rfl⟩ (allCons ⟨_, _, rfl⟩ (allCons ⟨_, _, rfl⟩ (allCons ⟨_, _, rfl⟩ (allCons ⟨_, _, rfl⟩ (allCons ⟨_, _, rfl⟩ (allCons ⟨_, _, rfl⟩ (allCons ⟨_, _, rfl⟩ (allCons ⟨_, _, rfl⟩ (allCons ⟨_, _, rfl⟩ (allCons ⟨_, _, rfl⟩ allNil))))))))))))))))))))))))))))))))))))))))))))))))))))))))))))))))
def LV : Nat := 23
def TOP : Nat := 82
-- order: _law_cup _law_both tree_size fits_tree need_tree mountain_of mountain fork_count reaches_of reaches rises is_whole are_next fits_cut cross fits_cutting need_cutting all_ties near_of piece_counts numbers_from frieze_of frieze fits_line need_line need_across met_at cuts_across next_corners first_corners thirds_of tiles_of spots_of rails_at all_rails is_pure fits_pairing need_pairing tiles_for is_later_first rows_added level_rows tally_by words_of count_pairings _law_number_across is_cutting need_few need_small_cutting tree_between tree_of counts_at gathered all_pieces greatest_blocks parting_of _law_ties _law_is_last _law_blocks _law_right _law_roll _law_cuts _law_cutting law

end Ev.Lw
end
/-! ## Kk81 -/
noncomputable section
set_option Elab.async false
set_option linter.all false
set_option maxRecDepth 100000
set_option maxHeartbeats 0
open PySem L2 Ev
namespace Ev.Lw
def kb__law_cup : KS :=
    (ksSeq (ksAsg (nat_lit 1) (kUnX (q1 pAbs) (kBinXL tIx (kBinXX tAdd (kUnS tLst (nat_lit 0)) (kLst (kvCons (wOf (kLit (.int (Int.ofNat (nat_lit 0))))) kvNil))) (.int (Int.ofNat (nat_lit 0)))))) (ksSeq (ksAsg (nat_lit 2) (kIf (ktBool (kBinSX tGeX (nat_lit 1) (kBinXL (q2 pPowI) (kLit (.int (Int.ofNat (nat_lit 10)))) (.int (Int.ofNat (nat_lit 18)))))) (kBinSL tDiv (nat_lit 1) (.int (Int.ofNat (nat_lit 11)))) (kLit (.int (Int.ofNat (nat_lit 0)))))) (ksSeq (ksRet (kLst (kvCons (wOf (kVar (nat_lit 2))) (kvCons (wOf (kBinXL tAdd (kBinXL tMod (kUnX (q1 pInt) (kBinXL tAdd (kBinSL tMul (nat_lit 1) (.int (Int.ofNat (nat_lit 193)))) (.int (Int.ofNat (nat_lit 1201))))) (.int (Int.ofNat (nat_lit 2077504273)))) (.int (Int.ofNat (nat_lit 89))))) kvNil)))) ksNext)))
theorem okb__law_cup  : SS (b__law_cup) (kb__law_cup) := by
  unfold b__law_cup kb__law_cup
  exact (ssSeq (ssAsg _ (sUnX (s1 pAbs) (sBinXL _ stIx (sBinXX stAdd (sUnS _ stLst) (sLst (svCons (sOf (sLit _)) svNil)))))) (ssSeq (ssAsg _ (sIf (stBool (sBinSX _ stGeX (sBinXL _ (s2 pPowI) (sLit _)))) (sBinSL _ _ stDiv) (sLit _))) (ssSeq (ssRet (sLst (svCons (sOf (sVar _)) (svCons (sOf (sBinXL _ stAdd (sBinXL _ stMod (sUnX (s1 pInt) (sBinXL _ stAdd (sBinSL _ _ stMul)))))) svNil)))) ssNext)))
def kphi__law_cup : KC := kDefV (nat_lit 1) [none, none] kb__law_cup
theorem sphi__law_cup : SC phi__law_cup kphi__law_cup := sDefV rfl rfl (okb__law_cup)
def kb__law_both : KS :=
    (ksSeq (ksUnp (.tup [(nat_lit 3), (nat_lit 4)]) (wOf (kTup (kvCons (wOf (kBinXL tSub (kBinSL tIx (nat_lit 0) (.int (Int.ofNat (nat_lit 0)))) (.int (Int.ofNat (nat_lit 1))))) (kvCons (wOf (kBinXL tSub (kBinXX tAdd (kBinSL tIx (nat_lit 0) (.int (Int.ofNat (nat_lit 0)))) (kBinSL tIx (nat_lit 1) (.int (Int.ofNat (nat_lit 0))))) (.int (Int.ofNat (nat_lit 2))))) kvNil))))) (ksSeq (ksAsg (nat_lit 2) (kBinXX tAdd (kBinXX tAdd (kUnX tLst (kBinSL tIx (nat_lit 0) (.int (Int.ofNat (nat_lit 1))))) (kLc (kiSeqS (wOf (kBinSL tIx (nat_lit 1) (.int (Int.ofNat (nat_lit 1)))))) (.tup [(nat_lit 5), (nat_lit 6)]) ktYes (wOf (kTup (kvCons (wOf (kBinSS tAdd (nat_lit 5) (nat_lit 3))) (kvCons (wOf (kBinSS tAdd (nat_lit 6) (nat_lit 3))) kvNil)))) [(nat_lit 5), (nat_lit 6)])) (kLst (kvCons (wOf (kTup (kvCons (wOf (kLit (.int (Int.ofNat (nat_lit 0))))) (kvCons (wOf (kVar (nat_lit 3))) kvNil)))) (kvCons (wOf (kTup (kvCons (wOf (kVar (nat_lit 3))) (kvCons (wOf (kVar (nat_lit 4))) kvNil)))) kvNil))))) (ksSeq (ksRet (kTup (kvCons (wOf (kBinSL tAdd (nat_lit 4) (.int (Int.ofNat (nat_lit 1))))) (kvCons (wOf (kUnX tTup (kUnX (q1 pSorted) (kLc (kiSeqS (wOf (kVar (nat_lit 2)))) (.name (nat_lit 7)) (ktBool (kBinXL tGtX (kBinXX tSub (kBinSL tIx (nat_lit 7) (.int (Int.ofNat (nat_lit 1)))) (kBinSL tIx (nat_lit 7) (.int (Int.ofNat (nat_lit 0))))) (.int (Int.ofNat (nat_lit 1))))) (wOf (kVar (nat_lit 7))) [(nat_lit 7)])))) kvNil)))) ksNext)))
theorem okb__law_both  : SS (b__law_both) (kb__law_both) := by
  unfold b__law_both kb__law_both
  exact (ssSeq (ssUnp _ (sOf (sTup (svCons (sOf (sBinXL _ stSub (sBinSL _ _ stIx))) (svCons (sOf (sBinXL _ stSub (sBinXX stAdd (sBinSL _ _ stIx) (sBinSL _ _ stIx)))) svNil))))) (ssSeq (ssAsg _ (sBinXX stAdd (sBinXX stAdd (sUnX stLst (sBinSL _ _ stIx)) (sLc (siSeqS (sOf (sBinSL _ _ stIx))) stYes (sOf (sTup (svCons (sOf (sBinSS _ _ stAdd)) (svCons (sOf (sBinSS _ _ stAdd)) svNil)))))) (sLst (svCons (sOf (sTup (svCons (sOf (sLit _)) (svCons (sOf (sVar _)) svNil)))) (svCons (sOf (sTup (svCons (sOf (sVar _)) (svCons (sOf (sVar _)) svNil)))) svNil))))) (ssSeq (ssRet (sTup (svCons (sOf (sBinSL _ _ stAdd)) (svCons (sOf (sUnX stTup (sUnX (s1 pSorted) (sLc (siSeqS (sOf (sVar _))) (stBool (sBinXL _ stGtX (sBinXX stSub (sBinSL _ _ stIx) (sBinSL _ _ stIx)))) (sOf (sVar _)))))) svNil)))) ssNext)))
def kphi__law_both : KC := kDefV (nat_lit 2) [none, none, none, none, none, none] kb__law_both
theorem sphi__law_both : SC phi__law_both kphi__law_both := sDefV rfl rfl (okb__law_both)
def kb_tree_size (g_tree_size : KC) : KS :=
    (ksSeq (ksIf (ktOr (ktNot (ktTruth (koOf (kIsi .tuple (koSlot (nat_lit 0)))))) (ktOr (ktBool (kBinXX tNotIn (kUnS tLen (nat_lit 0)) (kTup (kvCons (wOf (kLit (.int (Int.ofNat (nat_lit 0))))) (kvCons (wOf (kLit (.int (Int.ofNat (nat_lit 2))))) kvNil))))) (ktAnd (ktBool (kBinSX tNe (nat_lit 0) (kTup kvNil))) (ktBool (kBinSL tEq (nat_lit 1) (.int (Int.ofNat (nat_lit 0)))))))) (ksSeq (ksRet (kLit .none)) ksNext) ksNext) (ksSeq (ksIf (ktBool (kBinSX tEq (nat_lit 0) (kTup kvNil))) (ksSeq (ksRet (kLit (.int (Int.ofNat (nat_lit 0))))) ksNext) ksNext) (ksSeq (ksAsg (nat_lit 2) (kCall g_tree_size (kaCons (wOf (kBinSL tIx (nat_lit 0) (.int (Int.ofNat (nat_lit 0))))) (kaCons (wOf (kBinSL tSub (nat_lit 1) (.int (Int.ofNat (nat_lit 1))))) kaNil)))) (ksSeq (ksAsg (nat_lit 3) (kIf (ktBool (kBinSL (q2 qIs) (nat_lit 2) .none)) (kLit .none) (kCall g_tree_size (kaCons (wOf (kBinSL tIx (nat_lit 0) (.int (Int.ofNat (nat_lit 1))))) (kaCons (wOf (kBinXS tSub (kBinSL tSub (nat_lit 1) (.int (Int.ofNat (nat_lit 1)))) (nat_lit 2))) kaNil))))) (ksSeq (ksRet (kIf (ktBool (kBinSL (q2 qIs) (nat_lit 3) .none)) (kLit .none) (kBinXL tAdd (kBinSS tAdd (nat_lit 2) (nat_lit 3)) (.int (Int.ofNat (nat_lit 1)))))) ksNext)))))
theorem okb_tree_size {phi_tree_size : CallD} {g_tree_size : KC} (h_tree_size : SC phi_tree_size g_tree_size) : SS (b_tree_size phi_tree_size) (kb_tree_size g_tree_size) := by
  unfold b_tree_size kb_tree_size
  exact (ssSeq (ssIf (stOr (stNot (stTruth (soOf (sIsi _ (soSlot _))))) (stOr (stBool (sBinXX stNotIn (sUnS _ stLen) (sTup (svCons (sOf (sLit _)) (svCons (sOf (sLit _)) svNil))))) (stAnd (stBool (sBinSX _ stNe (sTup svNil))) (stBool (sBinSL _ _ stEq))))) (ssSeq (ssRet (sLit _)) ssNext) ssNext) (ssSeq (ssIf (stBool (sBinSX _ stEq (sTup svNil))) (ssSeq (ssRet (sLit _)) ssNext) ssNext) (ssSeq (ssAsg _ (sCall h_tree_size (saCons (sOf (sBinSL _ _ stIx)) (saCons (sOf (sBinSL _ _ stSub)) saNil)))) (ssSeq (ssAsg _ (sIf (stBool (sBinSL _ _ (s2 qIs))) (sLit _) (sCall h_tree_size (saCons (sOf (sBinSL _ _ stIx)) (saCons (sOf (sBinXS _ stSub (sBinSL _ _ stSub))) saNil))))) (ssSeq (ssRet (sIf (stBool (sBinSL _ _ (s2 qIs))) (sLit _) (sBinXL _ stAdd (sBinSS _ _ stAdd)))) ssNext)))))
def kphi_tree_size (n : Nat) : KC := @Nat.rec (fun _ => KC) kNo (fun _ ih => kDefV (nat_lit 2) [none, none] (kb_tree_size ih)) n
theorem sphi_tree_size : ∀ n : Nat, SC (phi_tree_size n) (kphi_tree_size n)
  | 0 => sNo
  | n + 1 => sDefV rfl rfl (okb_tree_size (sphi_tree_size n))
def kb_fits_tree (g_tree_size : KC) : KS :=
    (ksSeq (ksRet (kBinXL (q2 qNot) (kCall g_tree_size (kaCons (wOf (kVar (nat_lit 0))) (kaCons (wOf (kLit (.int (Int.ofNat (nat_lit 24))))) kaNil))) .none)) ksNext)
theorem okb_fits_tree {phi_tree_size : CallD} {g_tree_size : KC} (h_tree_size : SC phi_tree_size g_tree_size) : SS (b_fits_tree phi_tree_size) (kb_fits_tree g_tree_size) := by
  unfold b_fits_tree kb_fits_tree
  exact (ssSeq (ssRet (sBinXL _ (s2 qNot) (sCall h_tree_size (saCons (sOf (sVar _)) (saCons (sOf (sLit _)) saNil))))) ssNext)
def kphi_fits_tree : KC := kDefV (nat_lit 1) [] (kb_fits_tree (kphi_tree_size (nat_lit 10)))
theorem sphi_fits_tree : SC phi_fits_tree kphi_fits_tree := sDefV rfl rfl (okb_fits_tree (sphi_tree_size 10))
def kb_need_tree (g_fits_tree : KC) : KS :=
    (ksSeq (ksIf (ktNot (ktTruth (koOf (kCall g_fits_tree (kaCons (wOf (kVar (nat_lit 0))) kaNil))))) (ksSeq ksStuck ksNext) ksNext) ksNext)
theorem okb_need_tree {phi_fits_tree : CallD} {g_fits_tree : KC} (h_fits_tree : SC phi_fits_tree g_fits_tree) : SS (b_need_tree phi_fits_tree) (kb_need_tree g_fits_tree) := by
  unfold b_need_tree kb_need_tree
  exact (ssSeq (ssIf (stNot (stTruth (soOf (sCall h_fits_tree (saCons (sOf (sVar _)) saNil))))) (ssSeq ssStuck ssNext) ssNext) ssNext)
def kphi_need_tree : KC := kDefV (nat_lit 1) [] (kb_need_tree kphi_fits_tree)
theorem sphi_need_tree : SC phi_need_tree kphi_need_tree := sDefV rfl rfl (okb_need_tree sphi_fits_tree)
def kb_mountain_of (g_mountain_of : KC) : KS :=
    (ksSeq (ksRet (kIf (ktBool (kBinSX tEq (nat_lit 0) (kTup kvNil))) (kLit (.str (Str.ofString ""))) (kBinXX tAdd (kBinXL tAdd (kBinXX tAdd (kLit (.str (Str.ofString "u"))) (kCall g_mountain_of (kaCons (wOf (kBinSL tIx (nat_lit 0) (.int (Int.ofNat (nat_lit 0))))) kaNil))) (.str (Str.ofString "d"))) (kCall g_mountain_of (kaCons (wOf (kBinSL tIx (nat_lit 0) (.int (Int.ofNat (nat_lit 1))))) kaNil))))) ksNext)
theorem okb_mountain_of {phi_mountain_of : CallD} {g_mountain_of : KC} (h_mountain_of : SC phi_mountain_of g_mountain_of) : SS (b_mountain_of phi_mountain_of) (kb_mountain_of g_mountain_of) := by
  unfold b_mountain_of kb_mountain_of
  exact (ssSeq (ssRet (sIf (stBool (sBinSX _ stEq (sTup svNil))) (sLit _) (sBinXX stAdd (sBinXL _ stAdd (sBinXX stAdd (sLit _) (sCall h_mountain_of (saCons (sOf (sBinSL _ _ stIx)) saNil)))) (sCall h_mountain_of (saCons (sOf (sBinSL _ _ stIx)) saNil))))) ssNext)
def kphi_mountain_of (n : Nat) : KC := @Nat.rec (fun _ => KC) kNo (fun _ ih => kDefV (nat_lit 1) [] (kb_mountain_of ih)) n
theorem sphi_mountain_of : ∀ n : Nat, SC (phi_mountain_of n) (kphi_mountain_of n)
  | 0 => sNo
  | n + 1 => sDefV rfl rfl (okb_mountain_of (sphi_mountain_of n))
def kb_mountain (g_need_tree g_mountain_of : KC) : KS :=
    (ksSeq (ksDrop (kCall g_need_tree (kaCons (wOf (kVar (nat_lit 0))) kaNil))) (ksSeq (ksRet (kCall g_mountain_of (kaCons (wOf (kVar (nat_lit 0))) kaNil))) ksNext))
theorem okb_mountain {phi_need_tree phi_mountain_of : CallD} {g_need_tree g_mountain_of : KC} (h_need_tree : SC phi_need_tree g_need_tree) (h_mountain_of : SC phi_mountain_of g_mountain_of) : SS (b_mountain phi_need_tree phi_mountain_of) (kb_mountain g_need_tree g_mountain_of) := by
  unfold b_mountain kb_mountain
  exact (ssSeq (ssDrop (sCall h_need_tree (saCons (sOf (sVar _)) saNil))) (ssSeq (ssRet (sCall h_mountain_of (saCons (sOf (sVar _)) saNil))) ssNext))
def kphi_mountain : KC := kDefV (nat_lit 1) [] (kb_mountain kphi_need_tree (kphi_mountain_of (nat_lit 9)))
theorem sphi_mountain : SC phi_mountain kphi_mountain := sDefV rfl rfl (okb_mountain sphi_need_tree (sphi_mountain_of 9))
def kb_fork_count (g_fork_count : KC) : KS :=
    (ksSeq (ksRet (kIf (ktBool (kBinSX tEq (nat_lit 0) (kTup kvNil))) (kLit (.int (Int.ofNat (nat_lit 0)))) (kBinXL tAdd (kBinXX tAdd (kCall g_fork_count (kaCons (wOf (kBinSL tIx (nat_lit 0) (.int (Int.ofNat (nat_lit 0))))) kaNil)) (kCall g_fork_count (kaCons (wOf (kBinSL tIx (nat_lit 0) (.int (Int.ofNat (nat_lit 1))))) kaNil))) (.int (Int.ofNat (nat_lit 1)))))) ksNext)
theorem okb_fork_count {phi_fork_count : CallD} {g_fork_count : KC} (h_fork_count : SC phi_fork_count g_fork_count) : SS (b_fork_count phi_fork_count) (kb_fork_count g_fork_count) := by
  unfold b_fork_count kb_fork_count
  exact (ssSeq (ssRet (sIf (stBool (sBinSX _ stEq (sTup svNil))) (sLit _) (sBinXL _ stAdd (sBinXX stAdd (sCall h_fork_count (saCons (sOf (sBinSL _ _ stIx)) saNil)) (sCall h_fork_count (saCons (sOf (sBinSL _ _ stIx)) saNil)))))) ssNext)
def kphi_fork_count (n : Nat) : KC := @Nat.rec (fun _ => KC) kNo (fun _ ih => kDefV (nat_lit 1) [] (kb_fork_count ih)) n
theorem sphi_fork_count : ∀ n : Nat, SC (phi_fork_count n) (kphi_fork_count n)
  | 0 => sNo
  | n + 1 => sDefV rfl rfl (okb_fork_count (sphi_fork_count n))
def kb_reaches_of (g_reaches_of g_fork_count : KC) : KS :=
    (ksSeq (ksRet (kIf (ktBool (kBinSX tEq (nat_lit 0) (kTup kvNil))) (kTup kvNil) (kBinXX tAdd (kBinXX tAdd (kCall g_reaches_of (kaCons (wOf (kBinSL tIx (nat_lit 0) (.int (Int.ofNat (nat_lit 0))))) kaNil)) (kTup (kvCons (wOf (kCall g_fork_count (kaCons (wOf (kBinSL tIx (nat_lit 0) (.int (Int.ofNat (nat_lit 1))))) kaNil))) kvNil))) (kCall g_reaches_of (kaCons (wOf (kBinSL tIx (nat_lit 0) (.int (Int.ofNat (nat_lit 1))))) kaNil))))) ksNext)
theorem okb_reaches_of {phi_reaches_of phi_fork_count : CallD} {g_reaches_of g_fork_count : KC} (h_reaches_of : SC phi_reaches_of g_reaches_of) (h_fork_count : SC phi_fork_count g_fork_count) : SS (b_reaches_of phi_reaches_of phi_fork_count) (kb_reaches_of g_reaches_of g_fork_count) := by
  unfold b_reaches_of kb_reaches_of
  exact (ssSeq (ssRet (sIf (stBool (sBinSX _ stEq (sTup svNil))) (sTup svNil) (sBinXX stAdd (sBinXX stAdd (sCall h_reaches_of (saCons (sOf (sBinSL _ _ stIx)) saNil)) (sTup (svCons (sOf (sCall h_fork_count (saCons (sOf (sBinSL _ _ stIx)) saNil))) svNil))) (sCall h_reaches_of (saCons (sOf (sBinSL _ _ stIx)) saNil))))) ssNext)
def kphi_reaches_of (n : Nat) : KC := @Nat.rec (fun _ => KC) kNo (fun _ ih => kDefV (nat_lit 1) [] (kb_reaches_of ih (kphi_fork_count (nat_lit 9)))) n
theorem sphi_reaches_of : ∀ n : Nat, SC (phi_reaches_of n) (kphi_reaches_of n)
  | 0 => sNo
  | n + 1 => sDefV rfl rfl (okb_reaches_of (sphi_reaches_of n) (sphi_fork_count 9))
def kb_reaches (g_need_tree g_reaches_of : KC) : KS :=
    (ksSeq (ksDrop (kCall g_need_tree (kaCons (wOf (kVar (nat_lit 0))) kaNil))) (ksSeq (ksRet (kCall g_reaches_of (kaCons (wOf (kVar (nat_lit 0))) kaNil))) ksNext))
theorem okb_reaches {phi_need_tree phi_reaches_of : CallD} {g_need_tree g_reaches_of : KC} (h_need_tree : SC phi_need_tree g_need_tree) (h_reaches_of : SC phi_reaches_of g_reaches_of) : SS (b_reaches phi_need_tree phi_reaches_of) (kb_reaches g_need_tree g_reaches_of) := by
  unfold b_reaches kb_reaches
  exact (ssSeq (ssDrop (sCall h_need_tree (saCons (sOf (sVar _)) saNil))) (ssSeq (ssRet (sCall h_reaches_of (saCons (sOf (sVar _)) saNil))) ssNext))
def kphi_reaches : KC := kDefV (nat_lit 1) [] (kb_reaches kphi_need_tree (kphi_reaches_of (nat_lit 9)))
theorem sphi_reaches : SC phi_reaches kphi_reaches := sDefV rfl rfl (okb_reaches sphi_need_tree (sphi_reaches_of 9))
def kb_rises : KS :=
    (ksSeq (ksRet (kUnX (q1 pAll) (kLc (kiZip (wOf (kVar (nat_lit 0))) (wOf (kSl (koSlot (nat_lit 0)) (kpSome (wOf (kLit (.int (Int.ofNat (nat_lit 1)))))) kpNone))) (.tup [(nat_lit 1), (nat_lit 2)]) ktYes (wOf (kBinSS tLtX (nat_lit 1) (nat_lit 2))) [(nat_lit 1), (nat_lit 2)]))) ksNext)
theorem okb_rises  : SS (b_rises) (kb_rises) := by
  unfold b_rises kb_rises
  exact (ssSeq (ssRet (sUnX (s1 pAll) (sLc (siZip (sOf (sVar _)) (sOf (sSl (soSlot _) (spSome (sOf (sLit _))) spNone))) stYes (sOf (sBinSS _ _ stLtX))))) ssNext)
def kphi_rises : KC := kDefV (nat_lit 1) [none, none] kb_rises
theorem sphi_rises : SC phi_rises kphi_rises := sDefV rfl rfl (okb_rises)
def kb_is_whole : KS :=
    (ksSeq (ksRet (kAnd (kIsi .int (koSlot (nat_lit 0))) (kAnd (kNot (kIsi .bool (koSlot (nat_lit 0)))) (kChain (koSlot (nat_lit 1)) (kcMore tLeX (koSlot (nat_lit 0)) (kcOne tLeX (koSlot (nat_lit 2)))))))) ksNext)
theorem okb_is_whole  : SS (b_is_whole) (kb_is_whole) := by
  unfold b_is_whole kb_is_whole
  exact (ssSeq (ssRet (sAnd (sIsi _ (soSlot _)) (sAnd (sNot (sIsi _ (soSlot _))) (sChain (soSlot _) (scMore stLeX (soSlot _) (scOne stLeX (soSlot _))))))) ssNext)
def kphi_is_whole : KC := kDefV (nat_lit 3) [] kb_is_whole
theorem sphi_is_whole : SC phi_is_whole kphi_is_whole := sDefV rfl rfl (okb_is_whole)
def kb_are_next : KS :=
    (ksSeq (ksRet (kBinXX tIn (kBinXS tMod (kBinSS tSub (nat_lit 1) (nat_lit 2)) (nat_lit 0)) (kTup (kvCons (wOf (kLit (.int (Int.ofNat (nat_lit 1))))) (kvCons (wOf (kBinSL tSub (nat_lit 0) (.int (Int.ofNat (nat_lit 1))))) kvNil))))) ksNext)
theorem okb_are_next  : SS (b_are_next) (kb_are_next) := by
  unfold b_are_next kb_are_next
  exact (ssSeq (ssRet (sBinXX stIn (sBinXS _ stMod (sBinSS _ _ stSub)) (sTup (svCons (sOf (sLit _)) (svCons (sOf (sBinSL _ _ stSub)) svNil))))) ssNext)
def kphi_are_next : KC := kDefV (nat_lit 3) [] kb_are_next
theorem sphi_are_next : SC phi_are_next kphi_are_next := sDefV rfl rfl (okb_are_next)
def kb_fits_cut (g_are_next g_is_whole : KC) : KS :=
    (ksSeq (ksIf (ktOr (ktNot (ktTruth (koOf (kIsi .tuple (koSlot (nat_lit 1)))))) (ktOr (ktBool (kBinXL tNe (kUnS tLen (nat_lit 1)) (.int (Int.ofNat (nat_lit 2))))) (ktNot (ktTruth (koOf (kUnX (q1 pAll) (kLc (kiSeqS (wOf (kVar (nat_lit 1)))) (.name (nat_lit 2)) ktYes (wOf (kCall g_is_whole (kaCons (wOf (kVar (nat_lit 2))) (kaCons (wOf (kLit (.int (Int.ofNat (nat_lit 0))))) (kaCons (wOf (kBinSL tSub (nat_lit 0) (.int (Int.ofNat (nat_lit 1))))) kaNil))))) [(nat_lit 2)]))))))) (ksSeq (ksRet (kLit (.bool false))) ksNext) ksNext) (ksSeq (ksRet (kAnd (kBinXX tLtX (kBinSL tIx (nat_lit 1) (.int (Int.ofNat (nat_lit 0)))) (kBinSL tIx (nat_lit 1) (.int (Int.ofNat (nat_lit 1))))) (kNot (kCall g_are_next (kaCons (wOf (kVar (nat_lit 0))) (kaCons (wOf (kBinSL tIx (nat_lit 1) (.int (Int.ofNat (nat_lit 0))))) (kaCons (wOf (kBinSL tIx (nat_lit 1) (.int (Int.ofNat (nat_lit 1))))) kaNil))))))) ksNext))
theorem okb_fits_cut {phi_are_next phi_is_whole : CallD} {g_are_next g_is_whole : KC} (h_are_next : SC phi_are_next g_are_next) (h_is_whole : SC phi_is_whole g_is_whole) : SS (b_fits_cut phi_are_next phi_is_whole) (kb_fits_cut g_are_next g_is_whole) := by
  unfold b_fits_cut kb_fits_cut
  exact (ssSeq (ssIf (stOr (stNot (stTruth (soOf (sIsi _ (soSlot _))))) (stOr (stBool (sBinXL _ stNe (sUnS _ stLen))) (stNot (stTruth (soOf (sUnX (s1 pAll) (sLc (siSeqS (sOf (sVar _))) stYes (sOf (sCall h_is_whole (saCons (sOf (sVar _)) (saCons (sOf (sLit _)) (saCons (sOf (sBinSL _ _ stSub)) saNil)))))))))))) (ssSeq (ssRet (sLit _)) ssNext) ssNext) (ssSeq (ssRet (sAnd (sBinXX stLtX (sBinSL _ _ stIx) (sBinSL _ _ stIx)) (sNot (sCall h_are_next (saCons (sOf (sVar _)) (saCons (sOf (sBinSL _ _ stIx)) (saCons (sOf (sBinSL _ _ stIx)) saNil))))))) ssNext))
def kphi_fits_cut : KC := kDefV (nat_lit 2) [none] (kb_fits_cut kphi_are_next kphi_is_whole)
theorem sphi_fits_cut : SC phi_fits_cut kphi_fits_cut := sDefV rfl rfl (okb_fits_cut sphi_are_next sphi_is_whole)
def kb_cross : KS :=
    (ksSeq (ksRet (kOr (kChain (koOf (kBinSL tIx (nat_lit 0) (.int (Int.ofNat (nat_lit 0))))) (kcMore tLtX (koOf (kBinSL tIx (nat_lit 1) (.int (Int.ofNat (nat_lit 0))))) (kcMore tLtX (koOf (kBinSL tIx (nat_lit 0) (.int (Int.ofNat (nat_lit 1))))) (kcOne tLtX (koOf (kBinSL tIx (nat_lit 1) (.int (Int.ofNat (nat_lit 1))))))))) (kChain (koOf (kBinSL tIx (nat_lit 1) (.int (Int.ofNat (nat_lit 0))))) (kcMore tLtX (koOf (kBinSL tIx (nat_lit 0) (.int (Int.ofNat (nat_lit 0))))) (kcMore tLtX (koOf (kBinSL tIx (nat_lit 1) (.int (Int.ofNat (nat_lit 1))))) (kcOne tLtX (koOf (kBinSL tIx (nat_lit 0) (.int (Int.ofNat (nat_lit 1))))))))))) ksNext)
theorem okb_cross  : SS (b_cross) (kb_cross) := by
  unfold b_cross kb_cross
  exact (ssSeq (ssRet (sOr (sChain (soOf (sBinSL _ _ stIx)) (scMore stLtX (soOf (sBinSL _ _ stIx)) (scMore stLtX (soOf (sBinSL _ _ stIx)) (scOne stLtX (soOf (sBinSL _ _ stIx)))))) (sChain (soOf (sBinSL _ _ stIx)) (scMore stLtX (soOf (sBinSL _ _ stIx)) (scMore stLtX (soOf (sBinSL _ _ stIx)) (scOne stLtX (soOf (sBinSL _ _ stIx)))))))) ssNext)
def kphi_cross : KC := kDefV (nat_lit 2) [] kb_cross
theorem sphi_cross : SC phi_cross kphi_cross := sDefV rfl rfl (okb_cross)
def kb_fits_cutting (g_rises g_is_whole g_fits_cut g_cross : KC) : KS :=
    (ksSeq (ksIf (ktOr (ktNot (ktTruth (koOf (kIsi .tuple (koSlot (nat_lit 0)))))) (ktOr (ktBool (kBinXL tNe (kUnS tLen (nat_lit 0)) (.int (Int.ofNat (nat_lit 2))))) (ktNot (ktTruth (koOf (kCall g_is_whole (kaCons (wOf (kBinSL tIx (nat_lit 0) (.int (Int.ofNat (nat_lit 0))))) (kaCons (wOf (kLit (.int (Int.ofNat (nat_lit 3))))) (kaCons (wOf (kLit (.int (Int.ofNat (nat_lit 40))))) kaNil))))))))) (ksSeq (ksRet (kLit (.bool false))) ksNext) ksNext) (ksSeq (ksUnp (.tup [(nat_lit 1), (nat_lit 2)]) (wOf (kVar (nat_lit 0)))) (ksSeq (ksIf (ktOr (ktNot (ktTruth (koOf (kIsi .tuple (koSlot (nat_lit 2)))))) (ktOr (ktBool (kBinXX tNe (kUnS tLen (nat_lit 2)) (kBinSL tSub (nat_lit 1) (.int (Int.ofNat (nat_lit 3)))))) (ktNot (ktTruth (koOf (kUnX (q1 pAll) (kLc (kiSeqS (wOf (kVar (nat_lit 2)))) (.name (nat_lit 3)) ktYes (wOf (kCall g_fits_cut (kaCons (wOf (kVar (nat_lit 1))) (kaCons (wOf (kVar (nat_lit 3))) kaNil)))) [(nat_lit 3)]))))))) (ksSeq (ksRet (kLit (.bool false))) ksNext) ksNext) (ksSeq (ksRet (kAnd (kCall g_rises (kaCons (wOf (kVar (nat_lit 2))) kaNil)) (kNot (kUnX (q1 pAny) (kLc (kiSeqS (wOf (kVar (nat_lit 2)))) (.name (nat_lit 4)) ktYes (wOf (kUnX (q1 pAny) (kLc (kiSeqS (wOf (kVar (nat_lit 2)))) (.name (nat_lit 5)) ktYes (wOf (kCall g_cross (kaCons (wOf (kVar (nat_lit 4))) (kaCons (wOf (kVar (nat_lit 5))) kaNil)))) [(nat_lit 5)]))) [(nat_lit 4)]))))) ksNext))))
theorem okb_fits_cutting {phi_rises phi_is_whole phi_fits_cut phi_cross : CallD} {g_rises g_is_whole g_fits_cut g_cross : KC} (h_rises : SC phi_rises g_rises) (h_is_whole : SC phi_is_whole g_is_whole) (h_fits_cut : SC phi_fits_cut g_fits_cut) (h_cross : SC phi_cross g_cross) : SS (b_fits_cutting phi_rises phi_is_whole phi_fits_cut phi_cross) (kb_fits_cutting g_rises g_is_whole g_fits_cut g_cross) := by
  unfold b_fits_cutting kb_fits_cutting
  exact (ssSeq (ssIf (stOr (stNot (stTruth (soOf (sIsi _ (soSlot _))))) (stOr (stBool (sBinXL _ stNe (sUnS _ stLen))) (stNot (stTruth (soOf (sCall h_is_whole (saCons (sOf (sBinSL _ _ stIx)) (saCons (sOf (sLit _)) (saCons (sOf (sLit _)) saNil))))))))) (ssSeq (ssRet (sLit _)) ssNext) ssNext) (ssSeq (ssUnp _ (sOf (sVar _))) (ssSeq (ssIf (stOr (stNot (stTruth (soOf (sIsi _ (soSlot _))))) (stOr (stBool (sBinXX stNe (sUnS _ stLen) (sBinSL _ _ stSub))) (stNot (stTruth (soOf (sUnX (s1 pAll) (sLc (siSeqS (sOf (sVar _))) stYes (sOf (sCall h_fits_cut (saCons (sOf (sVar _)) (saCons (sOf (sVar _)) saNil))))))))))) (ssSeq (ssRet (sLit _)) ssNext) ssNext) (ssSeq (ssRet (sAnd (sCall h_rises (saCons (sOf (sVar _)) saNil)) (sNot (sUnX (s1 pAny) (sLc (siSeqS (sOf (sVar _))) stYes (sOf (sUnX (s1 pAny) (sLc (siSeqS (sOf (sVar _))) stYes (sOf (sCall h_cross (saCons (sOf (sVar _)) (saCons (sOf (sVar _)) saNil)))))))))))) ssNext))))
def kphi_fits_cutting : KC := kDefV (nat_lit 1) [none, none, none, none, none] (kb_fits_cutting kphi_rises kphi_is_whole kphi_fits_cut kphi_cross)
theorem sphi_fits_cutting : SC phi_fits_cutting kphi_fits_cutting := sDefV rfl rfl (okb_fits_cutting sphi_rises sphi_is_whole sphi_fits_cut sphi_cross)
def kb_need_cutting (g_fits_cutting : KC) : KS :=
    (ksSeq (ksIf (ktNot (ktTruth (koOf (kCall g_fits_cutting (kaCons (wOf (kVar (nat_lit 0))) kaNil))))) (ksSeq ksStuck ksNext) ksNext) ksNext)
theorem okb_need_cutting {phi_fits_cutting : CallD} {g_fits_cutting : KC} (h_fits_cutting : SC phi_fits_cutting g_fits_cutting) : SS (b_need_cutting phi_fits_cutting) (kb_need_cutting g_fits_cutting) := by
  unfold b_need_cutting kb_need_cutting
  exact (ssSeq (ssIf (stNot (stTruth (soOf (sCall h_fits_cutting (saCons (sOf (sVar _)) saNil))))) (ssSeq ssStuck ssNext) ssNext) ssNext)
def kphi_need_cutting : KC := kDefV (nat_lit 1) [] (kb_need_cutting kphi_fits_cutting)
theorem sphi_need_cutting : SC phi_need_cutting kphi_need_cutting := sDefV rfl rfl (okb_need_cutting sphi_fits_cutting)
def kb_all_ties : KS :=
    (ksSeq (ksUnp (.tup [(nat_lit 1), (nat_lit 2)]) (wOf (kVar (nat_lit 0)))) (ksSeq (ksRet (kUnX (q1 pSorted) (kBinXX tAdd (kBinXX tAdd (kLc (kiRange1 (wOf (kBinSL tSub (nat_lit 1) (.int (Int.ofNat (nat_lit 1)))))) (.name (nat_lit 3)) ktYes (wOf (kTup (kvCons (wOf (kVar (nat_lit 3))) (kvCons (wOf (kBinSL tAdd (nat_lit 3) (.int (Int.ofNat (nat_lit 1))))) kvNil)))) [(nat_lit 3)]) (kLst (kvCons (wOf (kTup (kvCons (wOf (kLit (.int (Int.ofNat (nat_lit 0))))) (kvCons (wOf (kBinSL tSub (nat_lit 1) (.int (Int.ofNat (nat_lit 1))))) kvNil)))) kvNil))) (kUnS tLst (nat_lit 2))))) ksNext))
theorem okb_all_ties  : SS (b_all_ties) (kb_all_ties) := by
  unfold b_all_ties kb_all_ties
  exact (ssSeq (ssUnp _ (sOf (sVar _))) (ssSeq (ssRet (sUnX (s1 pSorted) (sBinXX stAdd (sBinXX stAdd (sLc (siRange1 (sOf (sBinSL _ _ stSub))) stYes (sOf (sTup (svCons (sOf (sVar _)) (svCons (sOf (sBinSL _ _ stAdd)) svNil))))) (sLst (svCons (sOf (sTup (svCons (sOf (sLit _)) (svCons (sOf (sBinSL _ _ stSub)) svNil)))) svNil))) (sUnS _ stLst)))) ssNext))
def kphi_all_ties : KC := kDefV (nat_lit 1) [none, none, none] kb_all_ties
theorem sphi_all_ties : SC phi_all_ties kphi_all_ties := sDefV rfl rfl (okb_all_ties)
def kb_near_of (g_all_ties : KC) : KS :=
    (ksSeq (ksAsg (nat_lit 1) (kLc (kiRange1 (wOf (kBinSL tIx (nat_lit 0) (.int (Int.ofNat (nat_lit 0)))))) (.name (nat_lit 4)) ktYes (wOf (kLst kvNil)) [(nat_lit 4)])) (ksSeq (ksFor (kiSeqS (wOf (kCall g_all_ties (kaCons (wOf (kVar (nat_lit 0))) kaNil)))) (.tup [(nat_lit 2), (nat_lit 3)]) (ksSeq (ksSetIx (nat_lit 1) (wOf (kVar (nat_lit 2))) (wOf (kBinXX tAdd (kBinSS tIx (nat_lit 1) (nat_lit 2)) (kLst (kvCons (wOf (kVar (nat_lit 3))) kvNil))))) (ksSeq (ksSetIx (nat_lit 1) (wOf (kVar (nat_lit 3))) (wOf (kBinXX tAdd (kBinSS tIx (nat_lit 1) (nat_lit 3)) (kLst (kvCons (wOf (kVar (nat_lit 2))) kvNil))))) ksNext))) (ksSeq (ksRet (kLc (kiSeqS (wOf (kVar (nat_lit 1)))) (.name (nat_lit 5)) ktYes (wOf (kUnS (q1 pSorted) (nat_lit 5))) [(nat_lit 5)])) ksNext)))
theorem okb_near_of {phi_all_ties : CallD} {g_all_ties : KC} (h_all_ties : SC phi_all_ties g_all_ties) : SS (b_near_of phi_all_ties) (kb_near_of g_all_ties) := by
  unfold b_near_of kb_near_of
  exact (ssSeq (ssAsg _ (sLc (siRange1 (sOf (sBinSL _ _ stIx))) stYes (sOf (sLst svNil)))) (ssSeq (ssFor _ (siSeqS (sOf (sCall h_all_ties (saCons (sOf (sVar _)) saNil)))) (ssSeq (ssSetIx _ (sOf (sVar _)) (sOf (sBinXX stAdd (sBinSS _ _ stIx) (sLst (svCons (sOf (sVar _)) svNil))))) (ssSeq (ssSetIx _ (sOf (sVar _)) (sOf (sBinXX stAdd (sBinSS _ _ stIx) (sLst (svCons (sOf (sVar _)) svNil))))) ssNext))) (ssSeq (ssRet (sLc (siSeqS (sOf (sVar _))) stYes (sOf (sUnS _ (s1 pSorted))))) ssNext)))
def kphi_near_of : KC := kDefV (nat_lit 1) [none, none, none, none, none] (kb_near_of kphi_all_ties)
theorem sphi_near_of : SC phi_near_of kphi_near_of := sDefV rfl rfl (okb_near_of sphi_all_ties)
def kb_piece_counts (g_near_of : KC) : KS :=
    (ksSeq (ksRet (kUnX tTup (kLc (kiSeqS (wOf (kCall g_near_of (kaCons (wOf (kVar (nat_lit 0))) kaNil)))) (.name (nat_lit 1)) ktYes (wOf (kBinXL tSub (kUnS tLen (nat_lit 1)) (.int (Int.ofNat (nat_lit 1))))) [(nat_lit 1)]))) ksNext)
theorem okb_piece_counts {phi_near_of : CallD} {g_near_of : KC} (h_near_of : SC phi_near_of g_near_of) : SS (b_piece_counts phi_near_of) (kb_piece_counts g_near_of) := by
  unfold b_piece_counts kb_piece_counts
  exact (ssSeq (ssRet (sUnX stTup (sLc (siSeqS (sOf (sCall h_near_of (saCons (sOf (sVar _)) saNil)))) stYes (sOf (sBinXL _ stSub (sUnS _ stLen)))))) ssNext)
def kphi_piece_counts : KC := kDefV (nat_lit 1) [none] (kb_piece_counts kphi_near_of)
theorem sphi_piece_counts : SC phi_piece_counts kphi_piece_counts := sDefV rfl rfl (okb_piece_counts sphi_near_of)
def kb_numbers_from : KS :=
    (ksSeq (ksAsg (nat_lit 3) (kLst (kvCons (wOf (kLit (.int (Int.ofNat (nat_lit 0))))) (kvCons (wOf (kLit (.int (Int.ofNat (nat_lit 1))))) kvNil)))) (ksSeq (ksFor (kiRange2 (wOf (kLit (.int (Int.ofNat (nat_lit 1))))) (wOf (kVar (nat_lit 2)))) (.name (nat_lit 4)) (ksSeq (ksAsg (nat_lit 3) (kBinSX tAdd (nat_lit 3) (kLst (kvCons (wOf (kBinXX tSub (kBinXX tMul (kBinSX tIx (nat_lit 0) (kBinXX tMod (kBinSS tAdd (nat_lit 1) (nat_lit 4)) (kUnS tLen (nat_lit 0)))) (kBinSX tIx (nat_lit 3) (kUnX (q1 pNeg) (kLit (.int (Int.ofNat (nat_lit 1))))))) (kBinSX tIx (nat_lit 3) (kUnX (q1 pNeg) (kLit (.int (Int.ofNat (nat_lit 2)))))))) kvNil)))) ksNext)) (ksSeq (ksRet (kSl (koSlot (nat_lit 3)) kpNone (kpSome (wOf (kBinSL tAdd (nat_lit 2) (.int (Int.ofNat (nat_lit 1)))))))) ksNext)))
theorem okb_numbers_from  : SS (b_numbers_from) (kb_numbers_from) := by
  unfold b_numbers_from kb_numbers_from
  exact (ssSeq (ssAsg _ (sLst (svCons (sOf (sLit _)) (svCons (sOf (sLit _)) svNil)))) (ssSeq (ssFor _ (siRange2 (sOf (sLit _)) (sOf (sVar _))) (ssSeq (ssAsg _ (sBinSX _ stAdd (sLst (svCons (sOf (sBinXX stSub (sBinXX stMul (sBinSX _ stIx (sBinXX stMod (sBinSS _ _ stAdd) (sUnS _ stLen))) (sBinSX _ stIx (sUnX (s1 pNeg) (sLit _)))) (sBinSX _ stIx (sUnX (s1 pNeg) (sLit _))))) svNil)))) ssNext)) (ssSeq (ssRet (sSl (soSlot _) spNone (spSome (sOf (sBinSL _ _ stAdd))))) ssNext)))
def kphi_numbers_from : KC := kDefV (nat_lit 3) [none, none] kb_numbers_from
theorem sphi_numbers_from : SC phi_numbers_from kphi_numbers_from := sDefV rfl rfl (okb_numbers_from)
def kb_frieze_of (g_piece_counts g_numbers_from : KC) : KS :=
    (ksSeq (ksUnp (.tup [(nat_lit 4), (nat_lit 5)]) (wOf (kTup (kvCons (wOf (kBinSL tIx (nat_lit 0) (.int (Int.ofNat (nat_lit 0))))) (kvCons (wOf (kCall g_piece_counts (kaCons (wOf (kVar (nat_lit 0))) kaNil))) kvNil))))) (ksSeq (ksAsg (nat_lit 1) (kLc (kiRange1 (wOf (kVar (nat_lit 4)))) (.name (nat_lit 7)) ktYes (wOf (kCall g_numbers_from (kaCons (wOf (kVar (nat_lit 5))) (kaCons (wOf (kVar (nat_lit 7))) (kaCons (wOf (kBinXS tSub (kBinSL tSub (nat_lit 4) (.int (Int.ofNat (nat_lit 1)))) (nat_lit 7))) kaNil))))) [(nat_lit 7)])) (ksSeq (ksAsg (nat_lit 2) (kTup kvNil)) (ksSeq (ksFor (kiRange1 (wOf (kVar (nat_lit 4)))) (.name (nat_lit 3)) (ksSeq (ksAsg (nat_lit 6) (kLc (kiRange1 (wOf (kVar (nat_lit 3)))) (.name (nat_lit 8)) ktYes (wOf (kBinXX tIx (kBinSS tIx (nat_lit 1) (nat_lit 8)) (kBinSS tSub (nat_lit 3) (nat_lit 8)))) [(nat_lit 8)])) (ksSeq (ksAsg (nat_lit 2) (kBinSX tAdd (nat_lit 2) (kTup (kvCons (wOf (kUnX tTup (kBinSX tAdd (nat_lit 6) (kBinSS tIx (nat_lit 1) (nat_lit 3))))) kvNil)))) ksNext))) (ksSeq (ksRetN (nat_lit 2)) ksNext)))))
theorem okb_frieze_of {phi_piece_counts phi_numbers_from : CallD} {g_piece_counts g_numbers_from : KC} (h_piece_counts : SC phi_piece_counts g_piece_counts) (h_numbers_from : SC phi_numbers_from g_numbers_from) : SS (b_frieze_of phi_piece_counts phi_numbers_from) (kb_frieze_of g_piece_counts g_numbers_from) := by
  unfold b_frieze_of kb_frieze_of
  exact (ssSeq (ssUnp _ (sOf (sTup (svCons (sOf (sBinSL _ _ stIx)) (svCons (sOf (sCall h_piece_counts (saCons (sOf (sVar _)) saNil))) svNil))))) (ssSeq (ssAsg _ (sLc (siRange1 (sOf (sVar _))) stYes (sOf (sCall h_numbers_from (saCons (sOf (sVar _)) (saCons (sOf (sVar _)) (saCons (sOf (sBinXS _ stSub (sBinSL _ _ stSub))) saNil))))))) (ssSeq (ssAsg _ (sTup svNil)) (ssSeq (ssFor _ (siRange1 (sOf (sVar _))) (ssSeq (ssAsg _ (sLc (siRange1 (sOf (sVar _))) stYes (sOf (sBinXX stIx (sBinSS _ _ stIx) (sBinSS _ _ stSub))))) (ssSeq (ssAsg _ (sBinSX _ stAdd (sTup (svCons (sOf (sUnX stTup (sBinSX _ stAdd (sBinSS _ _ stIx)))) svNil)))) ssNext))) (ssSeq (ssRetN _) ssNext)))))
def kphi_frieze_of : KC := kDefV (nat_lit 1) [none, none, none, none, none, none, none, none] (kb_frieze_of kphi_piece_counts kphi_numbers_from)
theorem sphi_frieze_of : SC phi_frieze_of kphi_frieze_of := sDefV rfl rfl (okb_frieze_of sphi_piece_counts sphi_numbers_from)
def kb_frieze (g_need_cutting g_frieze_of : KC) : KS :=
    (ksSeq (ksDrop (kCall g_need_cutting (kaCons (wOf (kVar (nat_lit 0))) kaNil))) (ksSeq (ksRet (kCall g_frieze_of (kaCons (wOf (kVar (nat_lit 0))) kaNil))) ksNext))
theorem okb_frieze {phi_need_cutting phi_frieze_of : CallD} {g_need_cutting g_frieze_of : KC} (h_need_cutting : SC phi_need_cutting g_need_cutting) (h_frieze_of : SC phi_frieze_of g_frieze_of) : SS (b_frieze phi_need_cutting phi_frieze_of) (kb_frieze g_need_cutting g_frieze_of) := by
  unfold b_frieze kb_frieze
  exact (ssSeq (ssDrop (sCall h_need_cutting (saCons (sOf (sVar _)) saNil))) (ssSeq (ssRet (sCall h_frieze_of (saCons (sOf (sVar _)) saNil))) ssNext))
def kphi_frieze : KC := kDefV (nat_lit 1) [] (kb_frieze kphi_need_cutting kphi_frieze_of)
theorem sphi_frieze : SC phi_frieze kphi_frieze := sDefV rfl rfl (okb_frieze sphi_need_cutting sphi_frieze_of)
def kb_fits_line (g_is_whole : KC) : KS :=
    (ksSeq (ksIf (ktOr (ktNot (ktTruth (koOf (kIsi .tuple (koSlot (nat_lit 1)))))) (ktBool (kBinXL tNe (kUnS tLen (nat_lit 1)) (.int (Int.ofNat (nat_lit 2)))))) (ksSeq (ksRet (kLit (.bool false))) ksNext) ksNext) (ksSeq (ksRet (kAnd (kUnX (q1 pAll) (kLc (kiSeqS (wOf (kVar (nat_lit 1)))) (.name (nat_lit 2)) ktYes (wOf (kCall g_is_whole (kaCons (wOf (kVar (nat_lit 2))) (kaCons (wOf (kLit (.int (Int.ofNat (nat_lit 0))))) (kaCons (wOf (kBinXL tSub (kBinSL tIx (nat_lit 0) (.int (Int.ofNat (nat_lit 0)))) (.int (Int.ofNat (nat_lit 1))))) kaNil))))) [(nat_lit 2)])) (kBinXX tLtX (kBinSL tIx (nat_lit 1) (.int (Int.ofNat (nat_lit 0)))) (kBinSL tIx (nat_lit 1) (.int (Int.ofNat (nat_lit 1))))))) ksNext))
theorem okb_fits_line {phi_is_whole : CallD} {g_is_whole : KC} (h_is_whole : SC phi_is_whole g_is_whole) : SS (b_fits_line phi_is_whole) (kb_fits_line g_is_whole) := by
  unfold b_fits_line kb_fits_line
  exact (ssSeq (ssIf (stOr (stNot (stTruth (soOf (sIsi _ (soSlot _))))) (stBool (sBinXL _ stNe (sUnS _ stLen)))) (ssSeq (ssRet (sLit _)) ssNext) ssNext) (ssSeq (ssRet (sAnd (sUnX (s1 pAll) (sLc (siSeqS (sOf (sVar _))) stYes (sOf (sCall h_is_whole (saCons (sOf (sVar _)) (saCons (sOf (sLit _)) (saCons (sOf (sBinXL _ stSub (sBinSL _ _ stIx))) saNil))))))) (sBinXX stLtX (sBinSL _ _ stIx) (sBinSL _ _ stIx)))) ssNext))
def kphi_fits_line : KC := kDefV (nat_lit 2) [none] (kb_fits_line kphi_is_whole)
theorem sphi_fits_line : SC phi_fits_line kphi_fits_line := sDefV rfl rfl (okb_fits_line sphi_is_whole)
def kb_need_line (g_fits_line : KC) : KS :=
    (ksSeq (ksIf (ktNot (ktTruth (koOf (kCall g_fits_line (kaCons (wOf (kVar (nat_lit 0))) (kaCons (wOf (kVar (nat_lit 1))) kaNil)))))) (ksSeq ksStuck ksNext) ksNext) ksNext)
theorem okb_need_line {phi_fits_line : CallD} {g_fits_line : KC} (h_fits_line : SC phi_fits_line g_fits_line) : SS (b_need_line phi_fits_line) (kb_need_line g_fits_line) := by
  unfold b_need_line kb_need_line
  exact (ssSeq (ssIf (stNot (stTruth (soOf (sCall h_fits_line (saCons (sOf (sVar _)) (saCons (sOf (sVar _)) saNil)))))) (ssSeq ssStuck ssNext) ssNext) ssNext)
def kphi_need_line : KC := kDefV (nat_lit 2) [] (kb_need_line kphi_fits_line)
theorem sphi_need_line : SC phi_need_line kphi_need_line := sDefV rfl rfl (okb_need_line sphi_fits_line)
def kb_need_across (g_need_cutting g_need_line : KC) : KS :=
    (ksSeq (ksDrop (kCall g_need_cutting (kaCons (wOf (kVar (nat_lit 0))) kaNil))) (ksSeq (ksDrop (kCall g_need_line (kaCons (wOf (kVar (nat_lit 0))) (kaCons (wOf (kVar (nat_lit 1))) kaNil)))) ksNext))
theorem okb_need_across {phi_need_cutting phi_need_line : CallD} {g_need_cutting g_need_line : KC} (h_need_cutting : SC phi_need_cutting g_need_cutting) (h_need_line : SC phi_need_line g_need_line) : SS (b_need_across phi_need_cutting phi_need_line) (kb_need_across g_need_cutting g_need_line) := by
  unfold b_need_across kb_need_across
  exact (ssSeq (ssDrop (sCall h_need_cutting (saCons (sOf (sVar _)) saNil))) (ssSeq (ssDrop (sCall h_need_line (saCons (sOf (sVar _)) (saCons (sOf (sVar _)) saNil)))) ssNext))
def kphi_need_across : KC := kDefV (nat_lit 2) [] (kb_need_across kphi_need_cutting kphi_need_line)
theorem sphi_need_across : SC phi_need_across kphi_need_across := sDefV rfl rfl (okb_need_across sphi_need_cutting sphi_need_line)
def kb_met_at : KS :=
    (ksSeq (ksUnp (.tup [(nat_lit 3), (nat_lit 4)]) (wOf (kIf (ktBool (kChain (koOf (kBinSL tIx (nat_lit 1) (.int (Int.ofNat (nat_lit 0))))) (kcMore tLtX (koOf (kBinSL tIx (nat_lit 2) (.int (Int.ofNat (nat_lit 0))))) (kcOne tLtX (koOf (kBinSL tIx (nat_lit 1) (.int (Int.ofNat (nat_lit 1))))))))) (kVar (nat_lit 2)) (kTup (kvCons (wOf (kBinSL tIx (nat_lit 2) (.int (Int.ofNat (nat_lit 1))))) (kvCons (wOf (kBinSL tIx (nat_lit 2) (.int (Int.ofNat (nat_lit 0))))) kvNil)))))) (ksSeq (ksRet (kTup (kvCons (wOf (kVar (nat_lit 3))) (kvCons (wOf (kBinXS tMod (kBinXS tSub (kBinSL tIx (nat_lit 1) (.int (Int.ofNat (nat_lit 0)))) (nat_lit 4)) (nat_lit 0))) kvNil)))) ksNext))
theorem okb_met_at  : SS (b_met_at) (kb_met_at) := by
  unfold b_met_at kb_met_at
  exact (ssSeq (ssUnp _ (sOf (sIf (stBool (sChain (soOf (sBinSL _ _ stIx)) (scMore stLtX (soOf (sBinSL _ _ stIx)) (scOne stLtX (soOf (sBinSL _ _ stIx)))))) (sVar _) (sTup (svCons (sOf (sBinSL _ _ stIx)) (svCons (sOf (sBinSL _ _ stIx)) svNil)))))) (ssSeq (ssRet (sTup (svCons (sOf (sVar _)) (svCons (sOf (sBinXS _ stMod (sBinXS _ stSub (sBinSL _ _ stIx)))) svNil)))) ssNext))
def kphi_met_at : KC := kDefV (nat_lit 3) [none, none] kb_met_at
theorem sphi_met_at : SC phi_met_at kphi_met_at := sDefV rfl rfl (okb_met_at)
def kb_cuts_across (g_met_at g_cross : KC) : KS :=
    (ksSeq (ksAsg (nat_lit 2) (kLc (kiSeqS (wOf (kBinSL tIx (nat_lit 0) (.int (Int.ofNat (nat_lit 1)))))) (.name (nat_lit 3)) (ktTruth (koOf (kCall g_cross (kaCons (wOf (kVar (nat_lit 1))) (kaCons (wOf (kVar (nat_lit 3))) kaNil))))) (wOf (kTup (kvCons (wOf (kCall g_met_at (kaCons (wOf (kBinSL tIx (nat_lit 0) (.int (Int.ofNat (nat_lit 0))))) (kaCons (wOf (kVar (nat_lit 1))) (kaCons (wOf (kVar (nat_lit 3))) kaNil))))) (kvCons (wOf (kVar (nat_lit 3))) kvNil)))) [(nat_lit 3)])) (ksSeq (ksRet (kLc (kiSeqS (wOf (kUnS (q1 pSorted) (nat_lit 2)))) (.tup [(nat_lit 4), (nat_lit 3)]) ktYes (wOf (kVar (nat_lit 3))) [(nat_lit 4), (nat_lit 3)])) ksNext))
theorem okb_cuts_across {phi_met_at phi_cross : CallD} {g_met_at g_cross : KC} (h_met_at : SC phi_met_at g_met_at) (h_cross : SC phi_cross g_cross) : SS (b_cuts_across phi_met_at phi_cross) (kb_cuts_across g_met_at g_cross) := by
  unfold b_cuts_across kb_cuts_across
  exact (ssSeq (ssAsg _ (sLc (siSeqS (sOf (sBinSL _ _ stIx))) (stTruth (soOf (sCall h_cross (saCons (sOf (sVar _)) (saCons (sOf (sVar _)) saNil))))) (sOf (sTup (svCons (sOf (sCall h_met_at (saCons (sOf (sBinSL _ _ stIx)) (saCons (sOf (sVar _)) (saCons (sOf (sVar _)) saNil))))) (svCons (sOf (sVar _)) svNil)))))) (ssSeq (ssRet (sLc (siSeqS (sOf (sUnS _ (s1 pSorted)))) stYes (sOf (sVar _)))) ssNext))
def kphi_cuts_across : KC := kDefV (nat_lit 2) [none, none, none] (kb_cuts_across kphi_met_at kphi_cross)
theorem sphi_cuts_across : SC phi_cuts_across kphi_cuts_across := sDefV rfl rfl (okb_cuts_across sphi_met_at sphi_cross)
def kb_next_corners : KS :=
    (ksSeq (ksUnp (.nst [(.t [(nat_lit 2), (nat_lit 3)]), (.t [(nat_lit 4), (nat_lit 5), (nat_lit 6), (nat_lit 7)])]) (wOf (kVar (nat_lit 0)))) (ksSeq (ksIf (ktBool (kBinSS tIn (nat_lit 5) (nat_lit 1))) (ksSeq (ksRet (kTup (kvCons (wOf (kTup (kvCons (wOf (kBinSL tAdd (nat_lit 2) (.int (Int.ofNat (nat_lit 1))))) (kvCons (wOf (kVar (nat_lit 3))) kvNil)))) (kvCons (wOf (kTup (kvCons (wOf (kVar (nat_lit 7))) (kvCons (wOf (kVar (nat_lit 6))) (kvCons (wOf (kVar (nat_lit 5))) kvNil))))) kvNil)))) ksNext) ksNext) (ksSeq (ksRet (kTup (kvCons (wOf (kTup (kvCons (wOf (kVar (nat_lit 2))) (kvCons (wOf (kBinSL tAdd (nat_lit 3) (.int (Int.ofNat (nat_lit 1))))) kvNil)))) (kvCons (wOf (kTup (kvCons (wOf (kVar (nat_lit 5))) (kvCons (wOf (kVar (nat_lit 7))) (kvCons (wOf (kVar (nat_lit 6))) kvNil))))) kvNil)))) ksNext)))
theorem okb_next_corners  : SS (b_next_corners) (kb_next_corners) := by
  unfold b_next_corners kb_next_corners
  exact (ssSeq (ssUnp _ (sOf (sVar _))) (ssSeq (ssIf (stBool (sBinSS _ _ stIn)) (ssSeq (ssRet (sTup (svCons (sOf (sTup (svCons (sOf (sBinSL _ _ stAdd)) (svCons (sOf (sVar _)) svNil)))) (svCons (sOf (sTup (svCons (sOf (sVar _)) (svCons (sOf (sVar _)) (svCons (sOf (sVar _)) svNil))))) svNil)))) ssNext) ssNext) (ssSeq (ssRet (sTup (svCons (sOf (sTup (svCons (sOf (sVar _)) (svCons (sOf (sBinSL _ _ stAdd)) svNil)))) (svCons (sOf (sTup (svCons (sOf (sVar _)) (svCons (sOf (sVar _)) (svCons (sOf (sVar _)) svNil))))) svNil)))) ssNext)))
def kphi_next_corners : KC := kDefV (nat_lit 2) [none, none, none, none, none, none] kb_next_corners
theorem sphi_next_corners : SC phi_next_corners kphi_next_corners := sDefV rfl rfl (okb_next_corners)
def kb_first_corners : KS :=
    (ksSeq (ksPar (nat_lit 3) (nat_lit 4) (kBinSL tIx (nat_lit 0) (.int (Int.ofNat (nat_lit 0)))) (kBinSL tIx (nat_lit 1) (.int (Int.ofNat (nat_lit 0))))) (ksSeq (ksUnp (.tup [(nat_lit 5), (nat_lit 6)]) (wOf (kVar (nat_lit 2)))) (ksSeq (ksIf (ktBool (kBinXX tLtX (kBinXS tMod (kBinSS tSub (nat_lit 4) (nat_lit 5)) (nat_lit 3)) (kBinXS tMod (kBinSS tSub (nat_lit 4) (nat_lit 6)) (nat_lit 3)))) (ksSeq (ksRet (kTup (kvCons (wOf (kVar (nat_lit 4))) (kvCons (wOf (kVar (nat_lit 5))) (kvCons (wOf (kVar (nat_lit 6))) kvNil))))) ksNext) ksNext) (ksSeq (ksRet (kTup (kvCons (wOf (kVar (nat_lit 4))) (kvCons (wOf (kVar (nat_lit 6))) (kvCons (wOf (kVar (nat_lit 5))) kvNil))))) ksNext))))
theorem okb_first_corners  : SS (b_first_corners) (kb_first_corners) := by
  unfold b_first_corners kb_first_corners
  exact (ssSeq (ssPar _ _ (sBinSL _ _ stIx) (sBinSL _ _ stIx)) (ssSeq (ssUnp _ (sOf (sVar _))) (ssSeq (ssIf (stBool (sBinXX stLtX (sBinXS _ stMod (sBinSS _ _ stSub)) (sBinXS _ stMod (sBinSS _ _ stSub)))) (ssSeq (ssRet (sTup (svCons (sOf (sVar _)) (svCons (sOf (sVar _)) (svCons (sOf (sVar _)) svNil))))) ssNext) ssNext) (ssSeq (ssRet (sTup (svCons (sOf (sVar _)) (svCons (sOf (sVar _)) (svCons (sOf (sVar _)) svNil))))) ssNext))))
def kphi_first_corners : KC := kDefV (nat_lit 3) [none, none, none, none] kb_first_corners
theorem sphi_first_corners : SC phi_first_corners kphi_first_corners := sDefV rfl rfl (okb_first_corners)
def kb_thirds_of (g_near_of : KC) : KS :=
    (ksSeq (ksAsg (nat_lit 2) (kCall g_near_of (kaCons (wOf (kVar (nat_lit 0))) kaNil))) (ksSeq (ksRet (kLc (kiSeqS (wOf (kBinSX tIx (nat_lit 2) (kBinSL tIx (nat_lit 1) (.int (Int.ofNat (nat_lit 0))))))) (.name (nat_lit 3)) (ktBool (kBinSX tIn (nat_lit 3) (kBinSX tIx (nat_lit 2) (kBinSL tIx (nat_lit 1) (.int (Int.ofNat (nat_lit 1))))))) (wOf (kVar (nat_lit 3))) [(nat_lit 3)])) ksNext))
theorem okb_thirds_of {phi_near_of : CallD} {g_near_of : KC} (h_near_of : SC phi_near_of g_near_of) : SS (b_thirds_of phi_near_of) (kb_thirds_of g_near_of) := by
  unfold b_thirds_of kb_thirds_of
  exact (ssSeq (ssAsg _ (sCall h_near_of (saCons (sOf (sVar _)) saNil))) (ssSeq (ssRet (sLc (siSeqS (sOf (sBinSX _ stIx (sBinSL _ _ stIx)))) (stBool (sBinSX _ stIn (sBinSX _ stIx (sBinSL _ _ stIx)))) (sOf (sVar _)))) ssNext))
def kphi_thirds_of : KC := kDefV (nat_lit 2) [none, none] (kb_thirds_of kphi_near_of)
theorem sphi_thirds_of : SC phi_thirds_of kphi_thirds_of := sDefV rfl rfl (okb_thirds_of sphi_near_of)
def kb_tiles_of (g_cuts_across g_next_corners g_first_corners g_thirds_of : KC) : KS :=
    (ksSeq (ksAsg (nat_lit 2) (kTup kvNil)) (ksSeq (ksFor (kiSeqS (wOf (kCall g_cuts_across (kaCons (wOf (kVar (nat_lit 0))) (kaCons (wOf (kVar (nat_lit 1))) kaNil))))) (.name (nat_lit 3)) (ksSeq (ksIf (ktBool (kBinSX tEq (nat_lit 2) (kTup kvNil))) (ksSeq (ksPar (nat_lit 8) (nat_lit 9) (kTup (kvCons (wOf (kLit (.int (Int.ofNat (nat_lit 0))))) (kvCons (wOf (kLit (.int (Int.ofNat (nat_lit 0))))) kvNil))) (kCall g_first_corners (kaCons (wOf (kVar (nat_lit 0))) (kaCons (wOf (kVar (nat_lit 1))) (kaCons (wOf (kVar (nat_lit 3))) kaNil))))) ksNext) (ksSeq (ksUnp (.tup [(nat_lit 8), (nat_lit 9)]) (wOf (kCall g_next_corners (kaCons (wOf (kBinSX tIx (nat_lit 2) (kUnX (q1 pNeg) (kLit (.int (Int.ofNat (nat_lit 1))))))) (kaCons (wOf (kVar (nat_lit 3))) kaNil))))) ksNext)) (ksSeq (ksUnp (.tup [(nat_lit 5), (nat_lit 6), (nat_lit 7)]) (wOf (kVar (nat_lit 9)))) (ksSeq (ksAsg (nat_lit 4) (kBinXL tIx (kLc (kiSeqS (wOf (kCall g_thirds_of (kaCons (wOf (kVar (nat_lit 0))) (kaCons (wOf (kVar (nat_lit 3))) kaNil))))) (.name (nat_lit 10)) (ktBool (kBinSS tNe (nat_lit 10) (nat_lit 5))) (wOf (kVar (nat_lit 10))) [(nat_lit 10)]) (.int (Int.ofNat (nat_lit 0))))) (ksSeq (ksAsg (nat_lit 2) (kBinSX tAdd (nat_lit 2) (kTup (kvCons (wOf (kTup (kvCons (wOf (kVar (nat_lit 8))) (kvCons (wOf (kTup (kvCons (wOf (kVar (nat_lit 5))) (kvCons (wOf (kVar (nat_lit 6))) (kvCons (wOf (kVar (nat_lit 4))) (kvCons (wOf (kVar (nat_lit 7))) kvNil)))))) kvNil)))) kvNil)))) ksNext))))) (ksSeq (ksRetN (nat_lit 2)) ksNext)))
theorem okb_tiles_of {phi_cuts_across phi_next_corners phi_first_corners phi_thirds_of : CallD} {g_cuts_across g_next_corners g_first_corners g_thirds_of : KC} (h_cuts_across : SC phi_cuts_across g_cuts_across) (h_next_corners : SC phi_next_corners g_next_corners) (h_first_corners : SC phi_first_corners g_first_corners) (h_thirds_of : SC phi_thirds_of g_thirds_of) : SS (b_tiles_of phi_cuts_across phi_next_corners phi_first_corners phi_thirds_of) (kb_tiles_of g_cuts_across g_next_corners g_first_corners g_thirds_of) := by
  unfold b_tiles_of kb_tiles_of
  exact (ssSeq (ssAsg _ (sTup svNil)) (ssSeq (ssFor _ (siSeqS (sOf (sCall h_cuts_across (saCons (sOf (sVar _)) (saCons (sOf (sVar _)) saNil))))) (ssSeq (ssIf (stBool (sBinSX _ stEq (sTup svNil))) (ssSeq (ssPar _ _ (sTup (svCons (sOf (sLit _)) (svCons (sOf (sLit _)) svNil))) (sCall h_first_corners (saCons (sOf (sVar _)) (saCons (sOf (sVar _)) (saCons (sOf (sVar _)) saNil))))) ssNext) (ssSeq (ssUnp _ (sOf (sCall h_next_corners (saCons (sOf (sBinSX _ stIx (sUnX (s1 pNeg) (sLit _)))) (saCons (sOf (sVar _)) saNil))))) ssNext)) (ssSeq (ssUnp _ (sOf (sVar _))) (ssSeq (ssAsg _ (sBinXL _ stIx (sLc (siSeqS (sOf (sCall h_thirds_of (saCons (sOf (sVar _)) (saCons (sOf (sVar _)) saNil))))) (stBool (sBinSS _ _ stNe)) (sOf (sVar _))))) (ssSeq (ssAsg _ (sBinSX _ stAdd (sTup (svCons (sOf (sTup (svCons (sOf (sVar _)) (svCons (sOf (sTup (svCons (sOf (sVar _)) (svCons (sOf (sVar _)) (svCons (sOf (sVar _)) (svCons (sOf (sVar _)) svNil)))))) svNil)))) svNil)))) ssNext))))) (ssSeq (ssRetN _) ssNext)))
def kphi_tiles_of : KC := kDefV (nat_lit 2) [none, none, none, none, none, none, none, none, none] (kb_tiles_of kphi_cuts_across kphi_next_corners kphi_first_corners kphi_thirds_of)
theorem sphi_tiles_of : SC phi_tiles_of kphi_tiles_of := sDefV rfl rfl (okb_tiles_of sphi_cuts_across sphi_next_corners sphi_first_corners sphi_thirds_of)
def kb_spots_of : KS :=
    (ksSeq (ksRet (kLc (kiSeqS (wOf (kVar (nat_lit 0)))) (.tup [(nat_lit 1), (nat_lit 2)]) ktYes (wOf (kVar (nat_lit 1))) [(nat_lit 1), (nat_lit 2)])) ksNext)
theorem okb_spots_of  : SS (b_spots_of) (kb_spots_of) := by
  unfold b_spots_of kb_spots_of
  exact (ssSeq (ssRet (sLc (siSeqS (sOf (sVar _))) stYes (sOf (sVar _)))) ssNext)
def kphi_spots_of : KC := kDefV (nat_lit 1) [none, none] kb_spots_of
theorem sphi_spots_of : SC phi_spots_of kphi_spots_of := sDefV rfl rfl (okb_spots_of)
def kb_rails_at : KS :=
    (ksSeq (ksUnp (.tup [(nat_lit 1), (nat_lit 2)]) (wOf (kVar (nat_lit 0)))) (ksSeq (ksPar (nat_lit 3) (nat_lit 4) (kTup (kvCons (wOf (kVar (nat_lit 1))) (kvCons (wOf (kVar (nat_lit 2))) kvNil))) (kTup (kvCons (wOf (kVar (nat_lit 1))) (kvCons (wOf (kBinSL tAdd (nat_lit 2) (.int (Int.ofNat (nat_lit 1))))) kvNil)))) (ksSeq (ksPar (nat_lit 5) (nat_lit 6) (kTup (kvCons (wOf (kBinSL tAdd (nat_lit 1) (.int (Int.ofNat (nat_lit 1))))) (kvCons (wOf (kVar (nat_lit 2))) kvNil))) (kTup (kvCons (wOf (kBinSL tAdd (nat_lit 1) (.int (Int.ofNat (nat_lit 1))))) (kvCons (wOf (kBinSL tAdd (nat_lit 2) (.int (Int.ofNat (nat_lit 1))))) kvNil)))) (ksSeq (ksRet (kLst (kvCons (wOf (kTup (kvCons (wOf (kVar (nat_lit 3))) (kvCons (wOf (kVar (nat_lit 4))) kvNil)))) (kvCons (wOf (kTup (kvCons (wOf (kVar (nat_lit 3))) (kvCons (wOf (kVar (nat_lit 5))) kvNil)))) (kvCons (wOf (kTup (kvCons (wOf (kVar (nat_lit 4))) (kvCons (wOf (kVar (nat_lit 6))) kvNil)))) (kvCons (wOf (kTup (kvCons (wOf (kVar (nat_lit 5))) (kvCons (wOf (kVar (nat_lit 6))) kvNil)))) kvNil)))))) ksNext))))
theorem okb_rails_at  : SS (b_rails_at) (kb_rails_at) := by
  unfold b_rails_at kb_rails_at
  exact (ssSeq (ssUnp _ (sOf (sVar _))) (ssSeq (ssPar _ _ (sTup (svCons (sOf (sVar _)) (svCons (sOf (sVar _)) svNil))) (sTup (svCons (sOf (sVar _)) (svCons (sOf (sBinSL _ _ stAdd)) svNil)))) (ssSeq (ssPar _ _ (sTup (svCons (sOf (sBinSL _ _ stAdd)) (svCons (sOf (sVar _)) svNil))) (sTup (svCons (sOf (sBinSL _ _ stAdd)) (svCons (sOf (sBinSL _ _ stAdd)) svNil)))) (ssSeq (ssRet (sLst (svCons (sOf (sTup (svCons (sOf (sVar _)) (svCons (sOf (sVar _)) svNil)))) (svCons (sOf (sTup (svCons (sOf (sVar _)) (svCons (sOf (sVar _)) svNil)))) (svCons (sOf (sTup (svCons (sOf (sVar _)) (svCons (sOf (sVar _)) svNil)))) (svCons (sOf (sTup (svCons (sOf (sVar _)) (svCons (sOf (sVar _)) svNil)))) svNil)))))) ssNext))))
def kphi_rails_at : KC := kDefV (nat_lit 1) [none, none, none, none, none, none] kb_rails_at
theorem sphi_rails_at : SC phi_rails_at kphi_rails_at := sDefV rfl rfl (okb_rails_at)
def kb_all_rails (g_spots_of g_rails_at : KC) : KS :=
    (ksSeq (ksRet (kSortSet (wOf (kLc2 (kiSeqS (wOf (kCall g_spots_of (kaCons (wOf (kVar (nat_lit 0))) kaNil)))) (.name (nat_lit 1)) ktYes (kiSeqS (wOf (kCall g_rails_at (kaCons (wOf (kVar (nat_lit 1))) kaNil)))) (.name (nat_lit 2)) ktYes (wOf (kVar (nat_lit 2))) [(nat_lit 1), (nat_lit 2)] [(nat_lit 2)])))) ksNext)
theorem okb_all_rails {phi_spots_of phi_rails_at : CallD} {g_spots_of g_rails_at : KC} (h_spots_of : SC phi_spots_of g_spots_of) (h_rails_at : SC phi_rails_at g_rails_at) : SS (b_all_rails phi_spots_of phi_rails_at) (kb_all_rails g_spots_of g_rails_at) := by
  unfold b_all_rails kb_all_rails
  exact (ssSeq (ssRet (sSortSet (sOf (sLc2 (siSeqS (sOf (sCall h_spots_of (saCons (sOf (sVar _)) saNil)))) stYes (siSeqS (sOf (sCall h_rails_at (saCons (sOf (sVar _)) saNil)))) stYes (sOf (sVar _)))))) ssNext)
def kphi_all_rails : KC := kDefV (nat_lit 1) [none, none] (kb_all_rails kphi_spots_of kphi_rails_at)
theorem sphi_all_rails : SC phi_all_rails kphi_all_rails := sDefV rfl rfl (okb_all_rails sphi_spots_of sphi_rails_at)
def kb_is_pure (g_is_pure : KC) : KS :=
    (ksSeq (ksIf (ktTruth (koOf (kIsi .tuple (koSlot (nat_lit 0))))) (ksSeq (ksRet (kUnX (q1 pAll) (kLc (kiSeqS (wOf (kVar (nat_lit 0)))) (.name (nat_lit 1)) ktYes (wOf (kCall g_is_pure (kaCons (wOf (kVar (nat_lit 1))) kaNil))) [(nat_lit 1)]))) ksNext) ksNext) (ksSeq (ksRet (kAnd (kIsi .int (koSlot (nat_lit 0))) (kNot (kIsi .bool (koSlot (nat_lit 0)))))) ksNext))
theorem okb_is_pure {phi_is_pure : CallD} {g_is_pure : KC} (h_is_pure : SC phi_is_pure g_is_pure) : SS (b_is_pure phi_is_pure) (kb_is_pure g_is_pure) := by
  unfold b_is_pure kb_is_pure
  exact (ssSeq (ssIf (stTruth (soOf (sIsi _ (soSlot _)))) (ssSeq (ssRet (sUnX (s1 pAll) (sLc (siSeqS (sOf (sVar _))) stYes (sOf (sCall h_is_pure (saCons (sOf (sVar _)) saNil)))))) ssNext) ssNext) (ssSeq (ssRet (sAnd (sIsi _ (soSlot _)) (sNot (sIsi _ (soSlot _))))) ssNext))
def kphi_is_pure (n : Nat) : KC := @Nat.rec (fun _ => KC) kNo (fun _ ih => kDefV (nat_lit 1) [none] (kb_is_pure ih)) n
theorem sphi_is_pure : ∀ n : Nat, SC (phi_is_pure n) (kphi_is_pure n)
  | 0 => sNo
  | n + 1 => sDefV rfl rfl (okb_is_pure (sphi_is_pure n))
def kb_fits_pairing (g_all_rails g_rises g_is_pure : KC) : KS :=
    (ksSeq (ksAsg (nat_lit 2) (kCall g_all_rails (kaCons (wOf (kVar (nat_lit 0))) kaNil))) (ksSeq (ksIf (ktOr (ktNot (ktTruth (koOf (kIsi .tuple (koSlot (nat_lit 1)))))) (ktOr (ktNot (ktTruth (koOf (kUnX (q1 pAll) (kLc (kiSeqS (wOf (kVar (nat_lit 1)))) (.name (nat_lit 4)) ktYes (wOf (kAnd (kCall g_is_pure (kaCons (wOf (kVar (nat_lit 4))) kaNil)) (kBinSS tIn (nat_lit 4) (nat_lit 2)))) [(nat_lit 4)]))))) (ktNot (ktTruth (koOf (kCall g_rises (kaCons (wOf (kVar (nat_lit 1))) kaNil))))))) (ksSeq (ksRet (kLit (.bool false))) ksNext) ksNext) (ksSeq (ksAsg (nat_lit 3) (kLc2 (kiSeqS (wOf (kVar (nat_lit 1)))) (.name (nat_lit 4)) ktYes (kiSeqS (wOf (kVar (nat_lit 4)))) (.name (nat_lit 5)) ktYes (wOf (kVar (nat_lit 5))) [(nat_lit 4), (nat_lit 5)] [(nat_lit 5)])) (ksSeq (ksRet (kBinXX tEq (kUnS (q1 pSorted) (nat_lit 3)) (kSortSet (wOf (kLc2 (kiSeqS (wOf (kVar (nat_lit 2)))) (.name (nat_lit 4)) ktYes (kiSeqS (wOf (kVar (nat_lit 4)))) (.name (nat_lit 5)) ktYes (wOf (kVar (nat_lit 5))) [(nat_lit 4), (nat_lit 5)] [(nat_lit 5)]))))) ksNext))))
theorem okb_fits_pairing {phi_all_rails phi_rises phi_is_pure : CallD} {g_all_rails g_rises g_is_pure : KC} (h_all_rails : SC phi_all_rails g_all_rails) (h_rises : SC phi_rises g_rises) (h_is_pure : SC phi_is_pure g_is_pure) : SS (b_fits_pairing phi_all_rails phi_rises phi_is_pure) (kb_fits_pairing g_all_rails g_rises g_is_pure) := by
  unfold b_fits_pairing kb_fits_pairing
  exact (ssSeq (ssAsg _ (sCall h_all_rails (saCons (sOf (sVar _)) saNil))) (ssSeq (ssIf (stOr (stNot (stTruth (soOf (sIsi _ (soSlot _))))) (stOr (stNot (stTruth (soOf (sUnX (s1 pAll) (sLc (siSeqS (sOf (sVar _))) stYes (sOf (sAnd (sCall h_is_pure (saCons (sOf (sVar _)) saNil)) (sBinSS _ _ stIn)))))))) (stNot (stTruth (soOf (sCall h_rises (saCons (sOf (sVar _)) saNil))))))) (ssSeq (ssRet (sLit _)) ssNext) ssNext) (ssSeq (ssAsg _ (sLc2 (siSeqS (sOf (sVar _))) stYes (siSeqS (sOf (sVar _))) stYes (sOf (sVar _)))) (ssSeq (ssRet (sBinXX stEq (sUnS _ (s1 pSorted)) (sSortSet (sOf (sLc2 (siSeqS (sOf (sVar _))) stYes (siSeqS (sOf (sVar _))) stYes (sOf (sVar _))))))) ssNext))))
def kphi_fits_pairing : KC := kDefV (nat_lit 2) [none, none, none, none] (kb_fits_pairing kphi_all_rails kphi_rises (kphi_is_pure (nat_lit 3)))
theorem sphi_fits_pairing : SC phi_fits_pairing kphi_fits_pairing := sDefV rfl rfl (okb_fits_pairing sphi_all_rails sphi_rises (sphi_is_pure 3))
def kb_need_pairing (g_fits_pairing : KC) : KS :=
    (ksSeq (ksIf (ktNot (ktTruth (koOf (kCall g_fits_pairing (kaCons (wOf (kVar (nat_lit 0))) (kaCons (wOf (kVar (nat_lit 1))) kaNil)))))) (ksSeq ksStuck ksNext) ksNext) ksNext)
theorem okb_need_pairing {phi_fits_pairing : CallD} {g_fits_pairing : KC} (h_fits_pairing : SC phi_fits_pairing g_fits_pairing) : SS (b_need_pairing phi_fits_pairing) (kb_need_pairing g_fits_pairing) := by
  unfold b_need_pairing kb_need_pairing
  exact (ssSeq (ssIf (stNot (stTruth (soOf (sCall h_fits_pairing (saCons (sOf (sVar _)) (saCons (sOf (sVar _)) saNil)))))) (ssSeq ssStuck ssNext) ssNext) ssNext)
def kphi_need_pairing : KC := kDefV (nat_lit 2) [] (kb_need_pairing kphi_fits_pairing)
theorem sphi_need_pairing : SC phi_need_pairing kphi_need_pairing := sDefV rfl rfl (okb_need_pairing sphi_fits_pairing)
def kb_tiles_for (g_need_across g_tiles_of g_need_pairing : KC) : KS :=
    (ksSeq (ksDrop (kCall g_need_across (kaCons (wOf (kVar (nat_lit 0))) (kaCons (wOf (kVar (nat_lit 1))) kaNil)))) (ksSeq (ksAsg (nat_lit 3) (kCall g_tiles_of (kaCons (wOf (kVar (nat_lit 0))) (kaCons (wOf (kVar (nat_lit 1))) kaNil)))) (ksSeq (ksFor (kiSeqS (wOf (kVar (nat_lit 2)))) (.name (nat_lit 4)) (ksSeq (ksDrop (kCall g_need_pairing (kaCons (wOf (kVar (nat_lit 3))) (kaCons (wOf (kVar (nat_lit 4))) kaNil)))) ksNext)) (ksSeq (ksRetN (nat_lit 3)) ksNext))))
theorem okb_tiles_for {phi_need_across phi_tiles_of phi_need_pairing : CallD} {g_need_across g_tiles_of g_need_pairing : KC} (h_need_across : SC phi_need_across g_need_across) (h_tiles_of : SC phi_tiles_of g_tiles_of) (h_need_pairing : SC phi_need_pairing g_need_pairing) : SS (b_tiles_for phi_need_across phi_tiles_of phi_need_pairing) (kb_tiles_for g_need_across g_tiles_of g_need_pairing) := by
  unfold b_tiles_for kb_tiles_for
  exact (ssSeq (ssDrop (sCall h_need_across (saCons (sOf (sVar _)) (saCons (sOf (sVar _)) saNil)))) (ssSeq (ssAsg _ (sCall h_tiles_of (saCons (sOf (sVar _)) (saCons (sOf (sVar _)) saNil)))) (ssSeq (ssFor _ (siSeqS (sOf (sVar _))) (ssSeq (ssDrop (sCall h_need_pairing (saCons (sOf (sVar _)) (saCons (sOf (sVar _)) saNil)))) ssNext)) (ssSeq (ssRetN _) ssNext))))
def kphi_tiles_for : KC := kDefV (nat_lit 3) [none, none] (kb_tiles_for kphi_need_across kphi_tiles_of kphi_need_pairing)
theorem sphi_tiles_for : SC phi_tiles_for kphi_tiles_for := sDefV rfl rfl (okb_tiles_for sphi_need_across sphi_tiles_of sphi_need_pairing)
def kb_is_later_first : KS :=
    (ksSeq (ksRet (kBinXX tEq (kBinSL tEq (nat_lit 1) (.str (Str.ofString "right"))) (kBinXL tEq (kBinSL tMod (nat_lit 0) (.int (Int.ofNat (nat_lit 2)))) (.int (Int.ofNat (nat_lit 0)))))) ksNext)
theorem okb_is_later_first  : SS (b_is_later_first) (kb_is_later_first) := by
  unfold b_is_later_first kb_is_later_first
  exact (ssSeq (ssRet (sBinXX stEq (sBinSL _ _ stEq) (sBinXL _ stEq (sBinSL _ _ stMod)))) ssNext)
def kphi_is_later_first : KC := kDefV (nat_lit 2) [] kb_is_later_first
theorem sphi_is_later_first : SC phi_is_later_first kphi_is_later_first := sDefV rfl rfl (okb_is_later_first)
def kb_rows_added : KS :=
    (ksSeq (ksAsg (nat_lit 2) (kBinXX (q2 qMax) (kUnS tLen (nat_lit 0)) (kUnS tLen (nat_lit 1)))) (ksSeq (ksAsg (nat_lit 3) (kLc (kiSeqS (wOf (kTup (kvCons (wOf (kVar (nat_lit 0))) (kvCons (wOf (kVar (nat_lit 1))) kvNil))))) (.name (nat_lit 4)) ktYes (wOf (kBinXX tAdd (kUnS tLst (nat_lit 4)) (kBinXX tMul (kLst (kvCons (wOf (kLit (.int (Int.ofNat (nat_lit 0))))) kvNil)) (kBinSX tSub (nat_lit 2) (kUnS tLen (nat_lit 4)))))) [(nat_lit 4)])) (ksSeq (ksRet (kLc (kiZip (wOf (kBinSL tIx (nat_lit 3) (.int (Int.ofNat (nat_lit 0))))) (wOf (kBinSL tIx (nat_lit 3) (.int (Int.ofNat (nat_lit 1)))))) (.tup [(nat_lit 5), (nat_lit 6)]) ktYes (wOf (kBinSS tAdd (nat_lit 5) (nat_lit 6))) [(nat_lit 5), (nat_lit 6)])) ksNext)))
theorem okb_rows_added  : SS (b_rows_added) (kb_rows_added) := by
  unfold b_rows_added kb_rows_added
  exact (ssSeq (ssAsg _ (sBinXX (s2 qMax) (sUnS _ stLen) (sUnS _ stLen))) (ssSeq (ssAsg _ (sLc (siSeqS (sOf (sTup (svCons (sOf (sVar _)) (svCons (sOf (sVar _)) svNil))))) stYes (sOf (sBinXX stAdd (sUnS _ stLst) (sBinXX stMul (sLst (svCons (sOf (sLit _)) svNil)) (sBinSX _ stSub (sUnS _ stLen))))))) (ssSeq (ssRet (sLc (siZip (sOf (sBinSL _ _ stIx)) (sOf (sBinSL _ _ stIx))) stYes (sOf (sBinSS _ _ stAdd)))) ssNext)))
def kphi_rows_added : KC := kDefV (nat_lit 2) [none, none, none, none, none] kb_rows_added
theorem sphi_rows_added : SC phi_rows_added kphi_rows_added := sDefV rfl rfl (okb_rows_added)
def kb_level_rows (g_is_later_first g_rows_added : KC) : KS :=
    (ksSeq (ksPar (nat_lit 2) (nat_lit 3) (kLst (kvCons (wOf (kLit (.int (Int.ofNat (nat_lit 1))))) kvNil)) (kLst (kvCons (wOf (kLit (.int (Int.ofNat (nat_lit 0))))) (kvCons (wOf (kLit (.int (Int.ofNat (nat_lit 1))))) kvNil)))) (ksSeq (ksFor (kiRange3 (wOf (kBinXL tSub (kUnS tLen (nat_lit 0)) (.int (Int.ofNat (nat_lit 1))))) (wOf (kUnX (q1 pNeg) (kLit (.int (Int.ofNat (nat_lit 1)))))) (wOf (kUnX (q1 pNeg) (kLit (.int (Int.ofNat (nat_lit 1))))))) (.name (nat_lit 1)) (ksSeq (ksIf (ktTruth (koOf (kCall g_is_later_first (kaCons (wOf (kVar (nat_lit 1))) (kaCons (wOf (kBinSS tIx (nat_lit 0) (nat_lit 1))) kaNil))))) (ksSeq (ksPar (nat_lit 2) (nat_lit 3) (kCall g_rows_added (kaCons (wOf (kVar (nat_lit 2))) (kaCons (wOf (kVar (nat_lit 3))) kaNil))) (kBinXS tAdd (kLst (kvCons (wOf (kLit (.int (Int.ofNat (nat_lit 0))))) kvNil)) (nat_lit 3))) ksNext) (ksSeq (ksPar (nat_lit 2) (nat_lit 3) (kVar (nat_lit 2)) (kBinXX tAdd (kLst (kvCons (wOf (kLit (.int (Int.ofNat (nat_lit 0))))) kvNil)) (kCall g_rows_added (kaCons (wOf (kVar (nat_lit 2))) (kaCons (wOf (kVar (nat_lit 3))) kaNil))))) ksNext)) ksNext)) (ksSeq (ksRet (kTup (kvCons (wOf (kVar (nat_lit 2))) (kvCons (wOf (kVar (nat_lit 3))) kvNil)))) ksNext)))
theorem okb_level_rows {phi_is_later_first phi_rows_added : CallD} {g_is_later_first g_rows_added : KC} (h_is_later_first : SC phi_is_later_first g_is_later_first) (h_rows_added : SC phi_rows_added g_rows_added) : SS (b_level_rows phi_is_later_first phi_rows_added) (kb_level_rows g_is_later_first g_rows_added) := by
  unfold b_level_rows kb_level_rows
  exact (ssSeq (ssPar _ _ (sLst (svCons (sOf (sLit _)) svNil)) (sLst (svCons (sOf (sLit _)) (svCons (sOf (sLit _)) svNil)))) (ssSeq (ssFor _ (siRange3 (sOf (sBinXL _ stSub (sUnS _ stLen))) (sOf (sUnX (s1 pNeg) (sLit _))) (sOf (sUnX (s1 pNeg) (sLit _)))) (ssSeq (ssIf (stTruth (soOf (sCall h_is_later_first (saCons (sOf (sVar _)) (saCons (sOf (sBinSS _ _ stIx)) saNil))))) (ssSeq (ssPar _ _ (sCall h_rows_added (saCons (sOf (sVar _)) (saCons (sOf (sVar _)) saNil))) (sBinXS _ stAdd (sLst (svCons (sOf (sLit _)) svNil)))) ssNext) (ssSeq (ssPar _ _ (sVar _) (sBinXX stAdd (sLst (svCons (sOf (sLit _)) svNil)) (sCall h_rows_added (saCons (sOf (sVar _)) (saCons (sOf (sVar _)) saNil))))) ssNext)) ssNext)) (ssSeq (ssRet (sTup (svCons (sOf (sVar _)) (svCons (sOf (sVar _)) svNil)))) ssNext)))
def kphi_level_rows : KC := kDefV (nat_lit 1) [none, none, none] (kb_level_rows kphi_is_later_first kphi_rows_added)
theorem sphi_level_rows : SC phi_level_rows kphi_level_rows := sDefV rfl rfl (okb_level_rows sphi_is_later_first sphi_rows_added)
def kb_tally_by (g_level_rows : KC) : KS :=
    (ksSeq (ksUnp (.tup [(nat_lit 1), (nat_lit 2)]) (wOf (kCall g_level_rows (kaCons (wOf (kVar (nat_lit 0))) kaNil)))) (ksSeq (ksRet (kTup (kvCons (wOf (kBinXX tAdd (kUnS (q1 qSum) (nat_lit 1)) (kUnS (q1 qSum) (nat_lit 2)))) (kvCons (wOf (kUnS (q1 qSum) (nat_lit 1))) kvNil)))) ksNext))
theorem okb_tally_by {phi_level_rows : CallD} {g_level_rows : KC} (h_level_rows : SC phi_level_rows g_level_rows) : SS (b_tally_by phi_level_rows) (kb_tally_by g_level_rows) := by
  unfold b_tally_by kb_tally_by
  exact (ssSeq (ssUnp _ (sOf (sCall h_level_rows (saCons (sOf (sVar _)) saNil)))) (ssSeq (ssRet (sTup (svCons (sOf (sBinXX stAdd (sUnS _ (s1 qSum)) (sUnS _ (s1 qSum)))) (svCons (sOf (sUnS _ (s1 qSum))) svNil)))) ssNext))
def kphi_tally_by : KC := kDefV (nat_lit 1) [none, none] (kb_tally_by kphi_level_rows)
theorem sphi_tally_by : SC phi_tally_by kphi_tally_by := sDefV rfl rfl (okb_tally_by sphi_level_rows)
def kb_words_of : KS :=
    (ksSeq (ksAsg (nat_lit 1) (kLc (kiSeqS (wOf (kVar (nat_lit 0)))) (.tup [(nat_lit 2), (nat_lit 3)]) ktYes (wOf (kVar (nat_lit 2))) [(nat_lit 2), (nat_lit 3)])) (ksSeq (ksRet (kUnX tTup (kLc (kiZip (wOf (kVar (nat_lit 1))) (wOf (kSl (koSlot (nat_lit 1)) (kpSome (wOf (kLit (.int (Int.ofNat (nat_lit 1)))))) kpNone))) (.tup [(nat_lit 4), (nat_lit 5)]) ktYes (wOf (kIf (ktBool (kBinXX tEq (kBinSL tIx (nat_lit 4) (.int (Int.ofNat (nat_lit 1)))) (kBinSL tIx (nat_lit 5) (.int (Int.ofNat (nat_lit 1)))))) (kLit (.str (Str.ofString "right"))) (kLit (.str (Str.ofString "up"))))) [(nat_lit 4), (nat_lit 5)]))) ksNext))
theorem okb_words_of  : SS (b_words_of) (kb_words_of) := by
  unfold b_words_of kb_words_of
  exact (ssSeq (ssAsg _ (sLc (siSeqS (sOf (sVar _))) stYes (sOf (sVar _)))) (ssSeq (ssRet (sUnX stTup (sLc (siZip (sOf (sVar _)) (sOf (sSl (soSlot _) (spSome (sOf (sLit _))) spNone))) stYes (sOf (sIf (stBool (sBinXX stEq (sBinSL _ _ stIx) (sBinSL _ _ stIx))) (sLit _) (sLit _)))))) ssNext))
def kphi_words_of : KC := kDefV (nat_lit 1) [none, none, none, none, none] kb_words_of
theorem sphi_words_of : SC phi_words_of kphi_words_of := sDefV rfl rfl (okb_words_of)
def kb_count_pairings (g_tiles_for g_tally_by g_words_of : KC) : KS :=
    (ksSeq (ksAsg (nat_lit 2) (kCall g_tiles_for (kaCons (wOf (kVar (nat_lit 0))) (kaCons (wOf (kVar (nat_lit 1))) (kaCons (wOf (kTup kvNil)) kaNil))))) (ksSeq (ksRet (kIf (ktBool (kBinSX tNe (nat_lit 2) (kTup kvNil))) (kBinXL tIx (kCall g_tally_by (kaCons (wOf (kCall g_words_of (kaCons (wOf (kVar (nat_lit 2))) kaNil))) kaNil)) (.int (Int.ofNat (nat_lit 0)))) (kLit (.int (Int.ofNat (nat_lit 1)))))) ksNext))
theorem okb_count_pairings {phi_tiles_for phi_tally_by phi_words_of : CallD} {g_tiles_for g_tally_by g_words_of : KC} (h_tiles_for : SC phi_tiles_for g_tiles_for) (h_tally_by : SC phi_tally_by g_tally_by) (h_words_of : SC phi_words_of g_words_of) : SS (b_count_pairings phi_tiles_for phi_tally_by phi_words_of) (kb_count_pairings g_tiles_for g_tally_by g_words_of) := by
  unfold b_count_pairings kb_count_pairings
  exact (ssSeq (ssAsg _ (sCall h_tiles_for (saCons (sOf (sVar _)) (saCons (sOf (sVar _)) (saCons (sOf (sTup svNil)) saNil))))) (ssSeq (ssRet (sIf (stBool (sBinSX _ stNe (sTup svNil))) (sBinXL _ stIx (sCall h_tally_by (saCons (sOf (sCall h_words_of (saCons (sOf (sVar _)) saNil))) saNil))) (sLit _))) ssNext))
def kphi_count_pairings : KC := kDefV (nat_lit 2) [none] (kb_count_pairings kphi_tiles_for kphi_tally_by kphi_words_of)
theorem sphi_count_pairings : SC phi_count_pairings kphi_count_pairings := sDefV rfl rfl (okb_count_pairings sphi_tiles_for sphi_tally_by sphi_words_of)
def kb__law_number_across : KS :=
    (ksSeq (ksPar (nat_lit 4) (nat_lit 5) (kBinXL tSub (kUnS tLen (nat_lit 0)) (.int (Int.ofNat (nat_lit 1)))) (kBinXL tSub (kUnS tLen (nat_lit 1)) (.int (Int.ofNat (nat_lit 1))))) (ksSeq (ksRet (kBinXX tAdd (kBinXX tMul (kBinXS tIx (kBinSL tIx (nat_lit 0) (.int (Int.ofNat (nat_lit 0)))) (nat_lit 2)) (kBinXS tIx (kBinSL tIx (nat_lit 1) (.int (Int.ofNat (nat_lit 0)))) (nat_lit 3))) (kBinXX tMul (kBinXX tAdd (kBinXS tIx (kBinSS tIx (nat_lit 1) (nat_lit 3)) (nat_lit 5)) (kBinXS tIx (kBinSL tIx (nat_lit 1) (.int (Int.ofNat (nat_lit 0)))) (nat_lit 3))) (kBinXS tIx (kBinSS tIx (nat_lit 0) (nat_lit 2)) (nat_lit 4))))) ksNext))
theorem okb__law_number_across  : SS (b__law_number_across) (kb__law_number_across) := by
  unfold b__law_number_across kb__law_number_across
  exact (ssSeq (ssPar _ _ (sBinXL _ stSub (sUnS _ stLen)) (sBinXL _ stSub (sUnS _ stLen))) (ssSeq (ssRet (sBinXX stAdd (sBinXX stMul (sBinXS _ stIx (sBinSL _ _ stIx)) (sBinXS _ stIx (sBinSL _ _ stIx))) (sBinXX stMul (sBinXX stAdd (sBinXS _ stIx (sBinSS _ _ stIx)) (sBinXS _ stIx (sBinSL _ _ stIx))) (sBinXS _ stIx (sBinSS _ _ stIx))))) ssNext))
def kphi__law_number_across : KC := kDefV (nat_lit 4) [none, none] kb__law_number_across
theorem sphi__law_number_across : SC phi__law_number_across kphi__law_number_across := sDefV rfl rfl (okb__law_number_across)
def kb_is_cutting (g_fits_cutting : KC) : KS :=
    (ksSeq (ksRet (kCall g_fits_cutting (kaCons (wOf (kVar (nat_lit 0))) kaNil))) ksNext)
theorem okb_is_cutting {phi_fits_cutting : CallD} {g_fits_cutting : KC} (h_fits_cutting : SC phi_fits_cutting g_fits_cutting) : SS (b_is_cutting phi_fits_cutting) (kb_is_cutting g_fits_cutting) := by
  unfold b_is_cutting kb_is_cutting
  exact (ssSeq (ssRet (sCall h_fits_cutting (saCons (sOf (sVar _)) saNil))) ssNext)
def kphi_is_cutting : KC := kDefV (nat_lit 1) [] (kb_is_cutting kphi_fits_cutting)
theorem sphi_is_cutting : SC phi_is_cutting kphi_is_cutting := sDefV rfl rfl (okb_is_cutting sphi_fits_cutting)
def kb_need_few : KS :=
    (ksSeq (ksIf (ktBool (kBinSS tGtX (nat_lit 0) (nat_lit 1))) (ksSeq ksStuck ksNext) ksNext) ksNext)
theorem okb_need_few  : SS (b_need_few) (kb_need_few) := by
  unfold b_need_few kb_need_few
  exact (ssSeq (ssIf (stBool (sBinSS _ _ stGtX)) (ssSeq ssStuck ssNext) ssNext) ssNext)
def kphi_need_few : KC := kDefV (nat_lit 2) [] kb_need_few
theorem sphi_need_few : SC phi_need_few kphi_need_few := sDefV rfl rfl (okb_need_few)
def kb_need_small_cutting (g_need_cutting g_need_few : KC) : KS :=
    (ksSeq (ksDrop (kCall g_need_cutting (kaCons (wOf (kVar (nat_lit 0))) kaNil))) (ksSeq (ksDrop (kCall g_need_few (kaCons (wOf (kBinSL tIx (nat_lit 0) (.int (Int.ofNat (nat_lit 0))))) (kaCons (wOf (kBinXL tAdd (kLit (.int (Int.ofNat (nat_lit 24)))) (.int (Int.ofNat (nat_lit 2))))) kaNil)))) ksNext))
theorem okb_need_small_cutting {phi_need_cutting phi_need_few : CallD} {g_need_cutting g_need_few : KC} (h_need_cutting : SC phi_need_cutting g_need_cutting) (h_need_few : SC phi_need_few g_need_few) : SS (b_need_small_cutting phi_need_cutting phi_need_few) (kb_need_small_cutting g_need_cutting g_need_few) := by
  unfold b_need_small_cutting kb_need_small_cutting
  exact (ssSeq (ssDrop (sCall h_need_cutting (saCons (sOf (sVar _)) saNil))) (ssSeq (ssDrop (sCall h_need_few (saCons (sOf (sBinSL _ _ stIx)) (saCons (sOf (sBinXL _ stAdd (sLit _))) saNil)))) ssNext))
def kphi_need_small_cutting : KC := kDefV (nat_lit 1) [] (kb_need_small_cutting kphi_need_cutting kphi_need_few)
theorem sphi_need_small_cutting : SC phi_need_small_cutting kphi_need_small_cutting := sDefV rfl rfl (okb_need_small_cutting sphi_need_cutting sphi_need_few)
def kb_tree_between (g_tree_between g_thirds_of : KC) : KS :=
    (ksSeq (ksIf (ktBool (kBinXL tLtX (kBinSS tSub (nat_lit 2) (nat_lit 1)) (.int (Int.ofNat (nat_lit 2))))) (ksSeq (ksRet (kTup kvNil)) ksNext) ksNext) (ksSeq (ksAsg (nat_lit 3) (kBinXL tIx (kLc (kiSeqS (wOf (kCall g_thirds_of (kaCons (wOf (kVar (nat_lit 0))) (kaCons (wOf (kTup (kvCons (wOf (kVar (nat_lit 1))) (kvCons (wOf (kVar (nat_lit 2))) kvNil)))) kaNil))))) (.name (nat_lit 4)) (ktBool (kChain (koSlot (nat_lit 1)) (kcMore tLtX (koSlot (nat_lit 4)) (kcOne tLtX (koSlot (nat_lit 2)))))) (wOf (kVar (nat_lit 4))) [(nat_lit 4)]) (.int (Int.ofNat (nat_lit 0))))) (ksSeq (ksRet (kTup (kvCons (wOf (kCall g_tree_between (kaCons (wOf (kVar (nat_lit 0))) (kaCons (wOf (kVar (nat_lit 1))) (kaCons (wOf (kVar (nat_lit 3))) kaNil))))) (kvCons (wOf (kCall g_tree_between (kaCons (wOf (kVar (nat_lit 0))) (kaCons (wOf (kVar (nat_lit 3))) (kaCons (wOf (kVar (nat_lit 2))) kaNil))))) kvNil)))) ksNext)))
theorem okb_tree_between {phi_tree_between phi_thirds_of : CallD} {g_tree_between g_thirds_of : KC} (h_tree_between : SC phi_tree_between g_tree_between) (h_thirds_of : SC phi_thirds_of g_thirds_of) : SS (b_tree_between phi_tree_between phi_thirds_of) (kb_tree_between g_tree_between g_thirds_of) := by
  unfold b_tree_between kb_tree_between
  exact (ssSeq (ssIf (stBool (sBinXL _ stLtX (sBinSS _ _ stSub))) (ssSeq (ssRet (sTup svNil)) ssNext) ssNext) (ssSeq (ssAsg _ (sBinXL _ stIx (sLc (siSeqS (sOf (sCall h_thirds_of (saCons (sOf (sVar _)) (saCons (sOf (sTup (svCons (sOf (sVar _)) (svCons (sOf (sVar _)) svNil)))) saNil))))) (stBool (sChain (soSlot _) (scMore stLtX (soSlot _) (scOne stLtX (soSlot _))))) (sOf (sVar _))))) (ssSeq (ssRet (sTup (svCons (sOf (sCall h_tree_between (saCons (sOf (sVar _)) (saCons (sOf (sVar _)) (saCons (sOf (sVar _)) saNil))))) (svCons (sOf (sCall h_tree_between (saCons (sOf (sVar _)) (saCons (sOf (sVar _)) (saCons (sOf (sVar _)) saNil))))) svNil)))) ssNext)))
def kphi_tree_between (n : Nat) : KC := @Nat.rec (fun _ => KC) kNo (fun _ ih => kDefV (nat_lit 3) [none, none] (kb_tree_between ih kphi_thirds_of)) n
theorem sphi_tree_between : ∀ n : Nat, SC (phi_tree_between n) (kphi_tree_between n)
  | 0 => sNo
  | n + 1 => sDefV rfl rfl (okb_tree_between (sphi_tree_between n) sphi_thirds_of)
def kb_tree_of (g_need_small_cutting g_tree_between : KC) : KS :=
    (ksSeq (ksDrop (kCall g_need_small_cutting (kaCons (wOf (kVar (nat_lit 0))) kaNil))) (ksSeq (ksRet (kCall g_tree_between (kaCons (wOf (kVar (nat_lit 0))) (kaCons (wOf (kLit (.int (Int.ofNat (nat_lit 0))))) (kaCons (wOf (kBinXL tSub (kBinSL tIx (nat_lit 0) (.int (Int.ofNat (nat_lit 0)))) (.int (Int.ofNat (nat_lit 1))))) kaNil))))) ksNext))
theorem okb_tree_of {phi_need_small_cutting phi_tree_between : CallD} {g_need_small_cutting g_tree_between : KC} (h_need_small_cutting : SC phi_need_small_cutting g_need_small_cutting) (h_tree_between : SC phi_tree_between g_tree_between) : SS (b_tree_of phi_need_small_cutting phi_tree_between) (kb_tree_of g_need_small_cutting g_tree_between) := by
  unfold b_tree_of kb_tree_of
  exact (ssSeq (ssDrop (sCall h_need_small_cutting (saCons (sOf (sVar _)) saNil))) (ssSeq (ssRet (sCall h_tree_between (saCons (sOf (sVar _)) (saCons (sOf (sLit _)) (saCons (sOf (sBinXL _ stSub (sBinSL _ _ stIx))) saNil))))) ssNext))
def kphi_tree_of : KC := kDefV (nat_lit 1) [] (kb_tree_of kphi_need_small_cutting (kphi_tree_between (nat_lit 10)))
theorem sphi_tree_of : SC phi_tree_of kphi_tree_of := sDefV rfl rfl (okb_tree_of sphi_need_small_cutting (sphi_tree_between 10))
def kb_counts_at (g_need_cutting g_piece_counts : KC) : KS :=
    (ksSeq (ksDrop (kCall g_need_cutting (kaCons (wOf (kVar (nat_lit 0))) kaNil))) (ksSeq (ksRet (kCall g_piece_counts (kaCons (wOf (kVar (nat_lit 0))) kaNil))) ksNext))
theorem okb_counts_at {phi_need_cutting phi_piece_counts : CallD} {g_need_cutting g_piece_counts : KC} (h_need_cutting : SC phi_need_cutting g_need_cutting) (h_piece_counts : SC phi_piece_counts g_piece_counts) : SS (b_counts_at phi_need_cutting phi_piece_counts) (kb_counts_at g_need_cutting g_piece_counts) := by
  unfold b_counts_at kb_counts_at
  exact (ssSeq (ssDrop (sCall h_need_cutting (saCons (sOf (sVar _)) saNil))) (ssSeq (ssRet (sCall h_piece_counts (saCons (sOf (sVar _)) saNil))) ssNext))
def kphi_counts_at : KC := kDefV (nat_lit 1) [] (kb_counts_at kphi_need_cutting kphi_piece_counts)
theorem sphi_counts_at : SC phi_counts_at kphi_counts_at := sDefV rfl rfl (okb_counts_at sphi_need_cutting sphi_piece_counts)
def kb_gathered : KS :=
    (ksSeq (ksAsg (nat_lit 1) kDict0) (ksSeq (ksFor (kiEnum (wOf (kVar (nat_lit 0)))) (.tup [(nat_lit 2), (nat_lit 3)]) (ksSeq (ksDPut (nat_lit 1) (wOf (kVar (nat_lit 3))) (wOf (kBinXX tAdd (kDGetOr (nat_lit 1) (wOf (kVar (nat_lit 3))) (wOf (kTup kvNil))) (kTup (kvCons (wOf (kVar (nat_lit 2))) kvNil))))) ksNext)) (ksSeq (ksRet (kUnX tTup (kSortedV (nat_lit 1)))) ksNext)))
theorem okb_gathered  : SS (b_gathered) (kb_gathered) := by
  unfold b_gathered kb_gathered
  exact (ssSeq (ssAsg _ sDict0) (ssSeq (ssFor _ (siEnum (sOf (sVar _))) (ssSeq (ssDPut _ (sOf (sVar _)) (sOf (sBinXX stAdd (sDGetOr _ (sOf (sVar _)) (sOf (sTup svNil))) (sTup (svCons (sOf (sVar _)) svNil))))) ssNext)) (ssSeq (ssRet (sUnX stTup (sSortedV _))) ssNext)))
def kphi_gathered : KC := kDefV (nat_lit 1) [none, none, none] kb_gathered
theorem sphi_gathered : SC phi_gathered kphi_gathered := sDefV rfl rfl (okb_gathered)
def kb_all_pieces (g_all_ties g_near_of : KC) : KS :=
    (ksSeq (ksUnp (.tup [(nat_lit 1), (nat_lit 2)]) (wOf (kTup (kvCons (wOf (kCall g_near_of (kaCons (wOf (kVar (nat_lit 0))) kaNil))) (kvCons (wOf (kLst kvNil)) kvNil))))) (ksSeq (ksFor (kiSeqS (wOf (kCall g_all_ties (kaCons (wOf (kVar (nat_lit 0))) kaNil)))) (.tup [(nat_lit 3), (nat_lit 4)]) (ksSeq (ksAsg (nat_lit 2) (kBinSX tAdd (nat_lit 2) (kLc (kiSeqS (wOf (kBinSS tIx (nat_lit 1) (nat_lit 3)))) (.name (nat_lit 5)) (ktAnd (ktBool (kBinSS tGtX (nat_lit 5) (nat_lit 4))) (ktBool (kBinSX tIn (nat_lit 5) (kBinSS tIx (nat_lit 1) (nat_lit 4))))) (wOf (kTup (kvCons (wOf (kVar (nat_lit 3))) (kvCons (wOf (kVar (nat_lit 4))) (kvCons (wOf (kVar (nat_lit 5))) kvNil))))) [(nat_lit 5)]))) ksNext)) (ksSeq (ksRet (kUnS (q1 pSorted) (nat_lit 2))) ksNext)))
theorem okb_all_pieces {phi_all_ties phi_near_of : CallD} {g_all_ties g_near_of : KC} (h_all_ties : SC phi_all_ties g_all_ties) (h_near_of : SC phi_near_of g_near_of) : SS (b_all_pieces phi_all_ties phi_near_of) (kb_all_pieces g_all_ties g_near_of) := by
  unfold b_all_pieces kb_all_pieces
  exact (ssSeq (ssUnp _ (sOf (sTup (svCons (sOf (sCall h_near_of (saCons (sOf (sVar _)) saNil))) (svCons (sOf (sLst svNil)) svNil))))) (ssSeq (ssFor _ (siSeqS (sOf (sCall h_all_ties (saCons (sOf (sVar _)) saNil)))) (ssSeq (ssAsg _ (sBinSX _ stAdd (sLc (siSeqS (sOf (sBinSS _ _ stIx))) (stAnd (stBool (sBinSS _ _ stGtX)) (stBool (sBinSX _ stIn (sBinSS _ _ stIx)))) (sOf (sTup (svCons (sOf (sVar _)) (svCons (sOf (sVar _)) (svCons (sOf (sVar _)) svNil)))))))) ssNext)) (ssSeq (ssRet (sUnS _ (s1 pSorted))) ssNext)))
def kphi_all_pieces : KC := kDefV (nat_lit 1) [none, none, none, none, none] (kb_all_pieces kphi_all_ties kphi_near_of)
theorem sphi_all_pieces : SC phi_all_pieces kphi_all_pieces := sDefV rfl rfl (okb_all_pieces sphi_all_ties sphi_near_of)
def kb_greatest_blocks (g_gathered g_all_pieces : KC) : KS :=
    (ksSeq (ksAsg (nat_lit 1) (kDc (kiSeqS (wOf (kCall g_all_pieces (kaCons (wOf (kVar (nat_lit 0))) kaNil)))) (.tup [(nat_lit 2), (nat_lit 3), (nat_lit 4)]) ktYes (wOf (kVar (nat_lit 3))) (wOf (kVar (nat_lit 4))) [(nat_lit 2), (nat_lit 3), (nat_lit 4)])) (ksSeq (ksRet (kCall g_gathered (kaCons (wOf (kLc (kiRange2 (wOf (kLit (.int (Int.ofNat (nat_lit 1))))) (wOf (kBinXL tSub (kBinSL tIx (nat_lit 0) (.int (Int.ofNat (nat_lit 0)))) (.int (Int.ofNat (nat_lit 1)))))) (.name (nat_lit 5)) ktYes (wOf (kDGet (nat_lit 1) (wOf (kVar (nat_lit 5))))) [(nat_lit 5)])) kaNil))) ksNext))
theorem okb_greatest_blocks {phi_gathered phi_all_pieces : CallD} {g_gathered g_all_pieces : KC} (h_gathered : SC phi_gathered g_gathered) (h_all_pieces : SC phi_all_pieces g_all_pieces) : SS (b_greatest_blocks phi_gathered phi_all_pieces) (kb_greatest_blocks g_gathered g_all_pieces) := by
  unfold b_greatest_blocks kb_greatest_blocks
  exact (ssSeq (ssAsg _ (sDc (siSeqS (sOf (sCall h_all_pieces (saCons (sOf (sVar _)) saNil)))) stYes (sOf (sVar _)) (sOf (sVar _)))) (ssSeq (ssRet (sCall h_gathered (saCons (sOf (sLc (siRange2 (sOf (sLit _)) (sOf (sBinXL _ stSub (sBinSL _ _ stIx)))) stYes (sOf (sDGet _ (sOf (sVar _)))))) saNil))) ssNext))
def kphi_greatest_blocks : KC := kDefV (nat_lit 1) [none, none, none, none, none] (kb_greatest_blocks kphi_gathered kphi_all_pieces)
theorem sphi_greatest_blocks : SC phi_greatest_blocks kphi_greatest_blocks := sDefV rfl rfl (okb_greatest_blocks sphi_gathered sphi_all_pieces)
def kb_parting_of (g_need_cutting g_greatest_blocks : KC) : KS :=
    (ksSeq (ksDrop (kCall g_need_cutting (kaCons (wOf (kVar (nat_lit 0))) kaNil))) (ksSeq (ksRet (kCall g_greatest_blocks (kaCons (wOf (kVar (nat_lit 0))) kaNil))) ksNext))
theorem okb_parting_of {phi_need_cutting phi_greatest_blocks : CallD} {g_need_cutting g_greatest_blocks : KC} (h_need_cutting : SC phi_need_cutting g_need_cutting) (h_greatest_blocks : SC phi_greatest_blocks g_greatest_blocks) : SS (b_parting_of phi_need_cutting phi_greatest_blocks) (kb_parting_of g_need_cutting g_greatest_blocks) := by
  unfold b_parting_of kb_parting_of
  exact (ssSeq (ssDrop (sCall h_need_cutting (saCons (sOf (sVar _)) saNil))) (ssSeq (ssRet (sCall h_greatest_blocks (saCons (sOf (sVar _)) saNil))) ssNext))
def kphi_parting_of : KC := kDefV (nat_lit 1) [] (kb_parting_of kphi_need_cutting kphi_greatest_blocks)
theorem sphi_parting_of : SC phi_parting_of kphi_parting_of := sDefV rfl rfl (okb_parting_of sphi_need_cutting sphi_greatest_blocks)
def kb__law_ties : KS :=
    (ksSeq (ksUnp (.tup [(nat_lit 2), (nat_lit 3)]) (wOf (kVar (nat_lit 0)))) (ksSeq (ksAsg (nat_lit 1) (kBinXX tAdd (kLc (kiRange1 (wOf (kBinSL tSub (nat_lit 2) (.int (Int.ofNat (nat_lit 1)))))) (.name (nat_lit 4)) ktYes (wOf (kTup (kvCons (wOf (kVar (nat_lit 4))) (kvCons (wOf (kBinSL tAdd (nat_lit 4) (.int (Int.ofNat (nat_lit 1))))) kvNil)))) [(nat_lit 4)]) (kLst (kvCons (wOf (kTup (kvCons (wOf (kLit (.int (Int.ofNat (nat_lit 0))))) (kvCons (wOf (kBinSL tSub (nat_lit 2) (.int (Int.ofNat (nat_lit 1))))) kvNil)))) kvNil)))) (ksSeq (ksRet (kSortSet (wOf (kBinXS tAdd (kUnS tLst (nat_lit 3)) (nat_lit 1))))) ksNext)))
theorem okb__law_ties  : SS (b__law_ties) (kb__law_ties) := by
  unfold b__law_ties kb__law_ties
  exact (ssSeq (ssUnp _ (sOf (sVar _))) (ssSeq (ssAsg _ (sBinXX stAdd (sLc (siRange1 (sOf (sBinSL _ _ stSub))) stYes (sOf (sTup (svCons (sOf (sVar _)) (svCons (sOf (sBinSL _ _ stAdd)) svNil))))) (sLst (svCons (sOf (sTup (svCons (sOf (sLit _)) (svCons (sOf (sBinSL _ _ stSub)) svNil)))) svNil)))) (ssSeq (ssRet (sSortSet (sOf (sBinXS _ stAdd (sUnS _ stLst))))) ssNext)))
def kphi__law_ties : KC := kDefV (nat_lit 1) [none, none, none, none] kb__law_ties
theorem sphi__law_ties : SC phi__law_ties kphi__law_ties := sDefV rfl rfl (okb__law_ties)
def kb__law_is_last (g__law_ties : KC) : KS :=
    (ksSeq (ksPar (nat_lit 2) (nat_lit 3) (kBinXL tAdd (kBinSX tIx (nat_lit 1) (kUnX (q1 pNeg) (kLit (.int (Int.ofNat (nat_lit 1)))))) (.int (Int.ofNat (nat_lit 1)))) (kBinXL tSub (kBinSL tIx (nat_lit 0) (.int (Int.ofNat (nat_lit 0)))) (.int (Int.ofNat (nat_lit 1))))) (ksSeq (ksRet (kBinXX tIn (kTup (kvCons (wOf (kVar (nat_lit 2))) (kvCons (wOf (kVar (nat_lit 3))) kvNil))) (kCall g__law_ties (kaCons (wOf (kVar (nat_lit 0))) kaNil)))) ksNext))
theorem okb__law_is_last {phi__law_ties : CallD} {g__law_ties : KC} (h__law_ties : SC phi__law_ties g__law_ties) : SS (b__law_is_last phi__law_ties) (kb__law_is_last g__law_ties) := by
  unfold b__law_is_last kb__law_is_last
  exact (ssSeq (ssPar _ _ (sBinXL _ stAdd (sBinSX _ stIx (sUnX (s1 pNeg) (sLit _)))) (sBinXL _ stSub (sBinSL _ _ stIx))) (ssSeq (ssRet (sBinXX stIn (sTup (svCons (sOf (sVar _)) (svCons (sOf (sVar _)) svNil))) (sCall h__law_ties (saCons (sOf (sVar _)) saNil)))) ssNext))
def kphi__law_is_last : KC := kDefV (nat_lit 2) [none, none] (kb__law_is_last kphi__law_ties)
theorem sphi__law_is_last : SC phi__law_is_last kphi__law_is_last := sDefV rfl rfl (okb__law_is_last sphi__law_ties)
def kb__law_blocks (g__law_is_last : KC) : KS :=
    (ksSeq (ksUnp3 (nat_lit 5) (nat_lit 6) (nat_lit 7) (wOf (kBinXL tSub (kBinSL tIx (nat_lit 0) (.int (Int.ofNat (nat_lit 0)))) (.int (Int.ofNat (nat_lit 1))))) (kUnS tLst (nat_lit 2)) (wOf (kTup (kvCons (wOf (kBinXL tSub (kBinSL tIx (nat_lit 0) (.int (Int.ofNat (nat_lit 0)))) (.int (Int.ofNat (nat_lit 2))))) kvNil)))) (ksSeq (ksFor (kiSeqS (wOf (kVar (nat_lit 3)))) (.name (nat_lit 4)) (ksSeq (ksAsg (nat_lit 8) (kUnX tTup (kLc (kiSeqS (wOf (kVar (nat_lit 4)))) (.name (nat_lit 9)) ktYes (wOf (kBinSS tAdd (nat_lit 9) (nat_lit 5))) [(nat_lit 9)]))) (ksSeq (ksIf (ktAnd (ktBool (kBinXS tIn (kBinXL tSub (kBinSL tIx (nat_lit 1) (.int (Int.ofNat (nat_lit 0)))) (.int (Int.ofNat (nat_lit 3)))) (nat_lit 4))) (ktTruth (koOf (kCall g__law_is_last (kaCons (wOf (kVar (nat_lit 1))) (kaCons (wOf (kVar (nat_lit 4))) kaNil)))))) (ksSeq (ksAsg (nat_lit 7) (kBinSS tAdd (nat_lit 7) (nat_lit 8))) ksNext) (ksSeq (ksDrop (kApp (nat_lit 6) (wOf (kVar (nat_lit 8))))) ksNext)) ksNext))) (ksSeq (ksRet (kUnX tTup (kUnX (q1 pSorted) (kBinSX tAdd (nat_lit 6) (kLst (kvCons (wOf (kVar (nat_lit 7))) kvNil)))))) ksNext)))
theorem okb__law_blocks {phi__law_is_last : CallD} {g__law_is_last : KC} (h__law_is_last : SC phi__law_is_last g__law_is_last) : SS (b__law_blocks phi__law_is_last) (kb__law_blocks g__law_is_last) := by
  unfold b__law_blocks kb__law_blocks
  exact (ssSeq (ssUnp3 _ _ _ (sOf (sBinXL _ stSub (sBinSL _ _ stIx))) (sUnS _ stLst) (sOf (sTup (svCons (sOf (sBinXL _ stSub (sBinSL _ _ stIx))) svNil)))) (ssSeq (ssFor _ (siSeqS (sOf (sVar _))) (ssSeq (ssAsg _ (sUnX stTup (sLc (siSeqS (sOf (sVar _))) stYes (sOf (sBinSS _ _ stAdd))))) (ssSeq (ssIf (stAnd (stBool (sBinXS _ stIn (sBinXL _ stSub (sBinSL _ _ stIx)))) (stTruth (soOf (sCall h__law_is_last (saCons (sOf (sVar _)) (saCons (sOf (sVar _)) saNil)))))) (ssSeq (ssAsg _ (sBinSS _ _ stAdd)) ssNext) (ssSeq (ssDrop (sApp _ (sOf (sVar _)))) ssNext)) ssNext))) (ssSeq (ssRet (sUnX stTup (sUnX (s1 pSorted) (sBinSX _ stAdd (sLst (svCons (sOf (sVar _)) svNil)))))) ssNext)))
def kphi__law_blocks : KC := kDefV (nat_lit 4) [none, none, none, none, none, none] (kb__law_blocks kphi__law_is_last)
theorem sphi__law_blocks : SC phi__law_blocks kphi__law_blocks := sDefV rfl rfl (okb__law_blocks sphi__law_is_last)
def kb__law_right (g__law_both g_mountain g_reaches g_frieze g_count_pairings g__law_number_across g_is_cutting g_tree_of g_counts_at g_parting_of g__law_blocks : KC) : KS :=
    (ksSeq (ksUnp (.tup [(nat_lit 4), (nat_lit 5)]) (wOf (kTup (kvCons (wOf (kCall g__law_both (kaCons (wOf (kVar (nat_lit 0))) (kaCons (wOf (kVar (nat_lit 1))) kaNil)))) (kvCons (wOf (kBinXL tSub (kBinSL tIx (nat_lit 0) (.int (Int.ofNat (nat_lit 0)))) (.int (Int.ofNat (nat_lit 1))))) kvNil))))) (ksSeq (ksIf (ktOr (ktBool (kBinXL (q2 qNot) (kCall g_is_cutting (kaCons (wOf (kVar (nat_lit 4))) kaNil)) (.bool true))) (ktBool (kBinXX tNe (kCall g_tree_of (kaCons (wOf (kVar (nat_lit 4))) kaNil)) (kTup (kvCons (wOf (kCall g_tree_of (kaCons (wOf (kVar (nat_lit 0))) kaNil))) (kvCons (wOf (kCall g_tree_of (kaCons (wOf (kVar (nat_lit 1))) kaNil))) kvNil)))))) (ksSeq (ksRet (kLit (.bool false))) ksNext) ksNext) (ksSeq (ksIf (ktBool (kBinXX tNe (kCall g_mountain (kaCons (wOf (kCall g_tree_of (kaCons (wOf (kVar (nat_lit 4))) kaNil))) kaNil)) (kBinXX tAdd (kBinXL tAdd (kBinXX tAdd (kLit (.str (Str.ofString "u"))) (kCall g_mountain (kaCons (wOf (kCall g_tree_of (kaCons (wOf (kVar (nat_lit 0))) kaNil))) kaNil))) (.str (Str.ofString "d"))) (kCall g_mountain (kaCons (wOf (kCall g_tree_of (kaCons (wOf (kVar (nat_lit 1))) kaNil))) kaNil))))) (ksSeq (ksRet (kLit (.bool false))) ksNext) ksNext) (ksSeq (ksIf (ktBool (kBinXX tNe (kCall g_reaches (kaCons (wOf (kCall g_tree_of (kaCons (wOf (kVar (nat_lit 4))) kaNil))) kaNil)) (kBinXX tAdd (kBinXX tAdd (kCall g_reaches (kaCons (wOf (kCall g_tree_of (kaCons (wOf (kVar (nat_lit 0))) kaNil))) kaNil)) (kTup (kvCons (wOf (kBinXL tSub (kBinSL tIx (nat_lit 1) (.int (Int.ofNat (nat_lit 0)))) (.int (Int.ofNat (nat_lit 2))))) kvNil))) (kCall g_reaches (kaCons (wOf (kCall g_tree_of (kaCons (wOf (kVar (nat_lit 1))) kaNil))) kaNil))))) (ksSeq (ksRet (kLit (.bool false))) ksNext) ksNext) (ksSeq (ksPar (nat_lit 6) (nat_lit 7) (kUnX tLst (kCall g_counts_at (kaCons (wOf (kVar (nat_lit 0))) kaNil))) (kUnX tLst (kCall g_counts_at (kaCons (wOf (kVar (nat_lit 1))) kaNil)))) (ksSeq (ksAsg (nat_lit 2) (kBinXX tAdd (kBinXX tAdd (kBinXX tAdd (kBinXX tAdd (kLst (kvCons (wOf (kBinXL tAdd (kBinSL tIx (nat_lit 6) (.int (Int.ofNat (nat_lit 0)))) (.int (Int.ofNat (nat_lit 1))))) kvNil)) (kSl (koSlot (nat_lit 6)) (kpSome (wOf (kLit (.int (Int.ofNat (nat_lit 1)))))) (kpSome (wOf (kUnX (q1 pNeg) (kLit (.int (Int.ofNat (nat_lit 1))))))))) (kLst (kvCons (wOf (kBinXX tAdd (kBinXL tAdd (kBinSX tIx (nat_lit 6) (kUnX (q1 pNeg) (kLit (.int (Int.ofNat (nat_lit 1)))))) (.int (Int.ofNat (nat_lit 1)))) (kBinSL tIx (nat_lit 7) (.int (Int.ofNat (nat_lit 0)))))) kvNil))) (kSl (koSlot (nat_lit 7)) (kpSome (wOf (kLit (.int (Int.ofNat (nat_lit 1)))))) (kpSome (wOf (kUnX (q1 pNeg) (kLit (.int (Int.ofNat (nat_lit 1))))))))) (kLst (kvCons (wOf (kBinXL tAdd (kBinSX tIx (nat_lit 7) (kUnX (q1 pNeg) (kLit (.int (Int.ofNat (nat_lit 1)))))) (.int (Int.ofNat (nat_lit 1))))) kvNil)))) (ksSeq (ksIf (ktOr (ktBool (kBinXS tNe (kUnX tLst (kCall g_counts_at (kaCons (wOf (kVar (nat_lit 4))) kaNil))) (nat_lit 2))) (ktBool (kBinXX tNe (kCall g_parting_of (kaCons (wOf (kVar (nat_lit 4))) kaNil)) (kCall g__law_blocks (kaCons (wOf (kVar (nat_lit 0))) (kaCons (wOf (kVar (nat_lit 1))) (kaCons (wOf (kCall g_parting_of (kaCons (wOf (kVar (nat_lit 0))) kaNil))) (kaCons (wOf (kCall g_parting_of (kaCons (wOf (kVar (nat_lit 1))) kaNil))) kaNil)))))))) (ksSeq (ksRet (kLit (.bool false))) ksNext) ksNext) (ksSeq (ksPar3 (nat_lit 8) (nat_lit 9) (nat_lit 10) (wOf (kCall g_frieze (kaCons (wOf (kVar (nat_lit 0))) kaNil))) (wOf (kCall g_frieze (kaCons (wOf (kVar (nat_lit 1))) kaNil))) (wOf (kCall g_frieze (kaCons (wOf (kVar (nat_lit 4))) kaNil)))) (ksSeq (ksIf (ktBool (kBinXX tNe (kLc (kiSeqS (wOf (kSl (koSlot (nat_lit 10)) kpNone (kpSome (wOf (kBinSL tIx (nat_lit 0) (.int (Int.ofNat (nat_lit 0))))))))) (.name (nat_lit 12)) ktYes (wOf (kUnX tLst (kSl (koSlot (nat_lit 12)) kpNone (kpSome (wOf (kBinSL tIx (nat_lit 0) (.int (Int.ofNat (nat_lit 0))))))))) [(nat_lit 12)]) (kLc (kiSeqS (wOf (kVar (nat_lit 8)))) (.name (nat_lit 12)) ktYes (wOf (kUnS tLst (nat_lit 12))) [(nat_lit 12)]))) (ksSeq (ksRet (kLit (.bool false))) ksNext) ksNext) (ksSeq (ksIf (ktBool (kBinXX tNe (kLc (kiSeqS (wOf (kSl (koSlot (nat_lit 10)) (kpSome (wOf (kVar (nat_lit 5)))) kpNone))) (.name (nat_lit 12)) ktYes (wOf (kUnX tLst (kSl (koSlot (nat_lit 12)) (kpSome (wOf (kVar (nat_lit 5)))) kpNone))) [(nat_lit 12)]) (kLc (kiSeqS (wOf (kVar (nat_lit 9)))) (.name (nat_lit 12)) ktYes (wOf (kUnS tLst (nat_lit 12))) [(nat_lit 12)]))) (ksSeq (ksRet (kLit (.bool false))) ksNext) ksNext) (ksSeq (ksFor (kiRange1 (wOf (kBinSL tIx (nat_lit 0) (.int (Int.ofNat (nat_lit 0)))))) (.name (nat_lit 3)) (ksSeq (ksFor (kiRange2 (wOf (kLit (.int (Int.ofNat (nat_lit 1))))) (wOf (kBinSL tIx (nat_lit 1) (.int (Int.ofNat (nat_lit 0)))))) (.name (nat_lit 11)) (ksSeq (ksAsg (nat_lit 2) (kCall g__law_number_across (kaCons (wOf (kVar (nat_lit 8))) (kaCons (wOf (kVar (nat_lit 9))) (kaCons (wOf (kVar (nat_lit 3))) (kaCons (wOf (kVar (nat_lit 11))) kaNil)))))) (ksSeq (ksIf (ktBool (kBinXS tNe (kBinXX tIx (kBinSS tIx (nat_lit 10) (nat_lit 3)) (kBinSS tAdd (nat_lit 11) (nat_lit 5))) (nat_lit 2))) (ksSeq (ksRet (kLit (.bool false))) ksNext) ksNext) ksNext))) ksNext)) (ksSeq (ksPar (nat_lit 3) (nat_lit 11) (kBinXL tDiv (kBinSL tIx (nat_lit 0) (.int (Int.ofNat (nat_lit 0)))) (.int (Int.ofNat (nat_lit 2)))) (kBinXL tDiv (kBinSL tIx (nat_lit 1) (.int (Int.ofNat (nat_lit 0)))) (.int (Int.ofNat (nat_lit 2))))) (ksSeq (ksRet (kBinXX tEq (kCall g_count_pairings (kaCons (wOf (kVar (nat_lit 4))) (kaCons (wOf (kTup (kvCons (wOf (kVar (nat_lit 3))) (kvCons (wOf (kBinSS tAdd (nat_lit 11) (nat_lit 5))) kvNil)))) kaNil))) (kCall g__law_number_across (kaCons (wOf (kVar (nat_lit 8))) (kaCons (wOf (kVar (nat_lit 9))) (kaCons (wOf (kVar (nat_lit 3))) (kaCons (wOf (kVar (nat_lit 11))) kaNil))))))) ksNext)))))))))))))
theorem okb__law_right {phi__law_both phi_mountain phi_reaches phi_frieze phi_count_pairings phi__law_number_across phi_is_cutting phi_tree_of phi_counts_at phi_parting_of phi__law_blocks : CallD} {g__law_both g_mountain g_reaches g_frieze g_count_pairings g__law_number_across g_is_cutting g_tree_of g_counts_at g_parting_of g__law_blocks : KC} (h__law_both : SC phi__law_both g__law_both) (h_mountain : SC phi_mountain g_mountain) (h_reaches : SC phi_reaches g_reaches) (h_frieze : SC phi_frieze g_frieze) (h_count_pairings : SC phi_count_pairings g_count_pairings) (h__law_number_across : SC phi__law_number_across g__law_number_across) (h_is_cutting : SC phi_is_cutting g_is_cutting) (h_tree_of : SC phi_tree_of g_tree_of) (h_counts_at : SC phi_counts_at g_counts_at) (h_parting_of : SC phi_parting_of g_parting_of) (h__law_blocks : SC phi__law_blocks g__law_blocks) : SS (b__law_right phi__law_both phi_mountain phi_reaches phi_frieze phi_count_pairings phi__law_number_across phi_is_cutting phi_tree_of phi_counts_at phi_parting_of phi__law_blocks) (kb__law_right g__law_both g_mountain g_reaches g_frieze g_count_pairings g__law_number_across g_is_cutting g_tree_of g_counts_at g_parting_of g__law_blocks) := by
  unfold b__law_right kb__law_right
  exact (ssSeq (ssUnp _ (sOf (sTup (svCons (sOf (sCall h__law_both (saCons (sOf (sVar _)) (saCons (sOf (sVar _)) saNil)))) (svCons (sOf (sBinXL _ stSub (sBinSL _ _ stIx))) svNil))))) (ssSeq (ssIf (stOr (stBool (sBinXL _ (s2 qNot) (sCall h_is_cutting (saCons (sOf (sVar _)) saNil)))) (stBool (sBinXX stNe (sCall h_tree_of (saCons (sOf (sVar _)) saNil)) (sTup (svCons (sOf (sCall h_tree_of (saCons (sOf (sVar _)) saNil))) (svCons (sOf (sCall h_tree_of (saCons (sOf (sVar _)) saNil))) svNil)))))) (ssSeq (ssRet (sLit _)) ssNext) ssNext) (ssSeq (ssIf (stBool (sBinXX stNe (sCall h_mountain (saCons (sOf (sCall h_tree_of (saCons (sOf (sVar _)) saNil))) saNil)) (sBinXX stAdd (sBinXL _ stAdd (sBinXX stAdd (sLit _) (sCall h_mountain (saCons (sOf (sCall h_tree_of (saCons (sOf (sVar _)) saNil))) saNil)))) (sCall h_mountain (saCons (sOf (sCall h_tree_of (saCons (sOf (sVar _)) saNil))) saNil))))) (ssSeq (ssRet (sLit _)) ssNext) ssNext) (ssSeq (ssIf (stBool (sBinXX stNe (sCall h_reaches (saCons (sOf (sCall h_tree_of (saCons (sOf (sVar _)) saNil))) saNil)) (sBinXX stAdd (sBinXX stAdd (sCall h_reaches (saCons (sOf (sCall h_tree_of (saCons (sOf (sVar _)) saNil))) saNil)) (sTup (svCons (sOf (sBinXL _ stSub (sBinSL _ _ stIx))) svNil))) (sCall h_reaches (saCons (sOf (sCall h_tree_of (saCons (sOf (sVar _)) saNil))) saNil))))) (ssSeq (ssRet (sLit _)) ssNext) ssNext) (ssSeq (ssPar _ _ (sUnX stLst (sCall h_counts_at (saCons (sOf (sVar _)) saNil))) (sUnX stLst (sCall h_counts_at (saCons (sOf (sVar _)) saNil)))) (ssSeq (ssAsg _ (sBinXX stAdd (sBinXX stAdd (sBinXX stAdd (sBinXX stAdd (sLst (svCons (sOf (sBinXL _ stAdd (sBinSL _ _ stIx))) svNil)) (sSl (soSlot _) (spSome (sOf (sLit _))) (spSome (sOf (sUnX (s1 pNeg) (sLit _)))))) (sLst (svCons (sOf (sBinXX stAdd (sBinXL _ stAdd (sBinSX _ stIx (sUnX (s1 pNeg) (sLit _)))) (sBinSL _ _ stIx))) svNil))) (sSl (soSlot _) (spSome (sOf (sLit _))) (spSome (sOf (sUnX (s1 pNeg) (sLit _)))))) (sLst (svCons (sOf (sBinXL _ stAdd (sBinSX _ stIx (sUnX (s1 pNeg) (sLit _))))) svNil)))) (ssSeq (ssIf (stOr (stBool (sBinXS _ stNe (sUnX stLst (sCall h_counts_at (saCons (sOf (sVar _)) saNil))))) (stBool (sBinXX stNe (sCall h_parting_of (saCons (sOf (sVar _)) saNil)) (sCall h__law_blocks (saCons (sOf (sVar _)) (saCons (sOf (sVar _)) (saCons (sOf (sCall h_parting_of (saCons (sOf (sVar _)) saNil))) (saCons (sOf (sCall h_parting_of (saCons (sOf (sVar _)) saNil))) saNil)))))))) (ssSeq (ssRet (sLit _)) ssNext) ssNext) (ssSeq (ssPar3 _ _ _ (sOf (sCall h_frieze (saCons (sOf (sVar _)) saNil))) (sOf (sCall h_frieze (saCons (sOf (sVar _)) saNil))) (sOf (sCall h_frieze (saCons (sOf (sVar _)) saNil)))) (ssSeq (ssIf (stBool (sBinXX stNe (sLc (siSeqS (sOf (sSl (soSlot _) spNone (spSome (sOf (sBinSL _ _ stIx)))))) stYes (sOf (sUnX stLst (sSl (soSlot _) spNone (spSome (sOf (sBinSL _ _ stIx))))))) (sLc (siSeqS (sOf (sVar _))) stYes (sOf (sUnS _ stLst))))) (ssSeq (ssRet (sLit _)) ssNext) ssNext) (ssSeq (ssIf (stBool (sBinXX stNe (sLc (siSeqS (sOf (sSl (soSlot _) (spSome (sOf (sVar _))) spNone))) stYes (sOf (sUnX stLst (sSl (soSlot _) (spSome (sOf (sVar _))) spNone)))) (sLc (siSeqS (sOf (sVar _))) stYes (sOf (sUnS _ stLst))))) (ssSeq (ssRet (sLit _)) ssNext) ssNext) (ssSeq (ssFor _ (siRange1 (sOf (sBinSL _ _ stIx))) (ssSeq (ssFor _ (siRange2 (sOf (sLit _)) (sOf (sBinSL _ _ stIx))) (ssSeq (ssAsg _ (sCall h__law_number_across (saCons (sOf (sVar _)) (saCons (sOf (sVar _)) (saCons (sOf (sVar _)) (saCons (sOf (sVar _)) saNil)))))) (ssSeq (ssIf (stBool (sBinXS _ stNe (sBinXX stIx (sBinSS _ _ stIx) (sBinSS _ _ stAdd)))) (ssSeq (ssRet (sLit _)) ssNext) ssNext) ssNext))) ssNext)) (ssSeq (ssPar _ _ (sBinXL _ stDiv (sBinSL _ _ stIx)) (sBinXL _ stDiv (sBinSL _ _ stIx))) (ssSeq (ssRet (sBinXX stEq (sCall h_count_pairings (saCons (sOf (sVar _)) (saCons (sOf (sTup (svCons (sOf (sVar _)) (svCons (sOf (sBinSS _ _ stAdd)) svNil)))) saNil))) (sCall h__law_number_across (saCons (sOf (sVar _)) (saCons (sOf (sVar _)) (saCons (sOf (sVar _)) (saCons (sOf (sVar _)) saNil))))))) ssNext)))))))))))))
def kphi__law_right : KC := kDefV (nat_lit 2) [none, none, none, none, none, none, none, none, none, none, none] (kb__law_right kphi__law_both kphi_mountain kphi_reaches kphi_frieze kphi_count_pairings kphi__law_number_across kphi_is_cutting kphi_tree_of kphi_counts_at kphi_parting_of kphi__law_blocks)
theorem sphi__law_right : SC phi__law_right kphi__law_right := sDefV rfl rfl (okb__law_right sphi__law_both sphi_mountain sphi_reaches sphi_frieze sphi_count_pairings sphi__law_number_across sphi_is_cutting sphi_tree_of sphi_counts_at sphi_parting_of sphi__law_blocks)
def kb__law_roll : KS :=
    (ksSeq (ksIf (ktBool (kBinXL tGtX (kBinSL tIx (nat_lit 0) (.int (Int.ofNat (nat_lit 0)))) (.int (Int.ofNat (nat_lit 0))))) (ksSeq (ksAsg (nat_lit 3) (kBinXS tMod (kUnX (q1 pInt) (kBinSL tIx (nat_lit 0) (.int (Int.ofNat (nat_lit 0))))) (nat_lit 1))) (ksSeq (ksSetIx (nat_lit 0) (wOf (kLit (.int (Int.ofNat (nat_lit 0))))) (wOf (kBinXS tDiv (kBinSL tIx (nat_lit 0) (.int (Int.ofNat (nat_lit 0)))) (nat_lit 1)))) (ksSeq (ksRetN (nat_lit 3)) ksNext))) ksNext) (ksSeq (ksSetIx (nat_lit 0) (wOf (kLit (.int (Int.ofNat (nat_lit 1))))) (wOf (kBinXL tMod (kUnX (q1 pInt) (kBinXL tAdd (kBinXL tMul (kBinSL tIx (nat_lit 0) (.int (Int.ofNat (nat_lit 1)))) (.int (Int.ofNat (nat_lit 30671)))) (.int (Int.ofNat (nat_lit 7919))))) (.int (Int.ofNat (nat_lit 2147483549)))))) (ksSeq (ksAsg (nat_lit 2) (kBinXL tMod (kUnX (q1 pInt) (kBinXX tMul (kBinSL tIx (nat_lit 0) (.int (Int.ofNat (nat_lit 1)))) (kBinXL tAdd (kBinSL tIx (nat_lit 0) (.int (Int.ofNat (nat_lit 1)))) (.int (Int.ofNat (nat_lit 131)))))) (.int (Int.ofNat (nat_lit 2147483587))))) (ksSeq (ksRet (kBinXS tMod (kUnX (q1 pInt) (kBinSL tDiv (nat_lit 2) (.int (Int.ofNat (nat_lit 709))))) (nat_lit 1))) ksNext))))
theorem okb__law_roll  : SS (b__law_roll) (kb__law_roll) := by
  unfold b__law_roll kb__law_roll
  exact (ssSeq (ssIf (stBool (sBinXL _ stGtX (sBinSL _ _ stIx))) (ssSeq (ssAsg _ (sBinXS _ stMod (sUnX (s1 pInt) (sBinSL _ _ stIx)))) (ssSeq (ssSetIx _ (sOf (sLit _)) (sOf (sBinXS _ stDiv (sBinSL _ _ stIx)))) (ssSeq (ssRetN _) ssNext))) ssNext) (ssSeq (ssSetIx _ (sOf (sLit _)) (sOf (sBinXL _ stMod (sUnX (s1 pInt) (sBinXL _ stAdd (sBinXL _ stMul (sBinSL _ _ stIx))))))) (ssSeq (ssAsg _ (sBinXL _ stMod (sUnX (s1 pInt) (sBinXX stMul (sBinSL _ _ stIx) (sBinXL _ stAdd (sBinSL _ _ stIx)))))) (ssSeq (ssRet (sBinXS _ stMod (sUnX (s1 pInt) (sBinSL _ _ stDiv)))) ssNext))))
def kphi__law_roll : KC := kDef [true, false] [none, none] kb__law_roll
theorem sphi__law_roll : SC phi__law_roll kphi__law_roll := sDef rfl (okb__law_roll)
def kb__law_cuts (g__law_roll g__law_cuts : KC) : KS :=
    (ksSeq (ksIf (ktBool (kBinXL tLtX (kBinSS tSub (nat_lit 2) (nat_lit 1)) (.int (Int.ofNat (nat_lit 2))))) (ksSeq (ksRet (kLst kvNil)) ksNext) ksNext) (ksSeq (ksAsg (nat_lit 3) (kBinXX tAdd (kBinSL tAdd (nat_lit 1) (.int (Int.ofNat (nat_lit 1)))) (kCallIO g__law_roll [true, false] (koS (nat_lit 0) (koV (wOf (kBinXL tSub (kBinSS tSub (nat_lit 2) (nat_lit 1)) (.int (Int.ofNat (nat_lit 1))))) koNil))))) (ksSeq (ksAsg (nat_lit 4) (kLc (kiSeqS (wOf (kTup (kvCons (wOf (kTup (kvCons (wOf (kVar (nat_lit 1))) (kvCons (wOf (kVar (nat_lit 3))) kvNil)))) (kvCons (wOf (kTup (kvCons (wOf (kVar (nat_lit 3))) (kvCons (wOf (kVar (nat_lit 2))) kvNil)))) kvNil))))) (.tup [(nat_lit 5), (nat_lit 6)]) (ktBool (kBinXL tGtX (kBinSS tSub (nat_lit 6) (nat_lit 5)) (.int (Int.ofNat (nat_lit 1))))) (wOf (kTup (kvCons (wOf (kVar (nat_lit 5))) (kvCons (wOf (kVar (nat_lit 6))) kvNil)))) [(nat_lit 5), (nat_lit 6)])) (ksSeq (ksRet (kBinXX tAdd (kBinSX tAdd (nat_lit 4) (kCallIO g__law_cuts [true, false, false] (koS (nat_lit 0) (koV (wOf (kVar (nat_lit 1))) (koV (wOf (kVar (nat_lit 3))) koNil))))) (kCallIO g__law_cuts [true, false, false] (koS (nat_lit 0) (koV (wOf (kVar (nat_lit 3))) (koV (wOf (kVar (nat_lit 2))) koNil)))))) ksNext))))
theorem okb__law_cuts {phi__law_roll phi__law_cuts : CallD} {g__law_roll g__law_cuts : KC} (h__law_roll : SC phi__law_roll g__law_roll) (h__law_cuts : SC phi__law_cuts g__law_cuts) : SS (b__law_cuts phi__law_roll phi__law_cuts) (kb__law_cuts g__law_roll g__law_cuts) := by
  unfold b__law_cuts kb__law_cuts
  exact (ssSeq (ssIf (stBool (sBinXL _ stLtX (sBinSS _ _ stSub))) (ssSeq (ssRet (sLst svNil)) ssNext) ssNext) (ssSeq (ssAsg _ (sBinXX stAdd (sBinSL _ _ stAdd) (sCallIO h__law_roll (soS _ (soV (sOf (sBinXL _ stSub (sBinSS _ _ stSub))) soNil))))) (ssSeq (ssAsg _ (sLc (siSeqS (sOf (sTup (svCons (sOf (sTup (svCons (sOf (sVar _)) (svCons (sOf (sVar _)) svNil)))) (svCons (sOf (sTup (svCons (sOf (sVar _)) (svCons (sOf (sVar _)) svNil)))) svNil))))) (stBool (sBinXL _ stGtX (sBinSS _ _ stSub))) (sOf (sTup (svCons (sOf (sVar _)) (svCons (sOf (sVar _)) svNil)))))) (ssSeq (ssRet (sBinXX stAdd (sBinSX _ stAdd (sCallIO h__law_cuts (soS _ (soV (sOf (sVar _)) (soV (sOf (sVar _)) soNil))))) (sCallIO h__law_cuts (soS _ (soV (sOf (sVar _)) (soV (sOf (sVar _)) soNil)))))) ssNext))))
def kphi__law_cuts (n : Nat) : KC := @Nat.rec (fun _ => KC) kNo (fun _ ih => kDef [true, false, false] [none, none, none, none] (kb__law_cuts kphi__law_roll ih)) n
theorem sphi__law_cuts : ∀ n : Nat, SC (phi__law_cuts n) (kphi__law_cuts n)
  | 0 => sNo
  | n + 1 => sDef rfl (okb__law_cuts sphi__law_roll (sphi__law_cuts n))
def kb__law_cutting (g__law_roll g__law_cuts : KC) : KS :=
    (ksSeq (ksAsg (nat_lit 3) (kBinSX tAdd (nat_lit 1) (kCallIO g__law_roll [true, false] (koS (nat_lit 0) (koV (wOf (kBinXL tAdd (kBinSS tSub (nat_lit 2) (nat_lit 1)) (.int (Int.ofNat (nat_lit 1))))) koNil))))) (ksSeq (ksRet (kTup (kvCons (wOf (kVar (nat_lit 3))) (kvCons (wOf (kUnX tTup (kUnX (q1 pSorted) (kCallIO g__law_cuts [true, false, false] (koS (nat_lit 0) (koV (wOf (kLit (.int (Int.ofNat (nat_lit 0))))) (koV (wOf (kBinSL tSub (nat_lit 3) (.int (Int.ofNat (nat_lit 1))))) koNil))))))) kvNil)))) ksNext))
theorem okb__law_cutting {phi__law_roll phi__law_cuts : CallD} {g__law_roll g__law_cuts : KC} (h__law_roll : SC phi__law_roll g__law_roll) (h__law_cuts : SC phi__law_cuts g__law_cuts) : SS (b__law_cutting phi__law_roll phi__law_cuts) (kb__law_cutting g__law_roll g__law_cuts) := by
  unfold b__law_cutting kb__law_cutting
  exact (ssSeq (ssAsg _ (sBinSX _ stAdd (sCallIO h__law_roll (soS _ (soV (sOf (sBinXL _ stAdd (sBinSS _ _ stSub))) soNil))))) (ssSeq (ssRet (sTup (svCons (sOf (sVar _)) (svCons (sOf (sUnX stTup (sUnX (s1 pSorted) (sCallIO h__law_cuts (soS _ (soV (sOf (sLit _)) (soV (sOf (sBinSL _ _ stSub)) soNil))))))) svNil)))) ssNext))
def kphi__law_cutting : KC := kDef [true, false, false] [none] (kb__law_cutting kphi__law_roll (kphi__law_cuts (nat_lit 6)))
theorem sphi__law_cutting : SC phi__law_cutting kphi__law_cutting := sDef rfl (okb__law_cutting sphi__law_roll (sphi__law_cuts 6))
def kb_law (g__law_cup g__law_right g__law_cutting : KC) : KS :=
    (ksSeq (ksAsg (nat_lit 1) (kCall g__law_cup (kaCons (wOf (kVar (nat_lit 0))) kaNil))) (ksSeq (ksIf (ktNot (ktTruth (koOf (kCall g__law_right (kaCons (wOf (kCallIO g__law_cutting [true, false, false] (koS (nat_lit 1) (koV (wOf (kLit (.int (Int.ofNat (nat_lit 3))))) (koV (wOf (kLit (.int (Int.ofNat (nat_lit 5))))) koNil))))) (kaCons (wOf (kCallIO g__law_cutting [true, false, false] (koS (nat_lit 1) (koV (wOf (kLit (.int (Int.ofNat (nat_lit 3))))) (koV (wOf (kLit (.int (Int.ofNat (nat_lit 5))))) koNil))))) kaNil)))))) (ksSeq (ksRet (kLit (.bool false))) ksNext) ksNext) (ksSeq (ksRet (kAnd (kCall g__law_right (kaCons (wOf (kTup (kvCons (wOf (kLit (.int (Int.ofNat (nat_lit 4))))) (kvCons (wOf (kTup (kvCons (wOf (kTup (kvCons (wOf (kLit (.int (Int.ofNat (nat_lit 0))))) (kvCons (wOf (kLit (.int (Int.ofNat (nat_lit 2))))) kvNil)))) kvNil))) kvNil)))) (kaCons (wOf (kTup (kvCons (wOf (kLit (.int (Int.ofNat (nat_lit 4))))) (kvCons (wOf (kTup (kvCons (wOf (kTup (kvCons (wOf (kLit (.int (Int.ofNat (nat_lit 1))))) (kvCons (wOf (kLit (.int (Int.ofNat (nat_lit 3))))) kvNil)))) kvNil))) kvNil)))) kaNil))) (kCall g__law_right (kaCons (wOf (kTup (kvCons (wOf (kLit (.int (Int.ofNat (nat_lit 3))))) (kvCons (wOf (kTup kvNil)) kvNil)))) (kaCons (wOf (kTup (kvCons (wOf (kLit (.int (Int.ofNat (nat_lit 5))))) (kvCons (wOf (kTup (kvCons (wOf (kTup (kvCons (wOf (kLit (.int (Int.ofNat (nat_lit 0))))) (kvCons (wOf (kLit (.int (Int.ofNat (nat_lit 2))))) kvNil)))) (kvCons (wOf (kTup (kvCons (wOf (kLit (.int (Int.ofNat (nat_lit 0))))) (kvCons (wOf (kLit (.int (Int.ofNat (nat_lit 3))))) kvNil)))) kvNil)))) kvNil)))) kaNil))))) ksNext)))
theorem okb_law {phi__law_cup phi__law_right phi__law_cutting : CallD} {g__law_cup g__law_right g__law_cutting : KC} (h__law_cup : SC phi__law_cup g__law_cup) (h__law_right : SC phi__law_right g__law_right) (h__law_cutting : SC phi__law_cutting g__law_cutting) : SS (b_law phi__law_cup phi__law_right phi__law_cutting) (kb_law g__law_cup g__law_right g__law_cutting) := by
  unfold b_law kb_law
  exact (ssSeq (ssAsg _ (sCall h__law_cup (saCons (sOf (sVar _)) saNil))) (ssSeq (ssIf (stNot (stTruth (soOf (sCall h__law_right (saCons (sOf (sCallIO h__law_cutting (soS _ (soV (sOf (sLit _)) (soV (sOf (sLit _)) soNil))))) (saCons (sOf (sCallIO h__law_cutting (soS _ (soV (sOf (sLit _)) (soV (sOf (sLit _)) soNil))))) saNil)))))) (ssSeq (ssRet (sLit _)) ssNext) ssNext) (ssSeq (ssRet (sAnd (sCall h__law_right (saCons (sOf (sTup (svCons (sOf (sLit _)) (svCons (sOf (sTup (svCons (sOf (sTup (svCons (sOf (sLit _)) (svCons (sOf (sLit _)) svNil)))) svNil))) svNil)))) (saCons (sOf (sTup (svCons (sOf (sLit _)) (svCons (sOf (sTup (svCons (sOf (sTup (svCons (sOf (sLit _)) (svCons (sOf (sLit _)) svNil)))) svNil))) svNil)))) saNil))) (sCall h__law_right (saCons (sOf (sTup (svCons (sOf (sLit _)) (svCons (sOf (sTup svNil)) svNil)))) (saCons (sOf (sTup (svCons (sOf (sLit _)) (svCons (sOf (sTup (svCons (sOf (sTup (svCons (sOf (sLit _)) (svCons (sOf (sLit _)) svNil)))) (svCons (sOf (sTup (svCons (sOf (sLit _)) (svCons (sOf (sLit _)) svNil)))) svNil)))) svNil)))) saNil))))) ssNext)))
def kphi_law : KC := kDefV (nat_lit 1) [none] (kb_law kphi__law_cup kphi__law_right kphi__law_cutting)
theorem sphi_law : SC phi_law kphi_law := sDefV rfl rfl (okb_law sphi__law_cup sphi__law_right sphi__law_cutting)
end Ev.Lw
end
/-! ## Fam81 -/
section
set_option Elab.async false
set_option linter.all false
set_option maxRecDepth 100000
set_option maxHeartbeats 0
namespace Ev.Lw
open PySem L2 Ev
/-! ### cup and roll -/
theorem roll_ok {g s n : Int} (h : Good2 g s) (hn : 0 < n) (hn' : n < 1073741824) : ∃ r g' s', 0 ≤ r ∧ r < n ∧ Good2 g' s' ∧ phi__law_roll [⟨true, bar g s⟩, ⟨false, .int n⟩] = some (false, .int r, [bar g' s']) := by
  obtain ⟨h0, h1, h2⟩ := h
  by_cases hg : 0 < g
  · refine ⟨g % n, g / n, s, Int.emod_nonneg _ (by omega), Int.emod_lt_of_pos _ hn, ⟨Int.ediv_nonneg h0 (by omega), h1, h2⟩, ?_⟩
    refine call_def (σ := [some ⟨true, bar (g / n) s⟩, some ⟨false, .int n⟩, none, some ⟨false, .int (g % n)⟩]) rfl ?_ rfl
    refine seq_ret (ifsT (bool_ok (b := true) (o2 getB0 rfl (gtP.trans (by simp [hg])))) ?_)
    refine seq_next (asg_ok (o2s (o1 getB0 int_ok) (sl := ⟨false, .int n⟩) rfl (modP hn))) ?_
    refine seq_next (setB (i := 0) (k := 0) (v := g / n) (vOf_f (o2s getB0 (sl := ⟨false, .int n⟩) rfl (divP hn hn'))) rfl rfl rfl) ?_
    exact seq_ret rfl
  · have e : g = 0 := by omega
    subst e
    have a1 : 0 ≤ (s * 30671 + 7919) % 2147483549 := Int.emod_nonneg _ (by omega)
    have a2 : (s * 30671 + 7919) % 2147483549 < 2147483549 := Int.emod_lt_of_pos _ (by omega)
    generalize ht : (s * 30671 + 7919) % 2147483549 = t at a1 a2
    refine ⟨(t * (t + 131)) % 2147483587 / 709 % n, 0, t, Int.emod_nonneg _ (by omega), Int.emod_lt_of_pos _ hn, ⟨by omega, a1, by omega⟩, ?_⟩
    refine call_def (σ := [some ⟨true, bar 0 t⟩, some ⟨false, .int n⟩, some ⟨false, .int ((t * (t + 131)) % 2147483587)⟩, none]) rfl ?_ rfl
    refine seq_next (ifsF (bool_ok (b := false) (o2 getB0 rfl (gtP.trans (by simp)))) rfl) ?_
    refine seq_next (setB (i := 1) (k := 1) (v := t) (vOf_f (o2 (o1 (o2 (o2 getB1 rfl (mulP (by decide))) rfl addP) int_ok) rfl ((modP (by omega)).trans (by rw [ht])))) rfl rfl rfl) ?_
    refine seq_next (asg_ok (o2 (o1 (o2 getB1 (o2 getB1 rfl addP) (mulP' (s64i a1 (by omega)))) int_ok) rfl (modP (by omega)))) ?_
    refine seq_ret (ret_ok (o2s (o1 (os2 (i := 2) (sl := ⟨false, .int ((t * (t + 131)) % 2147483587)⟩) (sl' := ⟨false, .int ((t * (t + 131)) % 2147483587)⟩) rfl rfl rfl (divP (by omega) (by omega))) int_ok) (sl := ⟨false, .int n⟩) rfl (modP hn)))
theorem call_roll {i : Nat} {σ σ1 : SD} {f : DW} {n g s : Int} {x : Sl} (h0 : σ[i]? = some (some x)) (hf : f σ = some (.int n, σ1)) (h1 : σ1[i]? = some (some ⟨true, bar g s⟩)) (hg : Good2 g s) (hn : 0 < n) (hn' : n < 1073741824) :
    ∃ r g' s', 0 ≤ r ∧ r < n ∧ Good2 g' s' ∧ fCall phi__law_roll [true, false] (.slot i :: (.val f :: [])) σ = some (false, .int r, σ1.set i (some ⟨true, bar g' s'⟩)) := by
  obtain ⟨r, g', s', k1, k2, k3, e⟩ := roll_ok hg hn hn'
  exact ⟨r, g', s', k1, k2, k3, callS h0 hf h1 e⟩
theorem cup_ok (ns : List Int) (hl : ns.length ≤ 63) : ∃ g s, Good2 g s ∧ phi__law_cup [⟨false, .list (ns.map .int)⟩] = some (true, bar g s, []) := by
  have key : ∀ (N : List D) (c : Int), 0 ≤ c → fAsg 1 (fPrim pAbs (aCons (oOf (fPrim pIx (aCons (oOf (fPrim qAdd (aCons (oOf (fPrim pList (aCons (oSlot 0) aNil))) (aCons (oOf (fLst (vCons (vOf (fLit (.int (0)))) vNil))) aNil)))) (aCons (oOf (fLit (.int (0)))) aNil)))) aNil)) [some ⟨false, .list N⟩, none, none] = some (.next, [some ⟨false, .list N⟩, some ⟨false, .int c⟩, none]) →
      ∃ g s, Good2 g s ∧ phi__law_cup [⟨false, .list N⟩] = some (true, bar g s, []) := by
    intro N c hc e1
    have a1 : 0 ≤ (c * 193 + 1201) % 2077504273 := Int.emod_nonneg _ (by omega)
    have a2 : (c * 193 + 1201) % 2077504273 < 2077504273 := Int.emod_lt_of_pos _ (by omega)
    have hp : pPowI [.int 10, .int 18] = some (false, .int (10 ^ 18)) := ii_ok (by decide)
    have k1 : ∀ b : Bool, decide ((10 : Int) ^ 18 ≤ c) = b → fIf (tBool (fPrim qGe (aCons (oSlot 1) (aCons (oOf (fPrim pPowI (aCons (oOf (fLit (.int (10)))) (aCons (oOf (fLit (.int (18)))) aNil)))) aNil)))) (fPrim pDivI (aCons (oSlot 1) (aCons (oOf (fLit (.int (11)))) aNil))) (fLit (.int (0))) [some ⟨false, .list N⟩, some ⟨false, .int c⟩, none] = some (false, .int (if b then c / 11 else 0), [some ⟨false, .list N⟩, some ⟨false, .int c⟩, none]) := by
      intro b hb
      have ht : tBool (fPrim qGe (aCons (oSlot 1) (aCons (oOf (fPrim pPowI (aCons (oOf (fLit (.int (10)))) (aCons (oOf (fLit (.int (18)))) aNil)))) aNil))) [some ⟨false, .list N⟩, some ⟨false, .int c⟩, none] = some (b, [some ⟨false, .list N⟩, some ⟨false, .int c⟩, none]) :=
        bool_ok (os2 (sl' := ⟨false, .int c⟩) (sl := ⟨false, .int c⟩) rfl (o2 rfl rfl hp) rfl (geP.trans (by rw [hb])))
      cases b with
      | true => exact ifT ht (os2 (sl' := ⟨false, .int c⟩) (sl := ⟨false, .int c⟩) rfl rfl rfl (divP (by omega) (by omega)))
      | false => exact ifF ht rfl
    have k1 := k1 _ rfl
    generalize hg : (if decide ((10 : Int) ^ 18 ≤ c) then c / 11 else 0) = g at k1
    have g0 : 0 ≤ g := by
      rw [← hg]; split
      · exact Int.ediv_nonneg hc (by omega)
      · omega
    refine ⟨g, (c * 193 + 1201) % 2077504273 + 89, ⟨g0, by omega, by omega⟩, ?_⟩
    refine call_def (σ := [some ⟨false, .list N⟩, some ⟨false, .int c⟩, some ⟨false, .int g⟩]) rfl ?_ rfl
    refine seq_next e1 ?_
    refine seq_next (σ1 := [some ⟨false, .list N⟩, some ⟨false, .int c⟩, some ⟨false, .int g⟩]) (asg_ok (σ1 := [some ⟨false, .list N⟩, some ⟨false, .int c⟩, none]) k1) ?_
    refine seq_ret (ret_ok ?_)
    have k2 : vOf (fPrim qAdd (aCons (oOf (fPrim pModI (aCons (oOf (fPrim pInt (aCons (oOf (fPrim qAdd (aCons (oOf (fPrim qMul (aCons (oSlot 1) (aCons (oOf (fLit (.int (193)))) aNil)))) (aCons (oOf (fLit (.int (1201)))) aNil)))) aNil))) (aCons (oOf (fLit (.int (2077504273)))) aNil)))) (aCons (oOf (fLit (.int (89)))) aNil))) [some ⟨false, .list N⟩, some ⟨false, .int c⟩, some ⟨false, .int g⟩] = some (.int ((c * 193 + 1201) % 2077504273 + 89), [some ⟨false, .list N⟩, some ⟨false, .int c⟩, some ⟨false, .int g⟩]) :=
      vOf_f (o2 (o2 (o1 (o2 (os2 (sl' := ⟨false, .int c⟩) (sl := ⟨false, .int c⟩) rfl rfl rfl (mulP (by decide))) rfl addP) int_ok) rfl (modP (by omega))) rfl addP)
    have k3 : vOf (fVar 2) [some ⟨false, .list N⟩, some ⟨false, .int c⟩, some ⟨false, .int g⟩] = some (.int g, [some ⟨false, .list N⟩, some ⟨false, .int c⟩, some ⟨false, .int g⟩]) := vvar_ok rfl
    simp only [fLst, vCons, k3, k2, vNil]
    rfl
  have cat : ∀ N : List D, N.length ≤ 63 → fPrim qAdd (aCons (oOf (fPrim pList (aCons (oSlot 0) aNil))) (aCons (oOf (fLst (vCons (vOf (fLit (.int (0)))) vNil))) aNil)) [some ⟨false, .list N⟩, none, none] = some (true, .list (N ++ [.int 0]), [some ⟨false, .list N⟩, none, none]) := by
    intro N hN
    have h1 : okLen (N.length + 1) = true := Nat.ble_eq_true_of_le (by omega)
    have h2 : okLen 1 = true := rfl
    simp [fPrim, aCons, aNil, oOf, oSlot, fLst, vCons, vOf, vNil, fLit, resAll, res, pList, qAdd, pElse, pAddI, pII0, pCatL, h1, h2]
  have ix : ∀ (N : List D) (n : Int), N.length ≤ 63 → (N ++ [.int 0])[0]? = some (.int n) → ∃ c, 0 ≤ c ∧ fAsg 1 (fPrim pAbs (aCons (oOf (fPrim pIx (aCons (oOf (fPrim qAdd (aCons (oOf (fPrim pList (aCons (oSlot 0) aNil))) (aCons (oOf (fLst (vCons (vOf (fLit (.int (0)))) vNil))) aNil)))) (aCons (oOf (fLit (.int (0)))) aNil)))) aNil)) [some ⟨false, .list N⟩, none, none] = some (.next, [some ⟨false, .list N⟩, some ⟨false, .int c⟩, none]) := by
    intro N n hN hn
    obtain ⟨c, hc, ec⟩ := abs_ok (i := n)
    refine ⟨c, hc, asg_ok (σ1 := [some ⟨false, .list N⟩, none, none]) (o1 (a := .int n) ?_ ec)⟩
    have e2 : atI (N ++ [.int 0]) (0 : Int) = some (.int n) := by
      have e3 : ixN (N ++ [PyData.int 0]).length (0 : Int) = some 0 := by
        unfold ixN
        rw [if_pos (by omega), if_pos (by simp)]
        rfl
      simp only [atI, e3, Option.bind_some, hn]
    exact o2x (cat N hN) rfl (by simp only [pIx, e2])
  cases ns with
  | nil =>
    obtain ⟨c, hc, e⟩ := ix [] 0 (by simp) rfl
    exact key [] c hc e
  | cons n ns =>
    obtain ⟨c, hc, e⟩ := ix ((n :: ns).map .int) n (by simpa using hl) rfl
    exact key _ c hc e
end Ev.Lw
end
/-! ## FamC -/
section
set_option Elab.async false
set_option linter.all false
set_option maxRecDepth 100000
set_option maxHeartbeats 0
namespace Ev.Lw
open PySem L2 Ev
/-! ### drawn cuttings -/
def prD (x y : Int) : List D := if 1 < y - x then [.tuple [.int x, .int y]] else []
def cutsL : Nat → Int → Int → List (List D)
  | 0, _, _ => [[]]
  | k + 1, f, l => if l - f < 2 then [[]] else (List.range (l - f - 1).toNat).flatMap fun r : Nat => (cutsL k f (f + 1 + (r : Int))).flatMap fun a => (cutsL k (f + 1 + (r : Int)) l).map fun b => (prD f (f + 1 + (r : Int)) ++ prD (f + 1 + (r : Int)) l) ++ a ++ b
theorem lc_cuts (cup : Option Sl) (f l t : Int) : fLc (iSeq (vOf (fTup (vCons (vOf (fTup (vCons (vOf (fVar 1)) (vCons (vOf (fVar 3)) vNil)))) (vCons (vOf (fTup (vCons (vOf (fVar 3)) (vCons (vOf (fVar 2)) vNil)))) vNil))))) (.tup [5, 6]) (tBool (fPrim qGt (aCons (oOf (fPrim pSubI (aCons (oSlot 6) (aCons (oSlot 5) aNil)))) (aCons (oOf (fLit (.int (1)))) aNil)))) (vOf (fTup (vCons (vOf (fVar 5)) (vCons (vOf (fVar 6)) vNil)))) [5, 6]
    [cup, some ⟨false, .int f⟩, some ⟨false, .int l⟩, some ⟨false, .int t⟩, none, none, none] = some (true, .list (prD f t ++ prD t l), [cup, some ⟨false, .int f⟩, some ⟨false, .int l⟩, some ⟨false, .int t⟩, none, none, none]) := by
  have tst : ∀ (x y : Int) (b : Bool), decide (1 < y - x) = b → tBool (fPrim qGt (aCons (oOf (fPrim pSubI (aCons (oSlot 6) (aCons (oSlot 5) aNil)))) (aCons (oOf (fLit (.int (1)))) aNil))) [cup, some ⟨false, .int f⟩, some ⟨false, .int l⟩, some ⟨false, .int t⟩, none, some ⟨false, .int x⟩, some ⟨false, .int y⟩] = some (b, [cup, some ⟨false, .int f⟩, some ⟨false, .int l⟩, some ⟨false, .int t⟩, none, some ⟨false, .int x⟩, some ⟨false, .int y⟩]) := by
    intro x y b h
    exact bool_ok (o2 (oss (sl := ⟨false, .int y⟩) (sl' := ⟨false, .int x⟩) rfl rfl subP) rfl (gtP.trans (by rw [h])))
  have e1 : ∀ b, decide (1 < t - f) = b → prD f t = if b then [.tuple [.int f, .int t]] else [] := by
    intro b h; subst h; unfold prD; by_cases q : 1 < t - f <;> simp [q]
  have e2 : ∀ b, decide (1 < l - t) = b → prD t l = if b then [.tuple [.int t, .int l]] else [] := by
    intro b h; subst h; unfold prD; by_cases q : 1 < l - t <;> simp [q]
  cases h1 : decide (1 < t - f) <;> cases h2 : decide (1 < l - t) <;> rw [e1 _ h1, e2 _ h2]
  · exact lc_ok rfl rfl (lc_n (σ1 := [cup, some ⟨false, .int f⟩, some ⟨false, .int l⟩, some ⟨false, .int t⟩, none, some ⟨false, .int f⟩, some ⟨false, .int t⟩]) rfl (tst _ _ _ h1) (lc_n (σ1 := [cup, some ⟨false, .int f⟩, some ⟨false, .int l⟩, some ⟨false, .int t⟩, none, some ⟨false, .int t⟩, some ⟨false, .int l⟩]) rfl (tst _ _ _ h2) rfl)) rfl
  · exact lc_ok rfl rfl (lc_n (σ1 := [cup, some ⟨false, .int f⟩, some ⟨false, .int l⟩, some ⟨false, .int t⟩, none, some ⟨false, .int f⟩, some ⟨false, .int t⟩]) rfl (tst _ _ _ h1) (lc_y (σ1 := [cup, some ⟨false, .int f⟩, some ⟨false, .int l⟩, some ⟨false, .int t⟩, none, some ⟨false, .int t⟩, some ⟨false, .int l⟩]) rfl (tst _ _ _ h2) rfl rfl)) rfl
  · exact lc_ok rfl rfl (lc_y (σ1 := [cup, some ⟨false, .int f⟩, some ⟨false, .int l⟩, some ⟨false, .int t⟩, none, some ⟨false, .int f⟩, some ⟨false, .int t⟩]) rfl (tst _ _ _ h1) rfl (lc_n (σ1 := [cup, some ⟨false, .int f⟩, some ⟨false, .int l⟩, some ⟨false, .int t⟩, none, some ⟨false, .int t⟩, some ⟨false, .int l⟩]) rfl (tst _ _ _ h2) rfl)) rfl
  · exact lc_ok rfl rfl (lc_y (σ1 := [cup, some ⟨false, .int f⟩, some ⟨false, .int l⟩, some ⟨false, .int t⟩, none, some ⟨false, .int f⟩, some ⟨false, .int t⟩]) rfl (tst _ _ _ h1) rfl (lc_y (σ1 := [cup, some ⟨false, .int f⟩, some ⟨false, .int l⟩, some ⟨false, .int t⟩, none, some ⟨false, .int t⟩, some ⟨false, .int l⟩]) rfl (tst _ _ _ h2) rfl rfl)) rfl
theorem prD_len (x y : Int) : ((prD x y).length = 0 ∧ y - x < 2) ∨ ((prD x y).length = 1 ∧ 2 ≤ y - x) := by
  unfold prD
  by_cases h : 1 < y - x
  · rw [if_pos h]; exact .inr ⟨rfl, by omega⟩
  · rw [if_neg h]; exact .inl ⟨rfl, by omega⟩
theorem cuts_ok : ∀ (k : Nat) (f l : Int), l - f ≤ k + 1 → l - f < 1000 → ∀ {g s : Int}, Good2 g s → ∃ d g' s', d ∈ cutsL k f l ∧ ((l - f < 2 ∧ d.length = 0) ∨ (2 ≤ l - f ∧ (d.length : Int) + 2 = l - f)) ∧ Good2 g' s' ∧
    phi__law_cuts (k + 1) [⟨true, bar g s⟩, ⟨false, .int f⟩, ⟨false, .int l⟩] = some (true, .list d, [bar g' s'])
  | k, f, l, hk, hb, g, s, hg => by
    have tst : ∀ b, decide (l - f < 2) = b → tBool (fPrim qLt (aCons (oOf (fPrim pSubI (aCons (oSlot 2) (aCons (oSlot 1) aNil)))) (aCons (oOf (fLit (.int (2)))) aNil))) [some ⟨true, bar g s⟩, some ⟨false, .int f⟩, some ⟨false, .int l⟩, none, none, none, none] = some (b, [some ⟨true, bar g s⟩, some ⟨false, .int f⟩, some ⟨false, .int l⟩, none, none, none, none]) := by
      intro b h
      exact bool_ok (o2 (oss (sl := ⟨false, .int l⟩) (sl' := ⟨false, .int f⟩) rfl rfl subP) rfl (ltP.trans (by rw [h])))
    by_cases hn : l - f < 2
    · refine ⟨[], g, s, ?_, .inl ⟨hn, rfl⟩, hg, ?_⟩
      · cases k with
        | zero => exact List.mem_singleton.mpr rfl
        | succ k => unfold cutsL; rw [if_pos hn]; exact List.mem_singleton.mpr rfl
      · refine call_def (σ := [some ⟨true, bar g s⟩, some ⟨false, .int f⟩, some ⟨false, .int l⟩, none, none, none, none]) rfl ?_ rfl
        exact seq_ret (ifsT (tst true (by simpa using hn)) rfl)
    · cases k with
      | zero => omega
      | succ k =>
        obtain ⟨r, g1, s1, a1, b1, hg1, e1⟩ := call_roll (i := 0) (σ := [some ⟨true, bar g s⟩, some ⟨false, .int f⟩, some ⟨false, .int l⟩, none, none, none, none]) (σ1 := [some ⟨true, bar g s⟩, some ⟨false, .int f⟩, some ⟨false, .int l⟩, none, none, none, none]) (f := vOf (fPrim pSubI (aCons (oOf (fPrim pSubI (aCons (oSlot 2) (aCons (oSlot 1) aNil)))) (aCons (oOf (fLit (.int (1)))) aNil)))) (n := l - f - 1) (x := ⟨true, bar g s⟩) rfl (vOf_f (o2 (oss (sl := ⟨false, .int l⟩) (sl' := ⟨false, .int f⟩) rfl rfl subP) rfl subP)) rfl hg (by omega) (by omega)
        obtain ⟨A, g2, s2, m2, l2, hg2, e2⟩ := cuts_ok k f (f + 1 + r) (by omega) (by omega) hg1
        obtain ⟨B, g3, s3, m3, l3, hg3, e3⟩ := cuts_ok k (f + 1 + r) l (by omega) (by omega) hg2
        have p1 := prD_len f (f + 1 + r)
        have p2 := prD_len (f + 1 + r) l
        have len1 : (prD f (f + 1 + r) ++ prD (f + 1 + r) l).length = (prD f (f + 1 + r)).length + (prD (f + 1 + r) l).length := List.length_append
        have len2 : (prD f (f + 1 + r) ++ prD (f + 1 + r) l ++ A).length = (prD f (f + 1 + r)).length + (prD (f + 1 + r) l).length + A.length := by rw [List.length_append, len1]
        refine ⟨(prD f (f + 1 + r) ++ prD (f + 1 + r) l) ++ A ++ B, g3, s3, ?_, ?_, hg3, ?_⟩
        · rw [cutsL, if_neg hn]
          refine List.mem_flatMap.mpr ⟨r.toNat, List.mem_range.mpr (by omega), ?_⟩
          have er : ((r.toNat : Nat) : Int) = r := Int.toNat_of_nonneg a1
          rw [er]
          exact List.mem_flatMap.mpr ⟨A, m2, List.mem_map.mpr ⟨B, m3, rfl⟩⟩
        · refine .inr ⟨by omega, ?_⟩
          rw [List.length_append, len2]
          omega
        · refine call_def (σ := [some ⟨true, bar g3 s3⟩, some ⟨false, .int f⟩, some ⟨false, .int l⟩, some ⟨false, .int (f + 1 + r)⟩, some ⟨true, .list (prD f (f + 1 + r) ++ prD (f + 1 + r) l)⟩, none, none]) rfl ?_ rfl
          refine seq_next (ifsF (tst false (by simpa using hn)) rfl) ?_
          refine seq_next (σ1 := [some ⟨true, bar g1 s1⟩, some ⟨false, .int f⟩, some ⟨false, .int l⟩, some ⟨false, .int (f + 1 + r)⟩, none, none, none]) (asg_ok (o2 (os2 (sl := ⟨false, .int f⟩) (sl' := ⟨false, .int f⟩) rfl rfl rfl addP) e1 addP)) ?_
          refine seq_next (σ1 := [some ⟨true, bar g1 s1⟩, some ⟨false, .int f⟩, some ⟨false, .int l⟩, some ⟨false, .int (f + 1 + r)⟩, some ⟨true, .list (prD f (f + 1 + r) ++ prD (f + 1 + r) l)⟩, none, none]) (asg_ok (lc_cuts _ f l (f + 1 + r))) ?_
          refine seq_ret (ret_ok ?_)
          exact o2x (os2x (sl := ⟨true, .list (prD f (f + 1 + r) ++ prD (f + 1 + r) l)⟩) (sl' := ⟨true, .list (prD f (f + 1 + r) ++ prD (f + 1 + r) l)⟩) rfl (callS2 (σ1 := [some ⟨true, bar g1 s1⟩, some ⟨false, .int f⟩, some ⟨false, .int l⟩, some ⟨false, .int (f + 1 + r)⟩, some ⟨true, .list (prD f (f + 1 + r) ++ prD (f + 1 + r) l)⟩, none, none]) (sl := ⟨true, bar g1 s1⟩) rfl (vvar_ok rfl) (vvar_ok rfl) rfl e2) rfl (catP (by rw [len1]; omega)))
            (callS2 (sl := ⟨true, bar g2 s2⟩) (σ1 := [some ⟨true, bar g2 s2⟩, some ⟨false, .int f⟩, some ⟨false, .int l⟩, some ⟨false, .int (f + 1 + r)⟩, some ⟨true, .list (prD f (f + 1 + r) ++ prD (f + 1 + r) l)⟩, none, none]) (σ2 := [some ⟨true, bar g2 s2⟩, some ⟨false, .int f⟩, some ⟨false, .int l⟩, some ⟨false, .int (f + 1 + r)⟩, some ⟨true, .list (prD f (f + 1 + r) ++ prD (f + 1 + r) l)⟩, none, none]) rfl (vvar_ok rfl) (vvar_ok rfl) rfl e3) (catP (by rw [len2]; omega))
/-- the cutting that these cuts make -/
def ctD (n : Int) (d : List D) : D := .tuple [.int n, .tuple (isort leD d)]
theorem cutting_ok (lo hi : Int) (h2 : 3 ≤ lo) (h3 : lo ≤ hi) (h4 : hi ≤ 7) (chk : ∀ r : Int, lo ≤ r → r ≤ hi → (cutsL 5 0 (r - 1)).all kindOk = true) {g s : Int} (hg : Good2 g s) : ∃ n d g' s', lo ≤ n ∧ n ≤ hi ∧ d ∈ cutsL 5 0 (n - 1) ∧ Good2 g' s' ∧
    phi__law_cutting [⟨true, bar g s⟩, ⟨false, .int lo⟩, ⟨false, .int hi⟩] = some (false, ctD n d, [bar g' s']) := by
  obtain ⟨r, g1, s1, a1, b1, hg1, e1⟩ := call_roll (i := 0) (σ := [some ⟨true, bar g s⟩, some ⟨false, .int lo⟩, some ⟨false, .int hi⟩, none]) (σ1 := [some ⟨true, bar g s⟩, some ⟨false, .int lo⟩, some ⟨false, .int hi⟩, none]) (f := vOf (fPrim qAdd (aCons (oOf (fPrim pSubI (aCons (oSlot 2) (aCons (oSlot 1) aNil)))) (aCons (oOf (fLit (.int (1)))) aNil)))) (n := hi - lo + 1) (x := ⟨true, bar g s⟩) rfl (vOf_f (o2 (oss (sl := ⟨false, .int hi⟩) (sl' := ⟨false, .int lo⟩) rfl rfl subP) rfl addP)) rfl hg (by omega) (by omega)
  obtain ⟨d, g2, s2, m2, l2, hg2, e2⟩ := cuts_ok 5 0 (lo + r - 1) (by omega) (by omega) hg1
  refine ⟨lo + r, d, g2, s2, by omega, by omega, m2, hg2, ?_⟩
  have hk := List.all_eq_true.mp (chk (lo + r) (by omega) (by omega)) d m2
  have hl : okLen d.length = true := Nat.ble_eq_true_of_le (by omega)
  have es : pSorted [.list d] = some (true, .list (isort leD d)) := by simp [pSorted, hl, hk]
  have et : pTuple [.list (isort leD d)] = some (false, .tuple (isort leD d)) := rfl
  refine call_def (σ := [some ⟨true, bar g2 s2⟩, some ⟨false, .int lo⟩, some ⟨false, .int hi⟩, some ⟨false, .int (lo + r)⟩]) rfl ?_ rfl
  refine seq_next (σ1 := [some ⟨true, bar g1 s1⟩, some ⟨false, .int lo⟩, some ⟨false, .int hi⟩, some ⟨false, .int (lo + r)⟩]) (asg_ok (os2 (sl := ⟨false, .int lo⟩) (sl' := ⟨false, .int lo⟩) rfl e1 rfl addP)) ?_
  refine seq_ret (ret_ok (tup2 (vvar_ok rfl) (vOf_f (o1x (o1x (callS2 (σ1 := [some ⟨true, bar g1 s1⟩, some ⟨false, .int lo⟩, some ⟨false, .int hi⟩, some ⟨false, .int (lo + r)⟩]) (σ2 := [some ⟨true, bar g1 s1⟩, some ⟨false, .int lo⟩, some ⟨false, .int hi⟩, some ⟨false, .int (lo + r)⟩]) (sl := ⟨true, bar g1 s1⟩) rfl rfl (vOf_f (os2 (sl := ⟨false, .int (lo + r)⟩) (sl' := ⟨false, .int (lo + r)⟩) rfl rfl rfl subP)) rfl e2) es) et))))
end Ev.Lw
end
/-! ## R81 -/
noncomputable section
set_option Elab.async false
set_option linter.all false
set_option maxRecDepth 100000
set_option maxHeartbeats 0
namespace Ev.Lw
open PySem L2 Ev
def ct_0 : D := .tuple [.int (Int.ofNat (nat_lit 3)), .tuple []]
def ct_1 : D := .tuple [.int (Int.ofNat (nat_lit 4)), .tuple [.tuple [.int (Int.ofNat (nat_lit 1)), .int (Int.ofNat (nat_lit 3))]]]
def ct_2 : D := .tuple [.int (Int.ofNat (nat_lit 4)), .tuple [.tuple [.int (Int.ofNat (nat_lit 0)), .int (Int.ofNat (nat_lit 2))]]]
def ct_3 : D := .tuple [.int (Int.ofNat (nat_lit 5)), .tuple [.tuple [.int (Int.ofNat (nat_lit 1)), .int (Int.ofNat (nat_lit 4))], .tuple [.int (Int.ofNat (nat_lit 2)), .int (Int.ofNat (nat_lit 4))]]]
def ct_4 : D := .tuple [.int (Int.ofNat (nat_lit 5)), .tuple [.tuple [.int (Int.ofNat (nat_lit 1)), .int (Int.ofNat (nat_lit 3))], .tuple [.int (Int.ofNat (nat_lit 1)), .int (Int.ofNat (nat_lit 4))]]]
def ct_5 : D := .tuple [.int (Int.ofNat (nat_lit 5)), .tuple [.tuple [.int (Int.ofNat (nat_lit 0)), .int (Int.ofNat (nat_lit 2))], .tuple [.int (Int.ofNat (nat_lit 2)), .int (Int.ofNat (nat_lit 4))]]]
def ct_6 : D := .tuple [.int (Int.ofNat (nat_lit 5)), .tuple [.tuple [.int (Int.ofNat (nat_lit 0)), .int (Int.ofNat (nat_lit 3))], .tuple [.int (Int.ofNat (nat_lit 1)), .int (Int.ofNat (nat_lit 3))]]]
def ct_7 : D := .tuple [.int (Int.ofNat (nat_lit 5)), .tuple [.tuple [.int (Int.ofNat (nat_lit 0)), .int (Int.ofNat (nat_lit 2))], .tuple [.int (Int.ofNat (nat_lit 0)), .int (Int.ofNat (nat_lit 3))]]]
theorem cts_3 : (cutsL 5 0 (3 - 1)).map (ctD 3) = [ct_0] := by kernel_rfl
theorem chk_3 : (cutsL 5 0 (3 - 1)).all kindOk = true := by decide +kernel
theorem cts_4 : (cutsL 5 0 (4 - 1)).map (ctD 4) = [ct_1, ct_2] := by kernel_rfl
theorem chk_4 : (cutsL 5 0 (4 - 1)).all kindOk = true := by decide +kernel
theorem cts_5 : (cutsL 5 0 (5 - 1)).map (ctD 5) = [ct_3, ct_4, ct_5, ct_6, ct_7] := by kernel_rfl
theorem chk_5 : (cutsL 5 0 (5 - 1)).all kindOk = true := by decide +kernel
theorem ri_0_0 : phi__law_right [⟨false, ct_0⟩, ⟨false, ct_0⟩] = some (false, .bool true, []) := ent_ok (e := ⟨[ct_0, ct_0], false, .bool true⟩) sphi__law_right (by decide +kernel)
theorem ri_0_1 : phi__law_right [⟨false, ct_0⟩, ⟨false, ct_1⟩] = some (false, .bool true, []) := ent_ok (e := ⟨[ct_0, ct_1], false, .bool true⟩) sphi__law_right (by decide +kernel)
theorem ri_0_2 : phi__law_right [⟨false, ct_0⟩, ⟨false, ct_2⟩] = some (false, .bool true, []) := ent_ok (e := ⟨[ct_0, ct_2], false, .bool true⟩) sphi__law_right (by decide +kernel)
theorem ri_0_3 : phi__law_right [⟨false, ct_0⟩, ⟨false, ct_3⟩] = some (false, .bool true, []) := ent_ok (e := ⟨[ct_0, ct_3], false, .bool true⟩) sphi__law_right (by decide +kernel)
theorem ri_0_4 : phi__law_right [⟨false, ct_0⟩, ⟨false, ct_4⟩] = some (false, .bool true, []) := ent_ok (e := ⟨[ct_0, ct_4], false, .bool true⟩) sphi__law_right (by decide +kernel)
theorem ri_0_5 : phi__law_right [⟨false, ct_0⟩, ⟨false, ct_5⟩] = some (false, .bool true, []) := ent_ok (e := ⟨[ct_0, ct_5], false, .bool true⟩) sphi__law_right (by decide +kernel)
theorem ri_0_6 : phi__law_right [⟨false, ct_0⟩, ⟨false, ct_6⟩] = some (false, .bool true, []) := ent_ok (e := ⟨[ct_0, ct_6], false, .bool true⟩) sphi__law_right (by decide +kernel)
theorem ri_0_7 : phi__law_right [⟨false, ct_0⟩, ⟨false, ct_7⟩] = some (false, .bool true, []) := ent_ok (e := ⟨[ct_0, ct_7], false, .bool true⟩) sphi__law_right (by decide +kernel)
theorem ri_1_0 : phi__law_right [⟨false, ct_1⟩, ⟨false, ct_0⟩] = some (false, .bool true, []) := ent_ok (e := ⟨[ct_1, ct_0], false, .bool true⟩) sphi__law_right (by decide +kernel)
theorem ri_1_1 : phi__law_right [⟨false, ct_1⟩, ⟨false, ct_1⟩] = some (false, .bool true, []) := ent_ok (e := ⟨[ct_1, ct_1], false, .bool true⟩) sphi__law_right (by decide +kernel)
theorem ri_1_2 : phi__law_right [⟨false, ct_1⟩, ⟨false, ct_2⟩] = some (false, .bool true, []) := ent_ok (e := ⟨[ct_1, ct_2], false, .bool true⟩) sphi__law_right (by decide +kernel)
theorem ri_1_3 : phi__law_right [⟨false, ct_1⟩, ⟨false, ct_3⟩] = some (false, .bool true, []) := ent_ok (e := ⟨[ct_1, ct_3], false, .bool true⟩) sphi__law_right (by decide +kernel)
theorem ri_1_4 : phi__law_right [⟨false, ct_1⟩, ⟨false, ct_4⟩] = some (false, .bool true, []) := ent_ok (e := ⟨[ct_1, ct_4], false, .bool true⟩) sphi__law_right (by decide +kernel)
theorem ri_1_5 : phi__law_right [⟨false, ct_1⟩, ⟨false, ct_5⟩] = some (false, .bool true, []) := ent_ok (e := ⟨[ct_1, ct_5], false, .bool true⟩) sphi__law_right (by decide +kernel)
theorem ri_1_6 : phi__law_right [⟨false, ct_1⟩, ⟨false, ct_6⟩] = some (false, .bool true, []) := ent_ok (e := ⟨[ct_1, ct_6], false, .bool true⟩) sphi__law_right (by decide +kernel)
theorem ri_1_7 : phi__law_right [⟨false, ct_1⟩, ⟨false, ct_7⟩] = some (false, .bool true, []) := ent_ok (e := ⟨[ct_1, ct_7], false, .bool true⟩) sphi__law_right (by decide +kernel)
theorem ri_2_0 : phi__law_right [⟨false, ct_2⟩, ⟨false, ct_0⟩] = some (false, .bool true, []) := ent_ok (e := ⟨[ct_2, ct_0], false, .bool true⟩) sphi__law_right (by decide +kernel)
theorem ri_2_1 : phi__law_right [⟨false, ct_2⟩, ⟨false, ct_1⟩] = some (false, .bool true, []) := ent_ok (e := ⟨[ct_2, ct_1], false, .bool true⟩) sphi__law_right (by decide +kernel)
theorem ri_2_2 : phi__law_right [⟨false, ct_2⟩, ⟨false, ct_2⟩] = some (false, .bool true, []) := ent_ok (e := ⟨[ct_2, ct_2], false, .bool true⟩) sphi__law_right (by decide +kernel)
theorem ri_2_3 : phi__law_right [⟨false, ct_2⟩, ⟨false, ct_3⟩] = some (false, .bool true, []) := ent_ok (e := ⟨[ct_2, ct_3], false, .bool true⟩) sphi__law_right (by decide +kernel)
theorem ri_2_4 : phi__law_right [⟨false, ct_2⟩, ⟨false, ct_4⟩] = some (false, .bool true, []) := ent_ok (e := ⟨[ct_2, ct_4], false, .bool true⟩) sphi__law_right (by decide +kernel)
theorem ri_2_5 : phi__law_right [⟨false, ct_2⟩, ⟨false, ct_5⟩] = some (false, .bool true, []) := ent_ok (e := ⟨[ct_2, ct_5], false, .bool true⟩) sphi__law_right (by decide +kernel)
theorem ri_2_6 : phi__law_right [⟨false, ct_2⟩, ⟨false, ct_6⟩] = some (false, .bool true, []) := ent_ok (e := ⟨[ct_2, ct_6], false, .bool true⟩) sphi__law_right (by decide +kernel)
theorem ri_2_7 : phi__law_right [⟨false, ct_2⟩, ⟨false, ct_7⟩] = some (false, .bool true, []) := ent_ok (e := ⟨[ct_2, ct_7], false, .bool true⟩) sphi__law_right (by decide +kernel)
theorem ri_3_0 : phi__law_right [⟨false, ct_3⟩, ⟨false, ct_0⟩] = some (false, .bool true, []) := ent_ok (e := ⟨[ct_3, ct_0], false, .bool true⟩) sphi__law_right (by decide +kernel)
theorem ri_3_1 : phi__law_right [⟨false, ct_3⟩, ⟨false, ct_1⟩] = some (false, .bool true, []) := ent_ok (e := ⟨[ct_3, ct_1], false, .bool true⟩) sphi__law_right (by decide +kernel)
theorem ri_3_2 : phi__law_right [⟨false, ct_3⟩, ⟨false, ct_2⟩] = some (false, .bool true, []) := ent_ok (e := ⟨[ct_3, ct_2], false, .bool true⟩) sphi__law_right (by decide +kernel)
theorem ri_3_3 : phi__law_right [⟨false, ct_3⟩, ⟨false, ct_3⟩] = some (false, .bool true, []) := ent_ok (e := ⟨[ct_3, ct_3], false, .bool true⟩) sphi__law_right (by decide +kernel)
theorem ri_3_4 : phi__law_right [⟨false, ct_3⟩, ⟨false, ct_4⟩] = some (false, .bool true, []) := ent_ok (e := ⟨[ct_3, ct_4], false, .bool true⟩) sphi__law_right (by decide +kernel)
theorem ri_3_5 : phi__law_right [⟨false, ct_3⟩, ⟨false, ct_5⟩] = some (false, .bool true, []) := ent_ok (e := ⟨[ct_3, ct_5], false, .bool true⟩) sphi__law_right (by decide +kernel)
theorem ri_3_6 : phi__law_right [⟨false, ct_3⟩, ⟨false, ct_6⟩] = some (false, .bool true, []) := ent_ok (e := ⟨[ct_3, ct_6], false, .bool true⟩) sphi__law_right (by decide +kernel)
theorem ri_3_7 : phi__law_right [⟨false, ct_3⟩, ⟨false, ct_7⟩] = some (false, .bool true, []) := ent_ok (e := ⟨[ct_3, ct_7], false, .bool true⟩) sphi__law_right (by decide +kernel)
theorem ri_4_0 : phi__law_right [⟨false, ct_4⟩, ⟨false, ct_0⟩] = some (false, .bool true, []) := ent_ok (e := ⟨[ct_4, ct_0], false, .bool true⟩) sphi__law_right (by decide +kernel)
theorem ri_4_1 : phi__law_right [⟨false, ct_4⟩, ⟨false, ct_1⟩] = some (false, .bool true, []) := ent_ok (e := ⟨[ct_4, ct_1], false, .bool true⟩) sphi__law_right (by decide +kernel)
theorem ri_4_2 : phi__law_right [⟨false, ct_4⟩, ⟨false, ct_2⟩] = some (false, .bool true, []) := ent_ok (e := ⟨[ct_4, ct_2], false, .bool true⟩) sphi__law_right (by decide +kernel)
theorem ri_4_3 : phi__law_right [⟨false, ct_4⟩, ⟨false, ct_3⟩] = some (false, .bool true, []) := ent_ok (e := ⟨[ct_4, ct_3], false, .bool true⟩) sphi__law_right (by decide +kernel)
theorem ri_4_4 : phi__law_right [⟨false, ct_4⟩, ⟨false, ct_4⟩] = some (false, .bool true, []) := ent_ok (e := ⟨[ct_4, ct_4], false, .bool true⟩) sphi__law_right (by decide +kernel)
theorem ri_4_5 : phi__law_right [⟨false, ct_4⟩, ⟨false, ct_5⟩] = some (false, .bool true, []) := ent_ok (e := ⟨[ct_4, ct_5], false, .bool true⟩) sphi__law_right (by decide +kernel)
theorem ri_4_6 : phi__law_right [⟨false, ct_4⟩, ⟨false, ct_6⟩] = some (false, .bool true, []) := ent_ok (e := ⟨[ct_4, ct_6], false, .bool true⟩) sphi__law_right (by decide +kernel)
theorem ri_4_7 : phi__law_right [⟨false, ct_4⟩, ⟨false, ct_7⟩] = some (false, .bool true, []) := ent_ok (e := ⟨[ct_4, ct_7], false, .bool true⟩) sphi__law_right (by decide +kernel)
theorem ri_5_0 : phi__law_right [⟨false, ct_5⟩, ⟨false, ct_0⟩] = some (false, .bool true, []) := ent_ok (e := ⟨[ct_5, ct_0], false, .bool true⟩) sphi__law_right (by decide +kernel)
theorem ri_5_1 : phi__law_right [⟨false, ct_5⟩, ⟨false, ct_1⟩] = some (false, .bool true, []) := ent_ok (e := ⟨[ct_5, ct_1], false, .bool true⟩) sphi__law_right (by decide +kernel)
theorem ri_5_2 : phi__law_right [⟨false, ct_5⟩, ⟨false, ct_2⟩] = some (false, .bool true, []) := ent_ok (e := ⟨[ct_5, ct_2], false, .bool true⟩) sphi__law_right (by decide +kernel)
theorem ri_5_3 : phi__law_right [⟨false, ct_5⟩, ⟨false, ct_3⟩] = some (false, .bool true, []) := ent_ok (e := ⟨[ct_5, ct_3], false, .bool true⟩) sphi__law_right (by decide +kernel)
theorem ri_5_4 : phi__law_right [⟨false, ct_5⟩, ⟨false, ct_4⟩] = some (false, .bool true, []) := ent_ok (e := ⟨[ct_5, ct_4], false, .bool true⟩) sphi__law_right (by decide +kernel)
theorem ri_5_5 : phi__law_right [⟨false, ct_5⟩, ⟨false, ct_5⟩] = some (false, .bool true, []) := ent_ok (e := ⟨[ct_5, ct_5], false, .bool true⟩) sphi__law_right (by decide +kernel)
theorem ri_5_6 : phi__law_right [⟨false, ct_5⟩, ⟨false, ct_6⟩] = some (false, .bool true, []) := ent_ok (e := ⟨[ct_5, ct_6], false, .bool true⟩) sphi__law_right (by decide +kernel)
theorem ri_5_7 : phi__law_right [⟨false, ct_5⟩, ⟨false, ct_7⟩] = some (false, .bool true, []) := ent_ok (e := ⟨[ct_5, ct_7], false, .bool true⟩) sphi__law_right (by decide +kernel)
theorem ri_6_0 : phi__law_right [⟨false, ct_6⟩, ⟨false, ct_0⟩] = some (false, .bool true, []) := ent_ok (e := ⟨[ct_6, ct_0], false, .bool true⟩) sphi__law_right (by decide +kernel)
theorem ri_6_1 : phi__law_right [⟨false, ct_6⟩, ⟨false, ct_1⟩] = some (false, .bool true, []) := ent_ok (e := ⟨[ct_6, ct_1], false, .bool true⟩) sphi__law_right (by decide +kernel)
theorem ri_6_2 : phi__law_right [⟨false, ct_6⟩, ⟨false, ct_2⟩] = some (false, .bool true, []) := ent_ok (e := ⟨[ct_6, ct_2], false, .bool true⟩) sphi__law_right (by decide +kernel)
theorem ri_6_3 : phi__law_right [⟨false, ct_6⟩, ⟨false, ct_3⟩] = some (false, .bool true, []) := ent_ok (e := ⟨[ct_6, ct_3], false, .bool true⟩) sphi__law_right (by decide +kernel)
theorem ri_6_4 : phi__law_right [⟨false, ct_6⟩, ⟨false, ct_4⟩] = some (false, .bool true, []) := ent_ok (e := ⟨[ct_6, ct_4], false, .bool true⟩) sphi__law_right (by decide +kernel)
theorem ri_6_5 : phi__law_right [⟨false, ct_6⟩, ⟨false, ct_5⟩] = some (false, .bool true, []) := ent_ok (e := ⟨[ct_6, ct_5], false, .bool true⟩) sphi__law_right (by decide +kernel)
theorem ri_6_6 : phi__law_right [⟨false, ct_6⟩, ⟨false, ct_6⟩] = some (false, .bool true, []) := ent_ok (e := ⟨[ct_6, ct_6], false, .bool true⟩) sphi__law_right (by decide +kernel)
theorem ri_6_7 : phi__law_right [⟨false, ct_6⟩, ⟨false, ct_7⟩] = some (false, .bool true, []) := ent_ok (e := ⟨[ct_6, ct_7], false, .bool true⟩) sphi__law_right (by decide +kernel)
theorem ri_7_0 : phi__law_right [⟨false, ct_7⟩, ⟨false, ct_0⟩] = some (false, .bool true, []) := ent_ok (e := ⟨[ct_7, ct_0], false, .bool true⟩) sphi__law_right (by decide +kernel)
theorem ri_7_1 : phi__law_right [⟨false, ct_7⟩, ⟨false, ct_1⟩] = some (false, .bool true, []) := ent_ok (e := ⟨[ct_7, ct_1], false, .bool true⟩) sphi__law_right (by decide +kernel)
theorem ri_7_2 : phi__law_right [⟨false, ct_7⟩, ⟨false, ct_2⟩] = some (false, .bool true, []) := ent_ok (e := ⟨[ct_7, ct_2], false, .bool true⟩) sphi__law_right (by decide +kernel)
theorem ri_7_3 : phi__law_right [⟨false, ct_7⟩, ⟨false, ct_3⟩] = some (false, .bool true, []) := ent_ok (e := ⟨[ct_7, ct_3], false, .bool true⟩) sphi__law_right (by decide +kernel)
theorem ri_7_4 : phi__law_right [⟨false, ct_7⟩, ⟨false, ct_4⟩] = some (false, .bool true, []) := ent_ok (e := ⟨[ct_7, ct_4], false, .bool true⟩) sphi__law_right (by decide +kernel)
theorem ri_7_5 : phi__law_right [⟨false, ct_7⟩, ⟨false, ct_5⟩] = some (false, .bool true, []) := ent_ok (e := ⟨[ct_7, ct_5], false, .bool true⟩) sphi__law_right (by decide +kernel)
theorem ri_7_6 : phi__law_right [⟨false, ct_7⟩, ⟨false, ct_6⟩] = some (false, .bool true, []) := ent_ok (e := ⟨[ct_7, ct_6], false, .bool true⟩) sphi__law_right (by decide +kernel)
theorem ri_7_7 : phi__law_right [⟨false, ct_7⟩, ⟨false, ct_7⟩] = some (false, .bool true, []) := ent_ok (e := ⟨[ct_7, ct_7], false, .bool true⟩) sphi__law_right (by decide +kernel)
theorem drawn {g s : Int} (hg : Good2 g s) : ∃ c g' s', (c = ct_0 ∨ c = ct_1 ∨ c = ct_2 ∨ c = ct_3 ∨ c = ct_4 ∨ c = ct_5 ∨ c = ct_6 ∨ c = ct_7) ∧ Good2 g' s' ∧ phi__law_cutting [⟨true, bar g s⟩, ⟨false, .int 3⟩, ⟨false, .int 5⟩] = some (false, c, [bar g' s']) := by
  obtain ⟨n, d, g1, s1, h1, h2, hm, hg1, e⟩ := cutting_ok 3 5 (by omega) (by omega) (by omega) (fun r a b => by
    have : r = 3 ∨ r = 4 ∨ r = 5 := by omega
    rcases this with rfl | rfl | rfl
    · exact chk_3
    · exact chk_4
    · exact chk_5) hg
  refine ⟨ctD n d, g1, s1, ?_, hg1, e⟩
  have : n = 3 ∨ n = 4 ∨ n = 5 := by omega
  have key : ctD n d ∈ (cutsL 5 0 (n - 1)).map (ctD n) := List.mem_map_of_mem hm
  rcases this with rfl | rfl | rfl
  · rw [cts_3] at key
    simp only [List.mem_cons, List.not_mem_nil, or_false] at key
    have h := key
    · exact Or.inl h
  · rw [cts_4] at key
    simp only [List.mem_cons, List.not_mem_nil, or_false] at key
    rcases key with h | h
    · exact Or.inr (Or.inl h)
    · exact Or.inr (Or.inr (Or.inl h))
  · rw [cts_5] at key
    simp only [List.mem_cons, List.not_mem_nil, or_false] at key
    rcases key with h | h | h | h | h
    · exact Or.inr (Or.inr (Or.inr (Or.inl h)))
    · exact Or.inr (Or.inr (Or.inr (Or.inr (Or.inl h))))
    · exact Or.inr (Or.inr (Or.inr (Or.inr (Or.inr (Or.inl h)))))
    · exact Or.inr (Or.inr (Or.inr (Or.inr (Or.inr (Or.inr (Or.inl h))))))
    · exact Or.inr (Or.inr (Or.inr (Or.inr (Or.inr (Or.inr (Or.inr (h)))))))
theorem right_all {c c' : D} (h : c = ct_0 ∨ c = ct_1 ∨ c = ct_2 ∨ c = ct_3 ∨ c = ct_4 ∨ c = ct_5 ∨ c = ct_6 ∨ c = ct_7) (h' : c' = ct_0 ∨ c' = ct_1 ∨ c' = ct_2 ∨ c' = ct_3 ∨ c' = ct_4 ∨ c' = ct_5 ∨ c' = ct_6 ∨ c' = ct_7) : phi__law_right [⟨false, c⟩, ⟨false, c'⟩] = some (false, .bool true, []) := by
  rcases h with rfl | rfl | rfl | rfl | rfl | rfl | rfl | rfl <;> rcases h' with rfl | rfl | rfl | rfl | rfl | rfl | rfl | rfl
  · exact ri_0_0
  · exact ri_0_1
  · exact ri_0_2
  · exact ri_0_3
  · exact ri_0_4
  · exact ri_0_5
  · exact ri_0_6
  · exact ri_0_7
  · exact ri_1_0
  · exact ri_1_1
  · exact ri_1_2
  · exact ri_1_3
  · exact ri_1_4
  · exact ri_1_5
  · exact ri_1_6
  · exact ri_1_7
  · exact ri_2_0
  · exact ri_2_1
  · exact ri_2_2
  · exact ri_2_3
  · exact ri_2_4
  · exact ri_2_5
  · exact ri_2_6
  · exact ri_2_7
  · exact ri_3_0
  · exact ri_3_1
  · exact ri_3_2
  · exact ri_3_3
  · exact ri_3_4
  · exact ri_3_5
  · exact ri_3_6
  · exact ri_3_7
  · exact ri_4_0
  · exact ri_4_1
  · exact ri_4_2
  · exact ri_4_3
  · exact ri_4_4
  · exact ri_4_5
  · exact ri_4_6
  · exact ri_4_7
  · exact ri_5_0
  · exact ri_5_1
  · exact ri_5_2
  · exact ri_5_3
  · exact ri_5_4
  · exact ri_5_5
  · exact ri_5_6
  · exact ri_5_7
  · exact ri_6_0
  · exact ri_6_1
  · exact ri_6_2
  · exact ri_6_3
  · exact ri_6_4
  · exact ri_6_5
  · exact ri_6_6
  · exact ri_6_7
  · exact ri_7_0
  · exact ri_7_1
  · exact ri_7_2
  · exact ri_7_3
  · exact ri_7_4
  · exact ri_7_5
  · exact ri_7_6
  · exact ri_7_7
theorem law_pure (ns : List Int) (hl : ns.length ≤ 63) : phi_law [⟨false, .list (ns.map .int)⟩] = some (false, .bool true, []) := by
  obtain ⟨g0, s0, hg0, e0⟩ := cup_ok ns hl
  generalize hN : (ns.map PyData.int) = N at e0 ⊢
  obtain ⟨c1, g1, s1, m1, hg1, e1⟩ := drawn hg0
  obtain ⟨c2, g2, s2, m2, hg2, e2⟩ := drawn hg1
  have eR := right_all m1 m2
  refine call_def (σ := [some ⟨false, .list N⟩, some ⟨true, bar g2 s2⟩]) rfl ?_ rfl
  refine seq_next (σ1 := [some ⟨false, .list N⟩, some ⟨true, bar g0 s0⟩]) (asg_ok (σ := [some ⟨false, .list N⟩, none]) (σ1 := [some ⟨false, .list N⟩, none]) (call1 (vvar_ok rfl) e0)) ?_
  refine seq_next (σ1 := [some ⟨false, .list N⟩, some ⟨true, bar g2 s2⟩]) (ifsF (notT (truth (call2 (vOf_f (callS2 (i := 1) (σ := [some ⟨false, .list N⟩, some ⟨true, bar g0 s0⟩]) (σ1 := [some ⟨false, .list N⟩, some ⟨true, bar g0 s0⟩]) (σ2 := [some ⟨false, .list N⟩, some ⟨true, bar g0 s0⟩]) (sl := ⟨true, bar g0 s0⟩) rfl rfl rfl rfl e1)) (vOf_f (callS2 (i := 1) (σ := [some ⟨false, .list N⟩, some ⟨true, bar g1 s1⟩]) (σ1 := [some ⟨false, .list N⟩, some ⟨true, bar g1 s1⟩]) (σ2 := [some ⟨false, .list N⟩, some ⟨true, bar g1 s1⟩]) (sl := ⟨true, bar g1 s1⟩) rfl rfl rfl rfl e2)) eR))) rfl) ?_
  exact seq_ret (ret_ok (andT (σ1 := [some ⟨false, .list N⟩, some ⟨true, bar g2 s2⟩]) (call2 (σ1 := [some ⟨false, .list N⟩, some ⟨true, bar g2 s2⟩]) rfl rfl ri_2_1) (call2 (σ1 := [some ⟨false, .list N⟩, some ⟨true, bar g2 s2⟩]) rfl rfl ri_0_7)))
end Ev.Lw
end
/-! ## Fk81 -/
section
set_option Elab.async false
set_option linter.all false
set_option maxRecDepth 100000
set_option maxHeartbeats 0
open PySem PySem.W PySem.Calls PyProof.Rows
theorem PySem.Challenge.cw_eightworlds_k81_whole_two_above_one_piec_holds : PySem.Challenge.rw_eightworlds_k81_whole_two_above_one_piec.Holds := by
  w_on; o_law
  refine HandSHeadRun.head_any (r := OpenLaw.row PySem.Challenge.rw_eightworlds_k81_whole_two_above_one_piec) (q := view (OpenLaw.row PySem.Challenge.rw_eightworlds_k81_whole_two_above_one_piec).prog [82]) (H := Ev.Lw.hk) (ob := Ev.Lw.ob) (M := 20000) (loose := Ev.Lw.loose) (d := HandSHeadRun.topDef (OpenLaw.row PySem.Challenge.rw_eightworlds_k81_whole_two_above_one_piec).prog 82) (kwd := []) Ev.Lw.ob_eq
    (by kernel_rfl) (fun s => by kernel_rfl) Ev.Lw.run (by kernel_rfl) (by kernel_rfl) (by kernel_rfl) (by rfl) (by first | assumption | decide +kernel) (by decide +kernel) ⟨rfl, rfl, rfl, rfl, rfl, by decide +kernel⟩ ?hw ?hc
  case hw => w_witness2
  case hc =>
    refine L2.walk_ofE (l := PySem.Challenge.rw_eightworlds_k81_whole_two_above_one_piec) (n := 63) (k := Ev.Lw.LV) (x := "_law_script") (CX := L2.CX0) rfl (by decide) (by kernel_rfl) ⟨rfl, by decide, by decide⟩ ?F (fun _ _ _ _ z => z)
    intro w mg fa h Y G hmg0
    obtain ⟨K, KX, c⟩ := Y
    have hmg : mg ("law" : PySem.Str) = some (.ref fa) := by
      have e : (HandSHeadRun.topDef (OpenLaw.row PySem.Challenge.rw_eightworlds_k81_whole_two_above_one_piec).prog 82).name = ("law" : PySem.Str) := by kernel_rfl
      rw [← e]
      exact hmg0
    have A := Ev.head_ok KX G Ev.Lw.fn_mk c
    obtain ⟨f, fd, F, hm⟩ := A.d 63 (Ev.mkD "law" (Ev.Lw.S 82)) (by rfl)
    have hm' : mg ("law" : PySem.Str) = some (.ref f) := hm
    rw [hmg] at hm'
    cases hm'
    have b := L2.FunD.bindsA (ps := Ev.Lw.P_law) F fun _ _ _ _ _ _ us hl => match us, hl with | [_], _ => rfl
    exact ⟨Ev.dropL K, fd, Ev.spD (Ev.dropL K) 1 Ev.Lw.phi_law, Ev.dropL_in KX, fun s v => b s [v] rfl, fun H a ns hl _ hS => Ev.law_sp hS (Ev.Lw.law_pure ns hl), fun base _ _ => Ev.Lw.law_fn A F⟩
end
