import PyProof.Rows.All
import Wide.All
import OpenK.AllK
import Wide.FinOn
import PySem.Challenge.RW_squarefloors_k03_whole_main_least
import HandS.TupAny
import HandS.TupMul
import HandS.Conv
import HandS.Style
import HandS.ForMost
import HandS.Walk
import HandS.Wide
import HandS.Zip
import HandS.Deep
import HandS.Gcd
import HandS.EndBits
import HandS.IsInst
import KE.SortData
import KE.DataMinMax
import HandS.Words
import HandS.Comp
import KE.KIndexOf
import HandS.Codes
import HandS.RaiseMore
import PyProof.Rows.InDataRows
import PyProof.ReprRoads
import HandS.SetFor
import HandS.SortInts
import KE.GoesNew
import HandS.NoneIn
import KE.KDictPairs
import HandS.More
import KE.KRevSl
import KE.DatumOrd
set_option Elab.async false
set_option linter.all false
set_option maxRecDepth 100000
set_option maxHeartbeats 4000000
namespace D8
/-- whether tuples are kept frozen (so that their methods may be called); otherwise they may be keys of dicts -/
def FZ : Bool := true
@[simp] theorem FZ_is : FZ = true := rfl
end D8

namespace D8
open PySem PySem.Spec PyProof.Rows L2
/-! ### new tuples -/
/-- how a new tuple stands in the heap -/
def tupO (o : Obj) (xs : List V) : HO := if FZ = true then .frz o (.tup xs) else .tup xs
theorem tupO_ok {P : Program} {w : World} {H : Hp} {h : Heap} {a : Addr} {o : Obj} {xs : List V} (e : h.get? a = some o) (k : ObjOk P w H h a (.tup xs)) : ObjOk P w H h a (tupO o xs) := by
  unfold tupO
  split
  · exact ⟨e, k⟩
  · exact k
theorem tupO_sq {K : PySem.W.Frag} {H : Hp} {a : Addr} {o : Obj} {xs : List V} (e : H a = some (tupO o xs)) : SqT K H a xs := by
  unfold tupO at e
  split at e
  · exact .inl (.inr ⟨o, e⟩)
  · exact .inl (.inl e)
section
variable {X : Cx}
theorem pe_tupF {es : List Expr} {t : TA} {x1 : Nat} {pos : Pos} (h : PA X es t) : PE X (.Tuple es x1 pos) (fun σ H Q => t σ H fun xs H1 => xs.length ≤ sizeLine ∧ ∀ p o, H1 p = none → o.dict = none → Q (.ref p) (upd H1 p (tupO o xs))) := by
  refine ⟨fun pins s σ H Q I hq => ?_⟩
  refine wpAny_Tuple_spliced (thn (h.run pos pins s σ H _ I hq) fun us s1 ⟨xs, H1, I1, r, z, q⟩ => ⟨by rw [← r.length]; exact z, ?_⟩)
  have hf : H1 s1.heap.objs.size = none := I1.hok.fresh (Nat.le_refl _)
  refine ⟨.ref s1.heap.objs.size, upd H1 s1.heap.objs.size (tupO { cls := .type "tuple", data := .seq us.toArray } xs), I1.laid (t' := s1.toks) (fun b u e => Heap.get?_push_of_some _ e) (Nat.le_refl _) ?_, rfl, q _ _ hf rfl⟩
  exact tupO_ok (Heap.get?_push_size _ rfl) ⟨z, us, r, ⟨_, Heap.get?_push_size _ rfl, rfl, _, rfl⟩⟩
theorem call_tuple_ofF : CallR X (.type "tuple") (fun xs H Q => ∃ p ys, xs = [.ref p] ∧ ((SqL X.K H p ys ∧ ∀ l o, H l = none → o.dict = none → Q (.ref l) (upd H l (tupO o ys))) ∨ (SqT X.K H p ys ∧ Q (.ref p) H))) := by
  intro pins s σ H xs us Q I r h
  obtain ⟨p, ys, rfl, h⟩ := h
  obtain ⟨u, rfl, rx⟩ := vals1 r
  cases rx
  rcases h with ⟨hq, q⟩ | ⟨hq, q⟩
  · obtain ⟨its, r', pl, hz⟩ := I.list hq
    have hlen := r'.length
    refine call_tuple_list pl.isList (fun h' kp => ?_) (by simp only [List.size_toArray] <;> omega)
    have I1 : Inv X pins σ H { s with heap := h' } := I.kept (t' := s.toks) kp
    have I2 : Inv X pins σ (upd H h'.objs.size (tupO { cls := .type "tuple", data := .seq its.toArray } ys)) { s with heap := h'.push { cls := .type "tuple", data := .seq its.toArray } } :=
      I1.laid (t' := s.toks) (fun b o e => Heap.get?_push_of_some _ e) (Nat.le_refl _) (tupO_ok (Heap.get?_push_size _ rfl) (show ObjOk X.prog X.w _ _ _ (.tup ys) from ⟨hz, its, r', IsTup.new _ _⟩))
    exact ⟨.ref h'.objs.size, _, I2, rfl, q _ _ (I1.hok.fresh (Nat.le_refl _)) rfl⟩
  · obtain ⟨its, r', pl, hz⟩ := I.tuple hq
    exact call_tuple_same pl ⟨.ref p, H, I, rfl, q⟩
def rCatF (K : PySem.W.Frag) : R2 := fun x y H Q => ∃ a b xs ys, x = .ref a ∧ y = .ref b ∧ SqT K H a xs ∧ SqT K H b ys ∧ xs.length + ys.length ≤ sizeLine ∧
  (xs = [] → Q (.ref b) H) ∧ (xs ≠ [] → ys = [] → Q (.ref a) H) ∧ (xs ≠ [] → ys ≠ [] → ∀ p o, H p = none → o.dict = none → Q (.ref p) (upd H p (tupO o (xs ++ ys))))
theorem op_catF : L2.OpR X (binaryOp .Add) (rCatF X.K) := by
  intro pins s σ H x y v u Q I rx ry h
  obtain ⟨a, b, xs, ys, rfl, rfl, ha, hb, hz, q0, q1, q2⟩ := h
  by_cases hx : xs = []
  · subst hx
    cases rx
    cases ry
    obtain ⟨its, r1, p1, _⟩ := I.tuple ha
    obtain ⟨its2, r2, p2, _⟩ := I.tuple hb
    cases r1
    exact cat_tup0 p1 p2 ⟨.ref b, H, I, rfl, q0 rfl⟩
  · cases rx
    cases ry
    obtain ⟨its, r1, p1, _⟩ := I.tuple ha
    obtain ⟨its2, r2, p2, _⟩ := I.tuple hb
    refine HT.cat_tup p1 p2 (fun z => hx (r1.nil_iff.mp z)) (fun z => ⟨.ref a, H, I, rfl, q1 hx (r2.nil_iff.mp z)⟩) (fun z => ?_) (by rw [← r1.length, ← r2.length]; exact hz)
    refine ⟨.ref s.heap.objs.size, _, I.laid (t' := s.toks) (o := tupO { cls := .type "tuple", data := .seq (its ++ its2).toArray } (xs ++ ys)) (fun b ob q => Heap.get?_push_of_some _ q) (Nat.le_refl _) ?_, rfl, q2 hx (fun w => z (r2.nil_iff.mpr w)) _ _ (I.hok.fresh (Nat.le_refl _)) rfl⟩
    exact tupO_ok (Heap.get?_push_size _ rfl) ⟨by rw [List.length_append]; exact hz, _, r1.append r2, IsTup.new _ _⟩
def rSlF (K : PySem.W.Frag) : V → Option Int → Option Int → Hp → VK → Prop := fun x lo hi H Q => ∃ a xs, x = .ref a ∧ SqT K H a xs ∧
  (HT.sIx xs.length 0 lo = 0 ∧ HT.sIx xs.length xs.length hi = xs.length → Q (.ref a) H) ∧ (¬ (HT.sIx xs.length 0 lo = 0 ∧ HT.sIx xs.length xs.length hi = xs.length) → ∀ p o, H p = none → o.dict = none → Q (.ref p) (upd H p (tupO o (cutV xs lo hi))))
theorem sl_tupF : L2.SlR X (rSlF X.K) := by
  intro pins s σ H x v vl vu lo hi sl Q I rx hs pl pu h
  obtain ⟨a, xs, rfl, hx, q1, q2⟩ := h
  by_cases hw : HT.sIx xs.length 0 lo = 0 ∧ HT.sIx xs.length xs.length hi = xs.length
  · cases rx
    obtain ⟨its, r, ht, hz⟩ := I.tuple hx
    have hlen : its.toArray.size = xs.length := by rw [List.size_toArray]; exact r.length.symm
    refine ⟨"tuple", _, PyProof.Rows.slot_tuple_getitem.lookup, ht.typeIs, ?_⟩
    exact getItem_tuple_whole ht hs pl pu (by rw [hlen]; exact hw) ⟨.ref a, H, I, rfl, q1 hw⟩
  · cases rx
    obtain ⟨its, r, ht, hz⟩ := I.tuple hx
    have hlen : its.toArray.size = xs.length := by rw [List.size_toArray]; exact r.length.symm
    refine ⟨"tuple", _, PyProof.Rows.slot_tuple_getitem.lookup, ht.typeIs, ?_⟩
    refine HT.getItem_tuple_cut ht hs pl pu (by rw [hlen]; exact hw) ?_ (by rw [hlen]; exact hz)
    rw [hlen]
    refine ⟨.ref s.heap.objs.size, _, I.laid (t' := s.toks) (o := tupO { cls := .type "tuple", data := .seq (List.take (HT.sIx xs.length xs.length hi - HT.sIx xs.length 0 lo) (List.drop (HT.sIx xs.length 0 lo) its.toArray.toList)).toArray } (cutV xs lo hi)) (fun b ob q => Heap.get?_push_of_some _ q) (Nat.le_refl _) ?_, rfl, q2 hw _ _ (I.hok.fresh (Nat.le_refl _)) rfl⟩
    exact tupO_ok (Heap.get?_push_size _ rfl) ⟨Nat.le_trans (cutV_length xs lo hi) hz, _, (r.drop (HT.sIx xs.length 0 lo)).take (HT.sIx xs.length xs.length hi - HT.sIx xs.length 0 lo), IsTup.new _ _⟩
def rRepF (K : PySem.W.Frag) : R2 := fun x y H Q => ∃ l k xs, x = .ref l ∧ y = .int k ∧ SqT K H l xs ∧ xs ≠ [] ∧ 2 ≤ k ∧ k ≤ 1000 ∧ xs.length ≤ 1000 ∧ ∀ p o, H p = none → o.dict = none → Q (.ref p) (upd H p (tupO o (List.replicate k.toNat xs).flatten))
theorem op_repF : L2.OpR X (binaryOp .Mult) (rRepF X.K) := by
  intro pins s σ H x y v u Q I rx ry h
  obtain ⟨l, k, xs, rfl, rfl, hT, hne, h1, h2, hz, q⟩ := h
  cases rx
  obtain ⟨t, rfl⟩ := ry
  obtain ⟨its, r, ⟨⟨cls, dd, data, sl⟩, ho, hc, n, hd⟩, hs⟩ := I.tuple hT
  simp only at hc hd
  subst hc hd
  have hle : its.length = xs.length := r.length.symm
  have hn : its ≠ [] := fun e => hne (by
    rw [e] at hle
    exact List.eq_nil_of_length_eq_zero hle.symm)
  have hi : its.toArray.isEmpty = false := by
    cases its with
    | nil => exact absurd rfl hn
    | cons a b => rfl
  have hsz0 : its.toArray.size = xs.length := by rw [List.size_toArray, hle]
  have hm : ((its.toArray.size : Nat) : Int) * k ≤ 1000000 := by
    rw [hsz0]
    have a1 : ((xs.length : Nat) : Int) * k ≤ 1000 * k := Int.mul_le_mul_of_nonneg_right (by omega) (by omega)
    omega
  have flen : (List.replicate k.toNat its).flatten.length ≤ sizeLine := by
    rw [PyProof.Rows.lm_len_rep_flat, hle, sizeLine_eq]
    have a1 : k.toNat * xs.length ≤ 1000 * 1000 := Nat.mul_le_mul (by omega) hz
    omega
  have c0 : (decide (k < -(2 ^ 63)) || decide (k ≥ 2 ^ 63)) = false := by
    rw [decide_eq_false (by omega), decide_eq_false (by omega)] <;> rfl
  have c1 : (its.toArray.isEmpty || k == 1) = false := by
    rw [hi, Bool.false_or]
    exact beq_eq_false_iff_ne.mpr (by omega)
  have c2 : (decide (k ≤ 0) || its.toArray.isEmpty) = false := by
    rw [hi, Bool.or_false]
    exact decide_eq_false (by omega)
  have c4 : Builtin.Tuple.tupleTooMany (((its.toArray.size : Nat) : Int) * k) = false := by
    unfold Builtin.Tuple.tupleTooMany
    rw [sizeLine_eq]
    exact decide_eq_false (by omega)
  refine wpAny_binaryOp_repeat_ref (T := "tuple") (U := "int") (by decide) ⟨_, ho, rfl⟩ (fun s' => typeIs_int s' k t) noFill_tuple_mul F.fills_int_mul F.slot_int_rmul repeat_tuple F.slot_int_index.lookup
    (call_meets F.slot_int_rmul (typeIs_int s k t) F.entry_int_rmul (F.args_int_rmul_2 _ _) (int_rmul_tuple k t l its.toArray n dd sl)
      ⟨ho, rfl, ⟨_, ho, rfl⟩, call_meets F.slot_tuple_mul ⟨_, ho, rfl⟩ F.entry_tuple_mul (F.args_tuple_mul_2 _ _) (tuple_mulW l its.toArray n dd sl k t c0 c1 c2 (by omega) c4 (by rw [size_rep, List.size_toArray]; exact flen)) ⟨ho, ?_⟩⟩)
  rw [size_rep]
  refine ⟨.ref s.heap.objs.size, _, I.laid (t' := s.toks) (o := tupO { cls := .type "tuple", data := .seq (List.replicate k.toNat its).flatten.toArray } (List.replicate k.toNat xs).flatten) (fun b ob q => Heap.get?_push_of_some _ q) (Nat.le_refl _) ?_, rfl, q _ _ (I.hok.fresh (Nat.le_refl _)) rfl⟩
  exact tupO_ok (Heap.get?_push_size _ rfl) ⟨by rw [PyProof.Rows.lm_len_rep_flat, sizeLine_eq]; have a1 : k.toNat * xs.length ≤ 1000 * 1000 := Nat.mul_le_mul (by omega) hz; omega, _, r.rep k.toNat, IsTup.new _ _⟩
def tTupRgF (te : L2.St → Hp → (Int → Int → Hp → Prop) → Prop) : TE := fun σ H Q => te σ H fun a b H1 => RgOk a b ∧ ∀ q o, H1 q = none → o.dict = none → Q (.ref q) (upd H1 q (tupO o (rgV a b)))
theorem pe_tupRgF {p pos : Pos} {e : Expr} {te : L2.St → Hp → (Int → Int → Hp → Prop) → Prop} (hc : X.calm = true) (hg : Gl X "tuple") (hm : X.mg "tuple" = none) (he : PRg X e te) (na : starEach [e] X.env = (false, eval e X.env) :: starEach [] X.env := by rfl) : PE X (.Call (.Name "tuple" p) [e] [] pos) (tTupRgF te) := by
  refine ⟨fun pins s σ H Q I h => ?_⟩
  refine Call_ (ld_blt I hg hm boot_tuple (PyProof.Rows.callWith_type1 (args_cons (thn (he pins s σ H _ I h) fun x s1 ⟨r, a, b, t, u, v, H1, ex, hr, I1, ok, q⟩ => args_nil ?_) na) na))
  subst ex
  obtain ⟨b1, b2, b3, b4, b5⟩ := ok
  refine call_tuple_range (n := (b - a).toNat) (I1.ok.hd hc) hr (small_one b1 b2 b3 b4) (rangeSize_nat a b) b5 fun h' tk acc hk hi => ?_
  have I2 : Inv X pins σ H1 { s1 with heap := h', toks := tk } := I1.kept hk
  refine ⟨.ref h'.objs.size, upd H1 h'.objs.size (tupO { cls := .type "tuple", data := .seq _ } (rgV a b)), I2.laid (t' := tk) (fun c o e => Heap.get?_push_of_some _ e) (Nat.le_refl _) (tupO_ok (Heap.get?_push_size _ rfl) (show ObjOk X.prog X.w _ _ _ (.tup (rgV a b)) from ⟨?_, acc.toList, vals_rg hi, ?_⟩)), rfl, q _ _ (I2.hok.fresh (Nat.le_refl _)) rfl⟩
  · rw [rgV_length, sizeLine_eq]; omega
  · rw [Array.toArray_toList]; exact IsTup.new _ _
end
/-! ### a method of a tuple -/
/-- what is known of a tuple's own dict -/
def NoD (K : PySem.W.Frag) (H : Hp) (a : Addr) : Prop := FZ = true → (∃ o u, H a = some (.frz o u) ∧ o.dict = none) ∨ ∃ o, K.lookup a = some o ∧ o.dict = none
theorem tupO_no {K : PySem.W.Frag} {H : Hp} {a : Addr} {o : Obj} {xs : List V} (e : H a = some (tupO o xs)) (h : o.dict = none) : NoD K H a := fun z => by
  unfold tupO at e
  rw [if_pos z] at e
  exact .inl ⟨o, _, e, h⟩
theorem noD_at {X : Cx} {pins : List (Addr × Obj)} {σ : L2.St} {H : Hp} {s : Shared} {a : Addr} (I : Inv X pins σ H s) (z : FZ = true) (h : NoD X.K H a) : ∃ ob, s.heap.get? a = some ob ∧ ob.dict = none := by
  rcases h z with ⟨o, u, e, d⟩ | ⟨o, e, d⟩
  · exact ⟨o, (I.hok a _ e).1, d⟩
  · exact ⟨o, I.kIn a o e, d⟩
def tTM (K : PySem.W.Frag) (r : V → List V → Hp → VK → Prop) (to : TE) (t : TA) : TE := fun σ H Q => to σ H fun x H1 => (∃ a xs, x = .ref a ∧ SqT K H1 a xs ∧ NoD K H1 a) ∧ t σ H1 fun xs H2 => r x xs H2 Q
theorem pe_tm {X : Cx} {o e : Expr} {es : List Expr} {to : TE} {t : TA} {name : Str} {apos cpos : Pos} {id : String} {r : V → List V → Hp → VK → Prop} (z : FZ = true) (slot : Slot "tuple" name id) (hty : typeOf (.builtin id) = pure (.type "method_descriptor")) (hm : MtR X id r) (ho : PE X o to) (ha : PA X (e :: es) t)
    (hbase : attributeBase o name X.env (eval o X.env) = eval o X.env) (hfew : ((backTo cpos (starEach (e :: es) X.env)).all (fun x => !x.1) && (backToKw cpos (keywordEach [] X.env)).all (fun x => x.1.isSome) && decide ((e :: es).length + ([] : List Keyword).length + (if ([] : List Keyword).isEmpty then 0 else 1) < 30)) = true)
    (hline : (apos.endLine == cpos.line) = true) (ne : starEach (e :: es) X.env = (false, eval e X.env) :: starEach es X.env) (nes : (backTo cpos (starEach es X.env)).any (·.1) = false) : PE X (.Call (.Attribute o name apos) (e :: es) [] cpos) (tTM X.K r to t) := by
  refine ⟨fun pins s σ H Q I h => ?_⟩
  refine wpAny_Call_method_late hbase hfew hline rfl (thn (ho.run pins s σ H _ I h) fun v s1 ⟨x, H1, I1, r1, ⟨a, xs, ex, hT, nd⟩, q1⟩ => ?_)
  subst ex
  obtain rfl : v = Value.ref a := r1
  obtain ⟨its, rv, pl, _⟩ := I1.tuple hT
  refine ⟨"tuple", id, PySem.F.plainAttrs_tuple, slot, hty, (let ⟨o, ho, hc, _⟩ := pl; ⟨o, ho, hc⟩), (fun b eb => by cases eb; exact noD_at I1 z nd), ?_⟩
  have hA := ha.run cpos pins s1 σ H1 _ I1 q1
  rw [ne] at hA ⊢
  refine Calls.callWith_builtin (by show (false || (backTo cpos (starEach es X.env)).any (·.1)) = false; rw [nes] <;> rfl) (Calls.evalArgs_plain ?_)
  exact thn hA fun us s2 ⟨vs, H2, I2, r2, q2⟩ => hm pins s2 σ H2 (.ref a) vs (.ref a) us Q I2 rfl r2 q2
end D8

namespace D8
open PySem PySem.Spec PyProof.Rows L2

theorem bsi {α β : Type} {f : α → Option β} {x : Option α} {b : β} : x.bind f = some b ↔ ∃ a, x = some a ∧ f a = some b := by cases x <;> simp
theorem msi {α β : Type} {f : α → β} {x : Option α} {b : β} : x.map f = some b ↔ ∃ a, x = some a ∧ f a = b := by cases x <;> simp
/-- values: im, data that nobody changes; ml, md, a list and a dict that one place owns -/
inductive M where
  | im (d : PyData)
  | ml (xs : List M)
  | md (kvs : List (Key × M))

def kD : Key → PyData
  | .inl i => .int i
  | .inr x => .str x
mutual
def M.fz : M → PyData
  | .im d => d
  | .ml xs => .list (fzs xs)
  | .md kvs => .dict (fzk kvs)
def fzs : List M → List PyData
  | [] => []
  | x :: xs => x.fz :: fzs xs
def fzk : List (Key × M) → List (PyData × PyData)
  | [] => []
  | (k, x) :: xs => (kD k, x.fz) :: fzk xs
end
theorem fzs_map : ∀ xs : List M, fzs xs = xs.map M.fz
  | [] => rfl
  | x :: xs => by rw [fzs, fzs_map xs]; rfl
theorem fzs_im : ∀ ds : List PyData, fzs (ds.map .im) = ds
  | [] => rfl
  | d :: ds => by rw [List.map_cons, fzs, fzs_im ds]; rfl
/-- all are data: which -/
def ims : List M → Option (List PyData)
  | [] => some []
  | .im d :: xs => (ims xs).map (d :: ·)
  | _ :: _ => none
theorem ims_map : ∀ ds : List PyData, ims (ds.map .im) = some ds
  | [] => rfl
  | d :: ds => by rw [List.map_cons, ims, ims_map ds]; rfl
theorem ims_eq : ∀ {xs : List M} {ds : List PyData}, ims xs = some ds → xs = ds.map .im
  | [], ds, h => by cases h; rfl
  | .im d :: xs, ds, h => by
    rw [ims, msi] at h
    obtain ⟨r, h1, rfl⟩ := h
    rw [ims_eq h1]; rfl
  | .ml _ :: _, _, h => by cases h
  | .md _ :: _, _, h => by cases h

section
variable (K : PySem.W.Frag)
/-- a list: tracked, or the module's own -/
def LsA (H : Hp) (a : Addr) (xs : List V) : Prop := Rd H a (.lst xs) ∨ ∃ (its : Array Value) (n : Nat), K.lookup a = some { cls := .type "list", data := .seq its n } ∧ its.size ≤ sizeLine ∧ Vals xs its.toList
/-- a list that may be read as frozen -/
def LsS (S : Addr → Prop) (H : Hp) (a : Addr) (xs : List V) : Prop :=
  (Rd H a (.lst xs) ∧ S a) ∨ ∃ (its : Array Value) (n : Nat), K.lookup a = some { cls := .type "list", data := .seq its n } ∧ its.size ≤ sizeLine ∧ Vals xs its.toList
variable {K}
theorem LsS.a {S : Addr → Prop} {H : Hp} {a : Addr} {xs : List V} (h : LsS K S H a xs) : LsA K H a xs := h.imp (·.1) id
theorem LsA.seq {H : Hp} {a : Addr} {xs : List V} (h : LsA K H a xs) : SqL K H a xs := h.imp id fun ⟨its, n, h1, h2, h3⟩ => ⟨_, its, n, h1, rfl, rfl, rfl, h2, h3⟩
theorem LsS.seq {S : Addr → Prop} {H : Hp} {a : Addr} {xs : List V} (h : LsS K S H a xs) : SqL K H a xs := h.a.seq
variable (K)
mutual
/-- v is the data d, in the heap H; lists and dicts within stand where S lets them -/
inductive RV (S : Addr → Prop) (H : Hp) : V → PyData → Prop
  | non : RV S H .non .none
  | bl (b : Bool) : RV S H (.bl b) (.bool b)
  | int (i : Int) : RV S H (.int i) (.int i)
  | str (x : Str) : RV S H (.str x) (.str x)
  | tup {a : Addr} {xs : List V} {ds : List PyData} : SqT K H a xs → NoD K H a → RVs S H xs ds → RV S H (.ref a) (.tuple ds)
  | lst {a : Addr} {xs : List V} {ds : List PyData} : LsS K S H a xs → RVs S H xs ds → RV S H (.ref a) (.list ds)
  | dct {a : Addr} {vs : List (Key × V)} {ds : List (PyData × PyData)} : Rd H a (.dK vs) → S a → RVk S H vs ds → RV S H (.ref a) (.dict ds)
inductive RVs (S : Addr → Prop) (H : Hp) : List V → List PyData → Prop
  | nil : RVs S H [] []
  | cons {v : V} {vs : List V} {d : PyData} {ds : List PyData} : RV S H v d → RVs S H vs ds → RVs S H (v :: vs) (d :: ds)
inductive RVk (S : Addr → Prop) (H : Hp) : List (Key × V) → List (PyData × PyData) → Prop
  | nil : RVk S H [] []
  | cons {k : Key} {v : V} {vs : List (Key × V)} {d : PyData} {ds : List (PyData × PyData)} : RV S H v d → RVk S H vs ds → RVk S H ((k, v) :: vs) ((kD k, d) :: ds)
end
mutual
/-- v is m; os: the addresses that m owns -/
inductive RM (S : Addr → Prop) (H : Hp) : V → M → List Addr → Prop
  | im {v : V} {d : PyData} : RV K S H v d → RM S H v (.im d) []
  | ml {a : Addr} {vs : List V} {ms : List M} {os : List Addr} : H a = some (.lst vs) → RMs S H vs ms os → RM S H (.ref a) (.ml ms) (a :: os)
  | md {a : Addr} {vs : List (Key × V)} {ms : List (Key × M)} {os : List Addr} : H a = some (.dK vs) → RMk S H vs ms os → RM S H (.ref a) (.md ms) (a :: os)
inductive RMs (S : Addr → Prop) (H : Hp) : List V → List M → List Addr → Prop
  | nil : RMs S H [] [] []
  | cons {v : V} {vs : List V} {m : M} {ms : List M} {os os' : List Addr} : RM S H v m os → RMs S H vs ms os' → RMs S H (v :: vs) (m :: ms) (os ++ os')
inductive RMk (S : Addr → Prop) (H : Hp) : List (Key × V) → List (Key × M) → List Addr → Prop
  | nil : RMk S H [] [] []
  | cons {k : Key} {v : V} {vs : List (Key × V)} {m : M} {ms : List (Key × M)} {os os' : List Addr} : RM S H v m os → RMk S H vs ms os' → RMk S H ((k, v) :: vs) ((k, m) :: ms) (os ++ os')
end
end

/-- objects that may be written -/
def Mu : HO → Prop
  | .lst _ => True
  | .dK _ => True
  | _ => False

section
variable {K : PySem.W.Frag} {S S' : Addr → Prop} {H H' : Hp}
/-- what keeps data as they are -/
structure Kp (S S' : Addr → Prop) (H H' : Hp) : Prop where
  keep : ∀ a o, H a = some o → S a → H' a = some o
  tups : ∀ a o, H a = some o → ¬ Mu o → H' a = some o
  ok : ∀ a o, H a = some o → S a → S' a
theorem Kp.refl : Kp S S H H := ⟨fun _ _ h _ => h, fun _ _ h _ => h, fun _ _ _ h => h⟩
theorem Kp.same (h : Same H H') (hs : ∀ a, S a → S' a) : Kp S S' H H' := ⟨fun a o e _ => h a o e, fun a o e _ => h a o e, fun a _ _ s => hs a s⟩
theorem Kp.trans {S'' : Addr → Prop} {H'' : Hp} (h : Kp S S' H H') (h' : Kp S' S'' H' H'') : Kp S S'' H H'' :=
  ⟨fun a o e s => h'.keep a o (h.keep a o e s) (h.ok a o e s), fun a o e s => h'.tups a o (h.tups a o e s) s, fun a o e s => h'.ok a o (h.keep a o e s) (h.ok a o e s)⟩
theorem Kp.sqT (k : Kp S S' H H') {a : Addr} {xs : List V} (h : SqT K H a xs) : SqT K H' a xs := by
  rcases h with (h | ⟨o, h⟩) | h
  · exact .inl (.inl (k.tups _ _ h (fun z => z)))
  · exact .inl (.inr ⟨o, k.tups _ _ h (fun z => z)⟩)
  · exact .inr h
theorem Kp.noD (k : Kp S S' H H') {a : Addr} (h : NoD K H a) : NoD K H' a := fun z => by
  rcases h z with ⟨o, u, e, d⟩ | h
  · exact .inl ⟨o, u, k.tups _ _ e (fun z => z), d⟩
  · exact .inr h
theorem Kp.rd (k : Kp S S' H H') {a : Addr} {o : HO} (h : Rd H a o) (s : S a) : Rd H' a o ∧ S' a := by
  rcases h with h | ⟨u, h⟩
  · exact ⟨.inl (k.keep _ _ h s), k.ok _ _ h s⟩
  · exact ⟨.inr ⟨u, k.keep _ _ h s⟩, k.ok _ _ h s⟩
theorem Kp.lsS (k : Kp S S' H H') {a : Addr} {xs : List V} (h : LsS K S H a xs) : LsS K S' H' a xs := by
  rcases h with ⟨h, s⟩ | h
  · exact .inl (k.rd h s)
  · exact .inr h
mutual
theorem RV.kp (k : Kp S S' H H') : ∀ {v : V} {d : PyData}, RV K S H v d → RV K S' H' v d
  | _, _, .non => .non
  | _, _, .bl b => .bl b
  | _, _, .int i => .int i
  | _, _, .str x => .str x
  | _, _, .tup h n r => .tup (k.sqT h) (k.noD n) (RVs.kp k r)
  | _, _, .lst h r => .lst (k.lsS h) (RVs.kp k r)
  | _, _, .dct h s r => .dct (k.rd h s).1 (k.rd h s).2 (RVk.kp k r)
theorem RVs.kp (k : Kp S S' H H') : ∀ {vs : List V} {ds : List PyData}, RVs K S H vs ds → RVs K S' H' vs ds
  | _, _, .nil => .nil
  | _, _, .cons h r => .cons (RV.kp k h) (RVs.kp k r)
theorem RVk.kp (k : Kp S S' H H') : ∀ {vs : List (Key × V)} {ds : List (PyData × PyData)}, RVk K S H vs ds → RVk K S' H' vs ds
  | _, _, .nil => .nil
  | _, _, .cons h r => .cons (RV.kp k h) (RVk.kp k r)
end
mutual
theorem RM.kp (k : Kp S S' H H') : ∀ {v : V} {m : M} {os : List Addr}, (∀ a ∈ os, H' a = H a) → RM K S H v m os → RM K S' H' v m os
  | _, _, _, _, .im h => .im (h.kp k)
  | _, _, _, e, .ml h r => .ml ((e _ List.mem_cons_self).trans h) (RMs.kp k (fun a ha => e a (List.mem_cons_of_mem _ ha)) r)
  | _, _, _, e, .md h r => .md ((e _ List.mem_cons_self).trans h) (RMk.kp k (fun a ha => e a (List.mem_cons_of_mem _ ha)) r)
theorem RMs.kp (k : Kp S S' H H') : ∀ {v : List V} {m : List M} {os : List Addr}, (∀ a ∈ os, H' a = H a) → RMs K S H v m os → RMs K S' H' v m os
  | _, _, _, _, .nil => .nil
  | _, _, _, e, .cons h r => .cons (RM.kp k (fun a ha => e a (List.mem_append_left _ ha)) h) (RMs.kp k (fun a ha => e a (List.mem_append_right _ ha)) r)
theorem RMk.kp (k : Kp S S' H H') : ∀ {v : List (Key × V)} {m : List (Key × M)} {os : List Addr}, (∀ a ∈ os, H' a = H a) → RMk K S H v m os → RMk K S' H' v m os
  | _, _, _, _, .nil => .nil
  | _, _, _, e, .cons h r => .cons (RM.kp k (fun a ha => e a (List.mem_append_left _ ha)) h) (RMk.kp k (fun a ha => e a (List.mem_append_right _ ha)) r)
end
mutual
theorem RM.mu : ∀ {v : V} {m : M} {os : List Addr}, RM K S H v m os → ∀ a ∈ os, ∃ o, H a = some o ∧ Mu o
  | _, _, _, .im _, a, h => nomatch h
  | _, _, _, .ml h r, a, ha => (List.mem_cons.mp ha).elim (fun e => ⟨.lst _, e ▸ h, True.intro⟩) fun ha => RMs.mu r a ha
  | _, _, _, .md h r, a, ha => (List.mem_cons.mp ha).elim (fun e => ⟨.dK _, e ▸ h, True.intro⟩) fun ha => RMk.mu r a ha
theorem RMs.mu : ∀ {v : List V} {m : List M} {os : List Addr}, RMs K S H v m os → ∀ a ∈ os, ∃ o, H a = some o ∧ Mu o
  | _, _, _, .nil, a, h => nomatch h
  | _, _, _, .cons h r, a, ha => (List.mem_append.mp ha).elim (fun ha => RM.mu h a ha) fun ha => RMs.mu r a ha
theorem RMk.mu : ∀ {v : List (Key × V)} {m : List (Key × M)} {os : List Addr}, RMk K S H v m os → ∀ a ∈ os, ∃ o, H a = some o ∧ Mu o
  | _, _, _, .nil, a, h => nomatch h
  | _, _, _, .cons h r, a, ha => (List.mem_append.mp ha).elim (fun ha => RM.mu h a ha) fun ha => RMk.mu r a ha
end
mutual
/-- what is owned, frozen -/
theorem RM.fz (hs : ∀ a o, H a = some o → S a → S' a) : ∀ {v : V} {m : M} {os : List Addr}, (∀ a ∈ os, S' a) → RM K S H v m os → RV K S' H v m.fz
  | _, _, _, _, .im h => h.kp ⟨fun _ _ e _ => e, fun _ _ e _ => e, hs⟩
  | _, _, _, e, .ml h r => .lst (.inl ⟨.inl h, e _ List.mem_cons_self⟩) (RMs.fz hs (fun a ha => e a (List.mem_cons_of_mem _ ha)) r)
  | _, _, _, e, .md h r => .dct (.inl h) (e _ List.mem_cons_self) (RMk.fz hs (fun a ha => e a (List.mem_cons_of_mem _ ha)) r)
theorem RMs.fz (hs : ∀ a o, H a = some o → S a → S' a) : ∀ {v : List V} {m : List M} {os : List Addr}, (∀ a ∈ os, S' a) → RMs K S H v m os → RVs K S' H v (fzs m)
  | _, _, _, _, .nil => .nil
  | _, _, _, e, .cons h r => .cons (RM.fz hs (fun a ha => e a (List.mem_append_left _ ha)) h) (RMs.fz hs (fun a ha => e a (List.mem_append_right _ ha)) r)
theorem RMk.fz (hs : ∀ a o, H a = some o → S a → S' a) : ∀ {v : List (Key × V)} {m : List (Key × M)} {os : List Addr}, (∀ a ∈ os, S' a) → RMk K S H v m os → RVk K S' H v (fzk m)
  | _, _, _, _, .nil => .nil
  | _, _, _, e, .cons h r => .cons (RM.fz hs (fun a ha => e a (List.mem_append_left _ ha)) h) (RMk.fz hs (fun a ha => e a (List.mem_append_right _ ha)) r)
end
/-- everywhere -/
def Any : Addr → Prop := fun _ => True
theorem RM.any {v : V} {m : M} {os : List Addr} (h : RM K S H v m os) : RV K Any H v m.fz := h.fz (fun _ _ _ _ => trivial) fun _ _ => trivial
theorem RMs.ims : ∀ {vs : List V} {ms : List M} {os : List Addr} {ds : List PyData}, RMs K S H vs ms os → ims ms = some ds → RVs K S H vs ds ∧ os = []
  | _, _, _, ds, .nil, e => by cases e; exact ⟨.nil, rfl⟩
  | _, _, _, ds, .cons (.im h) r, e => by
    rw [D8.ims, msi] at e
    obtain ⟨q, e, rfl⟩ := e
    obtain ⟨h1, h2⟩ := RMs.ims r e
    exact ⟨.cons h h1, by rw [h2]; rfl⟩
  | _, _, _, ds, .cons (.ml h _) r, e => nomatch e
  | _, _, _, ds, .cons (.md h _) r, e => nomatch e
theorem RMs.of_ims : ∀ {vs : List V} {ds : List PyData}, RVs K S H vs ds → RMs K S H vs (ds.map .im) []
  | _, _, .nil => .nil
  | _, _, .cons h r => .cons (.im h) (RMs.of_ims r)
theorem RVs.length : ∀ {vs : List V} {ds : List PyData}, RVs K S H vs ds → vs.length = ds.length
  | _, _, .nil => rfl
  | _, _, .cons _ r => congrArg (· + 1) (RVs.length r)
theorem RMs.length : ∀ {vs : List V} {ms : List M} {os : List Addr}, RMs K S H vs ms os → vs.length = ms.length
  | _, _, _, .nil => rfl
  | _, _, _, .cons _ r => congrArg (· + 1) (RMs.length r)
theorem RVs.get : ∀ {vs : List V} {ds : List PyData} {i : Nat} {d : PyData}, RVs K S H vs ds → ds[i]? = some d → ∃ v, vs[i]? = some v ∧ RV K S H v d
  | _, _, _, _, .nil, e => by simp at e
  | _, _, 0, d, .cons h r, e => by simp at e; subst e; exact ⟨_, rfl, h⟩
  | _, _, i + 1, d, .cons h r, e => by
    obtain ⟨v, h1, h2⟩ := RVs.get (i := i) r (by simpa using e)
    exact ⟨v, by simpa using h1, h2⟩
theorem RVs.getV : ∀ {vs : List V} {ds : List PyData} {i : Nat} {v : V}, RVs K S H vs ds → vs[i]? = some v → ∃ d, ds[i]? = some d ∧ RV K S H v d
  | _, _, _, _, .nil, e => by simp at e
  | _, _, 0, d, .cons h r, e => by simp at e; subst e; exact ⟨_, rfl, h⟩
  | _, _, i + 1, d, .cons h r, e => by
    obtain ⟨v, h1, h2⟩ := RVs.getV (i := i) r (by simpa using e)
    exact ⟨v, by simpa using h1, h2⟩
theorem RVs.append : ∀ {vs ws : List V} {ds es : List PyData}, RVs K S H vs ds → RVs K S H ws es → RVs K S H (vs ++ ws) (ds ++ es)
  | _, _, _, _, .nil, r => r
  | _, _, _, _, .cons h r, r' => .cons h (RVs.append r r')
theorem RVs.take : ∀ {vs : List V} {ds : List PyData} (n : Nat), RVs K S H vs ds → RVs K S H (vs.take n) (ds.take n)
  | _, _, 0, _ => by simp; exact .nil
  | _, _, n + 1, .nil => .nil
  | _, _, n + 1, .cons h r => .cons h (RVs.take n r)
theorem RVs.drop : ∀ {vs : List V} {ds : List PyData} (n : Nat), RVs K S H vs ds → RVs K S H (vs.drop n) (ds.drop n)
  | _, _, 0, r => r
  | _, _, n + 1, .nil => .nil
  | _, _, n + 1, .cons h r => RVs.drop n r
theorem RVs.reverse : ∀ {vs : List V} {ds : List PyData}, RVs K S H vs ds → RVs K S H vs.reverse ds.reverse
  | _, _, .nil => .nil
  | _, _, .cons h r => by rw [List.reverse_cons, List.reverse_cons]; exact (RVs.reverse r).append (.cons h .nil)
theorem RMs.append : ∀ {vs ws : List V} {ms ns : List M} {os os' : List Addr}, RMs K S H vs ms os → RMs K S H ws ns os' → RMs K S H (vs ++ ws) (ms ++ ns) (os ++ os')
  | _, _, _, _, _, _, .nil, r => r
  | _, _, _, _, _, _, .cons h r, r' => by rw [List.append_assoc]; exact .cons h (RMs.append r r')
theorem RMs.split : ∀ {vs : List V} {ms ns : List M} {os : List Addr}, RMs K S H vs (ms ++ ns) os → ∃ v1 v2 o1 o2, vs = v1 ++ v2 ∧ os = o1 ++ o2 ∧ RMs K S H v1 ms o1 ∧ RMs K S H v2 ns o2
  | vs, [], ns, os, h => ⟨[], vs, [], os, rfl, rfl, .nil, h⟩
  | _, m :: ms, ns, _, .cons h r => by
    obtain ⟨v1, v2, o1, o2, rfl, rfl, r1, r2⟩ := RMs.split r
    exact ⟨_ :: v1, v2, _ ++ o1, o2, rfl, (List.append_assoc _ _ _).symm, .cons h r1, r2⟩
mutual
def clean : PyData → Bool
  | .tuple xs => cleans xs
  | .list _ => false
  | .dict _ => false
  | _ => true
def cleans : List PyData → Bool
  | [] => true
  | x :: xs => clean x && cleans xs
end
mutual
theorem RV.clean (k : ∀ a o, H a = some o → ¬ Mu o → H' a = some o) : ∀ {v : V} {d : PyData}, D8.clean d = true → RV K S H v d → RV K S' H' v d
  | _, _, _, .non => .non
  | _, _, _, .bl b => .bl b
  | _, _, _, .int i => .int i
  | _, _, _, .str x => .str x
  | _, _, c, .tup h n r => .tup (Kp.sqT (S := fun _ => False) (S' := fun _ => False) ⟨fun _ _ _ z => z.elim, k, fun _ _ _ z => z⟩ h) (Kp.noD (S := fun _ => False) (S' := fun _ => False) ⟨fun _ _ _ z => z.elim, k, fun _ _ _ z => z⟩ n) (RVs.clean k (by simpa [D8.clean] using c) r)
  | _, _, c, .lst h r => nomatch c
  | _, _, c, .dct h s r => nomatch c
theorem RVs.clean (k : ∀ a o, H a = some o → ¬ Mu o → H' a = some o) : ∀ {v : List V} {d : List PyData}, D8.cleans d = true → RVs K S H v d → RVs K S' H' v d
  | _, _, _, .nil => .nil
  | _, _, c, .cons h r => by
    simp only [D8.cleans, Bool.and_eq_true] at c
    exact .cons (RV.clean k c.1 h) (RVs.clean k c.2 r)
end
end
end D8

namespace D8
open PySem PySem.Spec PyProof.Rows L2

section
variable {K : PySem.W.Frag} {S S' : Addr → Prop} {H H' : Hp}
/-- a slot -/
inductive RO (K : PySem.W.Frag) (S : Addr → Prop) (H : Hp) : Option V → Option M → List Addr → Prop
  | no {x : Option V} : RO K S H x none []
  | so {v : V} {m : M} {o : List Addr} : RM K S H v m o → RO K S H (some v) (some m) o
/-- the slots -/
inductive RE (K : PySem.W.Frag) (S : Addr → Prop) (H : Hp) : L2.St → List (Option M) → List Addr → Prop
  | nil : RE K S H [] [] []
  | cons {x : Option V} {y : Option M} {vs : L2.St} {ms : List (Option M)} {o os : List Addr} : RO K S H x y o → RE K S H vs ms os → RE K S H (x :: vs) (y :: ms) (o ++ os)
theorem RO.kp (k : Kp S S' H H') : ∀ {x : Option V} {y : Option M} {o : List Addr}, (∀ a ∈ o, H' a = H a) → RO K S H x y o → RO K S' H' x y o
  | _, _, _, _, .no => .no
  | _, _, _, e, .so h => .so (h.kp k e)
theorem RE.kp (k : Kp S S' H H') : ∀ {x : L2.St} {y : List (Option M)} {o : List Addr}, (∀ a ∈ o, H' a = H a) → RE K S H x y o → RE K S' H' x y o
  | _, _, _, _, .nil => .nil
  | _, _, _, e, .cons h r => .cons (h.kp k fun a ha => e a (List.mem_append_left _ ha)) (RE.kp k (fun a ha => e a (List.mem_append_right _ ha)) r)
theorem RO.mu : ∀ {x : Option V} {y : Option M} {o : List Addr}, RO K S H x y o → ∀ a ∈ o, ∃ u, H a = some u ∧ Mu u
  | _, _, _, .no, a, ha => nomatch ha
  | _, _, _, .so h, a, ha => h.mu a ha
theorem RE.mu : ∀ {x : L2.St} {y : List (Option M)} {o : List Addr}, RE K S H x y o → ∀ a ∈ o, ∃ u, H a = some u ∧ Mu u
  | _, _, _, .nil, a, ha => nomatch ha
  | _, _, _, .cons h r, a, ha => (List.mem_append.mp ha).elim (h.mu a) fun ha => RE.mu r a ha
theorem RE.length : ∀ {x : L2.St} {y : List (Option M)} {o : List Addr}, RE K S H x y o → x.length = y.length
  | _, _, _, .nil => rfl
  | _, _, _, .cons h r => congrArg (· + 1) (RE.length r)
/-- at the slot i -/
theorem RE.at : ∀ {x : L2.St} {y : List (Option M)} {O : List Addr} {i : Nat} {c : Option M}, RE K S H x y O → y[i]? = some c → ∃ u o1 o o2, O = o1 ++ (o ++ o2) ∧ x[i]? = some u ∧ RO K S H u c o ∧
    ∀ (S' : Addr → Prop) (H' : Hp) (u' : Option V) (c' : Option M) (o' : List Addr), Kp S S' H H' → (∀ a ∈ o1 ++ o2, H' a = H a) → RO K S' H' u' c' o' → RE K S' H' (x.set i u') (y.set i c') (o1 ++ (o' ++ o2))
  | _, _, _, _, _, .nil, e => by simp at e
  | x :: xs, y :: ys, _, 0, c, .cons (o := o) (os := os) h r, e => by
    simp at e; subst e
    exact ⟨x, [], o, os, rfl, rfl, h, fun S' H' u' c' o' k hk h' => show RE K S' H' (u' :: xs) (c' :: ys) (o' ++ os) from .cons h' (r.kp k fun a ha => hk a (by simpa using ha))⟩
  | x :: xs, y :: ys, _, i + 1, c, .cons (o := o) (os := os) h r, e => by
    obtain ⟨u, o1, ob, o2, e1, e2, h1, h2⟩ := RE.at (i := i) r (by simpa using e)
    subst e1
    refine ⟨u, o ++ o1, ob, o2, (List.append_assoc _ _ _).symm, by simpa using e2, h1, fun S' H' u' c' o' k hk h' => ?_⟩
    have := h2 S' H' u' c' o' k (fun a ha => hk a (by rcases List.mem_append.mp ha with z | z <;> simp [z])) h'
    rw [List.append_assoc]
    exact .cons (h.kp k fun a ha => hk a (by simp [ha])) this
theorem RMs.mid : ∀ {vs : List V} {ms : List M} {O : List Addr} {v : V} {m : M} {ws : List V} {ns : List M}, vs.length = ms.length → RMs K S H (vs ++ v :: ws) (ms ++ m :: ns) O → ∃ O', O'.Perm O ∧ RMs K S H (v :: (vs ++ ws)) (m :: (ms ++ ns)) O'
  | [], [], O, v, m, ws, ns, _, h => ⟨O, .refl _, h⟩
  | x :: vs, y :: ms, _, v, m, ws, ns, hl, .cons (os := o) (os' := os) h r => by
    obtain ⟨O', p, r'⟩ := RMs.mid (by simpa using hl) r
    cases r' with
    | @cons _ _ _ _ a b h' r'' =>
      refine ⟨a ++ (o ++ b), ?_, .cons h' (.cons h r'')⟩
      refine .trans ?_ (List.Perm.append_left o p)
      rw [← List.append_assoc, ← List.append_assoc]
      exact List.Perm.append_right _ List.perm_append_comm
end

/-- where frozen things may stand -/
def Sx (O Xs : List Addr) : Addr → Prop := fun a => a ∉ O ∧ a ∉ Xs
/-- the state: slots and temporaries, the frame F, the addresses Xs that others own -/
structure Gd (K : PySem.W.Frag) (F : Hp) (Xs : List Addr) (H : Hp) (σ : L2.St) (env : List (Option M)) (T : List V) (Tm : List M) (O1 O2 : List Addr) : Prop where
  nd : (O1 ++ O2).Nodup
  re : RE K (Sx (O1 ++ O2) Xs) H σ env O1
  rt : RMs K (Sx (O1 ++ O2) Xs) H T Tm O2
  frame : ∀ a o, F a = some o → H a = some o
  dis : ∀ a ∈ O1 ++ O2, F a = none
  xs : ∀ a ∈ Xs, ∃ o, F a = some o
def Good (K : PySem.W.Frag) (F : Hp) (Xs : List Addr) (H : Hp) (σ : L2.St) (env : List (Option M)) (T : List V) (Tm : List M) : Prop := ∃ O1 O2, Gd K F Xs H σ env T Tm O1 O2

section
variable {K : PySem.W.Frag} {F : Hp} {Xs : List Addr} {H H' : Hp} {σ : L2.St} {env : List (Option M)} {T : List V} {Tm : List M} {O1 O2 : List Addr}
theorem Gd.mu (g : Gd K F Xs H σ env T Tm O1 O2) : ∀ a ∈ O1 ++ O2, ∃ u, H a = some u ∧ Mu u := fun a ha => (List.mem_append.mp ha).elim (g.re.mu a) (g.rt.mu a)
theorem Gd.notX (g : Gd K F Xs H σ env T Tm O1 O2) : ∀ a ∈ O1 ++ O2, a ∉ Xs := fun a ha hx => by
  obtain ⟨o, e⟩ := g.xs a hx
  rw [g.dis a ha] at e; cases e
theorem Gd.xsH (g : Gd K F Xs H σ env T Tm O1 O2) : ∀ a ∈ Xs, ∃ o, H a = some o := fun a ha => let ⟨o, e⟩ := g.xs a ha; ⟨o, g.frame a o e⟩
theorem Gd.freshS (g : Gd K F Xs H σ env T Tm O1 O2) {p : Addr} (h : H p = none) : Sx (O1 ++ O2) Xs p :=
  ⟨fun z => (by obtain ⟨o, e, _⟩ := g.mu p z; rw [h] at e; cases e), fun z => (by obtain ⟨o, e⟩ := g.xsH p z; rw [h] at e; cases e)⟩
theorem Gd.good (g : Gd K F Xs H σ env T Tm O1 O2) : Good K F Xs H σ env T Tm := ⟨_, _, g⟩
/-- the heap has grown -/
theorem Gd.same (g : Gd K F Xs H σ env T Tm O1 O2) (h : Same H H') : Gd K F Xs H' σ env T Tm O1 O2 :=
  ⟨g.nd, g.re.kp (.same h fun _ z => z) fun a ha => by obtain ⟨o, e, _⟩ := g.re.mu a ha; rw [e]; exact h a o e, g.rt.kp (.same h fun _ z => z) fun a ha => by obtain ⟨o, e, _⟩ := g.rt.mu a ha; rw [e]; exact h a o e,
    fun a o e => h a o (g.frame a o e), g.dis, g.xs⟩
/-- a frozen temporary -/
theorem Gd.push (g : Gd K F Xs H σ env T Tm O1 O2) {v : V} {d : PyData} (h : RV K (Sx (O1 ++ O2) Xs) H v d) : Gd K F Xs H σ env (v :: T) (.im d :: Tm) O1 O2 :=
  ⟨g.nd, g.re, .cons (os := []) (.im h) g.rt, g.frame, g.dis, g.xs⟩
/-- a new owned temporary -/
theorem Gd.pushO (g : Gd K F Xs H σ env T Tm O1 O2) (h : Same H H') {v : V} {m : M} {os : List Addr} (r : ∀ S : Addr → Prop, (∀ a, H a = none → a ∉ os → S a) → (∀ a, Sx (O1 ++ O2) Xs a → a ∉ os → S a) → RM K S H' v m os) (hn : os.Nodup) (hf : ∀ a ∈ os, H a = none) : Gd K F Xs H' σ env (v :: T) (m :: Tm) O1 (os ++ O2) := by
  have hO : ∀ a ∈ O1 ++ O2, a ∉ os := fun a ha hx => by obtain ⟨u, e, _⟩ := g.mu a ha; rw [hf a hx] at e; cases e
  have hS : ∀ a, Sx (O1 ++ O2) Xs a → a ∉ os → Sx (O1 ++ (os ++ O2)) Xs a := fun a s n => ⟨fun z => by
    simp only [List.mem_append] at z
    rcases z with z | z | z
    · exact s.1 (List.mem_append_left _ z)
    · exact n z
    · exact s.1 (List.mem_append_right _ z), s.2⟩
  have hk : Kp (Sx (O1 ++ O2) Xs) (Sx (O1 ++ (os ++ O2)) Xs) H H' := ⟨fun a o e _ => h a o e, fun a o e _ => h a o e, fun a o e s => hS a s fun z => by rw [hf a z] at e; cases e⟩
  refine ⟨?_, g.re.kp hk fun a ha => ?_, .cons (r _ (fun a hn2 hno => hS a (g.freshS hn2) hno) fun a s n => hS a s n) (g.rt.kp hk fun a ha => ?_), fun a o e => h a o (g.frame a o e), fun a ha => ?_, g.xs⟩
  · have q : (O1 ++ (os ++ O2)).Perm (os ++ (O1 ++ O2)) := by
      rw [← List.append_assoc, ← List.append_assoc]; exact List.Perm.append_right _ List.perm_append_comm
    exact q.nodup_iff.mpr (List.nodup_append.mpr ⟨hn, g.nd, fun a ha b hb e => hO b hb (e ▸ ha)⟩)
  · obtain ⟨o, e, _⟩ := g.re.mu a ha; rw [e]; exact h a o e
  · obtain ⟨o, e, _⟩ := g.rt.mu a ha; rw [e]; exact h a o e
  · simp only [List.mem_append] at ha
    rcases ha with z | z | z
    · exact g.dis a (List.mem_append_left _ z)
    · cases q : F a with
      | none => rfl
      | some o => have := g.frame a o q; rw [hf a z] at this; cases this
    · exact g.dis a (List.mem_append_right _ z)
/-- less is owned: what is dropped becomes free to be frozen -/
theorem Sx.mono {O O' Xs : List Addr} (h : ∀ a ∈ O', a ∈ O) : ∀ a, Sx O Xs a → Sx O' Xs a := fun a s => ⟨fun z => s.1 (h a z), s.2⟩
theorem Gd.popN {U : List V} {Um : List M} (hl : U.length = Um.length) (g : Gd K F Xs H σ env (U ++ T) (Um ++ Tm) O1 O2) : Good K F Xs H σ env T Tm := by
  obtain ⟨v1, v2, o1, o2, e1, rfl, r1, r2⟩ := g.rt.split
  obtain ⟨rfl, rfl⟩ := List.append_inj e1 (hl.trans r1.length.symm)
  have hs : ∀ a ∈ O1 ++ o2, a ∈ O1 ++ (o1 ++ o2) := fun a ha => by simp only [List.mem_append] at ha ⊢; rcases ha with z | z <;> simp [z]
  have hk : Kp (Sx (O1 ++ (o1 ++ o2)) Xs) (Sx (O1 ++ o2) Xs) H H := .same (.refl _) (Sx.mono hs)
  refine ⟨O1, o2, ?_, g.re.kp hk fun _ _ => rfl, r2.kp hk fun _ _ => rfl, g.frame, fun a ha => g.dis a (hs a ha), g.xs⟩
  have := g.nd
  simp only [List.nodup_append, List.mem_append] at this ⊢
  exact ⟨this.1, this.2.1.2.1, fun a ha b hb => this.2.2 a ha b (.inr hb)⟩
theorem Good.popN {U : List V} {Um : List M} (hl : U.length = Um.length) (g : Good K F Xs H σ env (U ++ T) (Um ++ Tm)) : Good K F Xs H σ env T Tm := let ⟨_, _, g⟩ := g; g.popN hl
theorem Good.pop {v : V} {m : M} (g : Good K F Xs H σ env (v :: T) (m :: Tm)) : Good K F Xs H σ env T Tm := g.popN (U := [v]) (Um := [m]) rfl
theorem Gd.permT {T' : List V} {Tm' : List M} {O2' : List Addr} (g : Gd K F Xs H σ env T Tm O1 O2) (p : O2'.Perm O2) (r : RMs K (Sx (O1 ++ O2) Xs) H T' Tm' O2') : Gd K F Xs H σ env T' Tm' O1 O2' := by
  have hs : ∀ a, Sx (O1 ++ O2) Xs a → Sx (O1 ++ O2') Xs a := Sx.mono fun a ha => by simp only [List.mem_append] at ha ⊢; exact ha.imp id p.mem_iff.mp
  have hk : Kp (Sx (O1 ++ O2) Xs) (Sx (O1 ++ O2') Xs) H H := .same (.refl _) hs
  refine ⟨(List.Perm.append_left O1 p).nodup_iff.mpr g.nd, g.re.kp hk fun _ _ => rfl, r.kp hk fun _ _ => rfl, g.frame, fun a ha => g.dis a ?_, g.xs⟩
  simp only [List.mem_append] at ha ⊢; exact ha.imp id p.mem_iff.mp
theorem Gd.mid {U : List V} {Um : List M} {v : V} {m : M} (hl : U.length = Um.length) (g : Gd K F Xs H σ env (U ++ v :: T) (Um ++ m :: Tm) O1 O2) : Good K F Xs H σ env (v :: (U ++ T)) (m :: (Um ++ Tm)) := by
  obtain ⟨O', p, r⟩ := RMs.mid hl g.rt
  exact ⟨_, _, g.permT p r⟩
theorem Good.mid {U : List V} {Um : List M} {v : V} {m : M} (hl : U.length = Um.length) (g : Good K F Xs H σ env (U ++ v :: T) (Um ++ m :: Tm)) : Good K F Xs H σ env (v :: (U ++ T)) (m :: (Um ++ Tm)) := let ⟨_, _, g⟩ := g; g.mid hl

/-- at a slot: what stands there, and what may be put there instead, the heap being changed at what it owns -/
theorem Gd.at {i : Nat} {c : Option M} (g : Gd K F Xs H σ env T Tm O1 O2) (e : env[i]? = some c) : ∃ u o, σ[i]? = some u ∧ RO K (Sx (O1 ++ O2) Xs) H u c o ∧ (∀ a ∈ o, a ∈ O1 ++ O2) ∧
    ∀ (H' : Hp) (u' : Option V) (c' : Option M) (o' : List Addr), (∀ a x, H a = some x → a ∉ o → H' a = some x) → o'.Nodup → (∀ a ∈ o', a ∈ o ∨ H a = none) →
      (∀ S' : Addr → Prop, Kp (Sx (O1 ++ O2) Xs) S' H H' → (∀ a, H a = none → a ∉ o' → S' a) → (∀ a ∈ o, a ∉ o' → S' a) → RO K S' H' u' c' o') → Good K F Xs H' (σ.set i u') (env.set i c') T Tm := by
  obtain ⟨u, o1, o, o2, rfl, h1, h2, h3⟩ := g.re.at e
  refine ⟨u, o, h1, h2, fun a ha => by simp [ha], fun H' u' c' o' k nd' sub hro => ?_⟩
  have nd := g.nd
  have hmu := g.mu
  have old : ∀ a ∈ o1 ++ o2 ++ O2, a ∉ o := fun a ha hx => by
    simp only [List.nodup_append, List.mem_append] at nd ha
    rcases ha with (ha | ha) | ha
    · exact nd.1.2.2 a ha a (.inl hx) rfl
    · exact nd.1.2.1.2.2 a hx a ha rfl
    · exact nd.2.2 a (.inr (.inl hx)) a ha rfl
  have mem : ∀ a ∈ o1 ++ o2 ++ O2, a ∈ o1 ++ (o ++ o2) ++ O2 := fun a ha => by simp only [List.mem_append] at ha ⊢; rcases ha with (ha | ha) | ha <;> simp [ha]
  have new : ∀ a ∈ o1 ++ o2 ++ O2, a ∉ o' := fun a ha hx => by
    rcases sub a hx with z | z
    · exact old a ha z
    · obtain ⟨w, ew, _⟩ := hmu a (mem a ha); rw [z] at ew; cases ew
  have eqH : ∀ a ∈ o1 ++ o2 ++ O2, H' a = H a := fun a ha => by
    obtain ⟨w, ew, _⟩ := hmu a (mem a ha)
    rw [ew]; exact k a w ew (old a ha)
  have hk : Kp (Sx (o1 ++ (o ++ o2) ++ O2) Xs) (Sx (o1 ++ (o' ++ o2) ++ O2) Xs) H H' := by
    refine ⟨fun a x ex s => k a x ex fun z => s.1 (by simp [z]), fun a x ex nm => k a x ex fun z => ?_, fun a x ex s => ⟨fun z => ?_, s.2⟩⟩
    · obtain ⟨w, ew, mw⟩ := hmu a (by simp [z]); rw [ex] at ew; cases ew; exact nm mw
    · simp only [List.mem_append] at z
      rcases z with (z | z | z) | z
      · exact s.1 (by simp [z])
      · rcases sub a z with q | q
        · exact s.1 (by simp [q])
        · rw [q] at ex; cases ex
      · exact s.1 (by simp [z])
      · exact s.1 (by simp [z])
  refine ⟨o1 ++ (o' ++ o2), O2, ?_, h3 _ _ _ _ _ hk (fun a ha => eqH a (by simp only [List.mem_append] at ha ⊢; rcases ha with z | z <;> simp [z])) (hro _ hk (fun a ha hn => ?_) fun a ha hn => ?_), g.rt.kp hk fun a ha => eqH a (by simp [ha]), fun a x ex => ?_, fun a ha => ?_, g.xs⟩
  · simp only [List.nodup_append, List.mem_append] at nd ⊢
    refine ⟨⟨nd.1.1, ⟨nd', nd.1.2.1.2.1, fun a ha b hb e => new b (by simp [hb]) (e ▸ ha)⟩, fun a ha b hb e => ?_⟩, nd.2.1, fun a ha b hb e => ?_⟩
    · subst e
      rcases hb with hb | hb
      · exact new a (by simp [ha]) hb
      · exact nd.1.2.2 a ha a (.inr hb) rfl
    · subst e
      rcases ha with ha | ha | ha
      · exact nd.2.2 a (.inl ha) a hb rfl
      · exact new a (by simp [hb]) ha
      · exact nd.2.2 a (.inr (.inr ha)) a hb rfl
  · have f := g.freshS ha
    refine ⟨fun z => ?_, f.2⟩
    simp only [List.mem_append] at z
    rcases z with (z | z | z) | z
    · exact f.1 (by simp [z])
    · exact hn z
    · exact f.1 (by simp [z])
    · exact f.1 (by simp [z])
  · refine ⟨fun z => ?_, g.notX a (by simp [ha])⟩
    simp only [List.mem_append] at z
    rcases z with (z | z | z) | z
    · exact old a (by simp [z]) ha
    · exact hn z
    · exact old a (by simp [z]) ha
    · exact old a (by simp [z]) ha
  · refine k a x (g.frame a x ex) fun z => ?_
    rw [g.dis a (by simp [z])] at ex; cases ex
  · simp only [List.mem_append] at ha
    have go : a ∈ o1 ++ (o ++ o2) ++ O2 → F a = none := g.dis a
    rcases ha with (z | z | z) | z
    · exact go (by simp [z])
    · rcases sub a z with q | q
      · exact go (by simp [q])
      · cases qf : F a with
        | none => rfl
        | some y => have := g.frame a y qf; rw [q] at this; cases this
    · exact go (by simp [z])
    · exact go (by simp [z])
end
end D8

namespace D8
open PySem PySem.Spec PyProof.Rows L2

/-! ### the small language -/
inductive Pr where
  | add | sub | mul | fdiv | mod | pow | neg
  | eq | ne | lt | le | gt | ge | isN | noN | inn | nin
  | len | abs | int | sum | sorted | tupO | lstO | rpr
  | idx | sl (lo hi : Bool) | rev | min2 | max2 | min1 | max1 | all | any | isi (t : String) | get2 | index | count | rgL1 | rgL2 | rgT1 | rgT2
  deriving DecidableEq
/-- ways to change an object -/
inductive Mt where
  | append | extend | pop0 | pop1 | insert | remove | setIx | update
  deriving DecidableEq
/-- what a loop walks -/
inductive Wk where
  | one | en | zp | zp3 | rg1 | rg2 | rg3
  deriving DecidableEq
mutual
inductive E where
  | nm (i : Nat)
  | mv (i : Nat)
  | cs (d : PyData)
  | pr (p : Pr) (es : Es)
  | qt (e : E)
  | ite (c a b : E)
  | and (a b : E)
  | or (a b : E)
  | not (a : E)
  | ch (p q : Pr) (a b c : E)
  | tup (es : Es)
  | lst (es : Es)
  | lsf (es : Es)
  | ixm (os : Es) (a : E)
  | cnt (os : Es) (a : E)
  | get (os : Es) (a : E) (b : E)
  | dct (es : Es)
  | call (g : Nat) (es : Es)
  | callK (g : Nat) (ix : List Nat) (es : Es)
  | mt (m : Mt) (i : Nat) (es : Es)
  | mp (m : Mt) (i : Nat) (path : Es) (es : Es)
  | lc (own : List Nat) (t : Tg) (w : Wk) (src : Es) (cond : Option E) (e : E)
inductive Es where
  | nil
  | cons (e : E) (es : Es)
inductive Tg where
  | nm (i : Nat)
  | tp (ts : Tgs)
inductive Tgs where
  | nil
  | cons (t : Tg) (ts : Tgs)
end
/-- targets of an assignment -/
inductive At where
  | nm (i : Nat)
  | ix (i : Nat) (path : Es) (k : E)
  | tp (ts : Tgs)
mutual
inductive S where
  | asg (t : At) (e : E)
  | par (ts : List At) (es : Es)
  | ex (e : E)
  | ret (e : E)
  | retN
  | ite (c : E) (a b : Ss)
  | loop (t : Tg) (w : Wk) (src : Es) (body : Ss)
  | whl (c : E) (body : Ss)
  | pass
inductive Ss where
  | nil
  | cons (s : S) (ss : Ss)
end
end D8

namespace D8
open PySem PySem.Spec PyProof.Rows L2

/-! ### the primitives, on values -/
def M.lst? : M → Option (List PyData)
  | .im (.list ds) => some ds
  | .ml xs => ims xs
  | _ => none
def M.tup? : M → Option (List PyData)
  | .im (.tuple ds) => some ds
  | _ => none
def M.seq? : M → Option (List PyData)
  | .im (.tuple ds) => some ds
  | .im (.list ds) => some ds
  | .ml xs => ims xs
  | _ => none
abbrev mint (i : Int) : M := .im (.int i)
abbrev mbl (b : Bool) : M := .im (.bool b)
abbrev mstr (x : Str) : M := .im (.str x)
def mList (ds : List PyData) : M := .ml (ds.map .im)
def mulOk (i j : Int) : Bool := decide (i.natAbs < 18446744073709551616) || decide (j.natAbs < 18446744073709551616) || decide (i.natAbs.log2 + j.natAbs.log2 < 1000000)
def divOk (j : Int) : Bool := decide (0 < j) && decide (j.natAbs.log2 < 9000)
def powOk (i j : Int) : Bool := decide (0 ≤ j) && decide (j ≤ 1000000) && decide (i.natAbs < 18446744073709551616)
def addF (x y : M) : Option M :=
  match x, y with
  | .im (.int i), .im (.int j) => some (mint (i + j))
  | .im (.str a), .im (.str b) => if a.length + b.length ≤ sizeLine then some (mstr (a ++ b)) else none
  | .im (.tuple a), .im (.tuple b) => if a.length + b.length ≤ sizeLine then some (.im (.tuple (a ++ b))) else none
  | x, y => x.lst?.bind fun a => y.lst?.bind fun b => if a.length + b.length ≤ sizeLine then some (mList (a ++ b)) else none
def subF (x y : M) : Option M :=
  match x, y with
  | .im (.int i), .im (.int j) => some (mint (i - j))
  | _, _ => none
def rep {α : Type} (xs : List α) (n : Nat) : List α := (List.replicate n xs).flatten
def mulF (x y : M) : Option M :=
  match x, y with
  | .im (.int i), .im (.int j) => if mulOk i j = true then some (mint (i * j)) else none
  | .im (.tuple a), .im (.int j) => if (a = [] ∨ j = 1) ∧ -9223372036854775808 ≤ j ∧ j < 9223372036854775808 then some (.im (.tuple a)) else if a.length ≤ 1000 ∧ 2 ≤ j ∧ j ≤ 1000 then some (.im (.tuple (rep a j.toNat))) else none
  | .ml xs, .im (.int j) => (ims xs).bind fun a => if a.length * j.toNat ≤ sizeLine ∧ j < 9223372036854775808 ∧ -9223372036854775808 ≤ j then some (mList (rep a j.toNat)) else none
  | _, _ => none
def fdivF (x y : M) : Option M :=
  match x, y with
  | .im (.int i), .im (.int j) => if divOk j = true then some (mint (i / j)) else none
  | _, _ => none
def modF (x y : M) : Option M :=
  match x, y with
  | .im (.int i), .im (.int j) => if 0 < j then some (mint (i % j)) else none
  | _, _ => none
def powF (x y : M) : Option M :=
  match x, y with
  | .im (.int i), .im (.int j) => if powOk i j = true then some (mint (i ^ j.toNat)) else none
  | _, _ => none
def negF (x : M) : Option M :=
  match x with
  | .im (.int i) => some (mint (-i))
  | _ => none
def eqF (x y : M) : Option Bool := if SeqAt.shaped x.fz = true ∧ SeqAt.shaped y.fz = true then some (PyData.eqv x.fz y.fz) else none
def ltF (x y : M) : Option Bool :=
  match x, y with
  | .im (.int i), .im (.int j) => some (decide (i < j))
  | _, _ => none
def leF (x y : M) : Option Bool :=
  match x, y with
  | .im (.int i), .im (.int j) => some (decide (i ≤ j))
  | _, _ => none
def isNF (x : M) : Option Bool :=
  match x with
  | .im .none => some true
  | _ => some false
def isN2 (x y : M) : Option Bool :=
  match y with
  | .im .none => isNF x
  | _ => none
def keyOf : PyData → Option Key
  | .int i => some (.inl i)
  | .str x => some (.inr x)
  | _ => none
def mdHas (kvs : List (Key × M)) (k : Key) : Bool := kvs.any fun p => decide (p.1 = k)
def mdGet (kvs : List (Key × M)) (k : Key) : Option M := (kvs.find? fun p => decide (p.1 = k)).map (·.2)
def mdPut (kvs : List (Key × M)) (k : Key) (m : M) : List (Key × M) := if mdHas kvs k = true then kvs.map (fun p => if p.1 = k then (p.1, m) else p) else kvs ++ [(k, m)]
def fkHas (kvs : List (PyData × PyData)) (k : Key) : Bool := kvs.any fun p => decide (keyOf p.1 = some k)
def fkGet (kvs : List (PyData × PyData)) (k : Key) : Option PyData := (kvs.find? fun p => decide (keyOf p.1 = some k)).map (·.2)
/-- the first with this key, otherwise -/
def mdSet1 : List (Key × M) → Key → M → List (Key × M)
  | [], _, _ => []
  | p :: r, k, m => if p.1 = k then (k, m) :: r else p :: mdSet1 r k m
def inF (x y : M) : Option Bool :=
  match x, y with
  | .im (.str a), .im (.str b) => some (!(Builtin.Str.occurrences b a 0 b.length 1).isEmpty)
  | .im k, .md kvs => (keyOf k).map fun k => mdHas kvs k
  | .im k, .im (.dict kvs) => (keyOf k).map fun k => fkHas kvs k
  | x, y => y.seq?.bind fun ds => if SeqAt.shaped x.fz = true ∧ SeqAt.shaped (.list ds) = true then some (ds.any fun z => PyData.eqv z x.fz) else none
def lenF (x : M) : Option M :=
  match x with
  | .im (.str a) => if a.length ≤ sizeLine then some (mint a.length) else none
  | .im (.tuple a) => some (mint a.length)
  | .im (.list a) => some (mint a.length)
  | .ml a => some (mint a.length)
  | .md a => some (mint a.length)
  | _ => none
def absF (x : M) : Option M :=
  match x with
  | .im (.int i) => some (mint (if i < 0 then -i else i))
  | _ => none
def intF (x : M) : Option M :=
  match x with
  | .im (.int i) => some (mint i)
  | .im (.bool b) => some (mint (if b then 1 else 0))
  | _ => none
def intsOf : List PyData → Option (List Int)
  | [] => some []
  | .int i :: r => (intsOf r).map (i :: ·)
  | _ :: _ => none
def boolsOf : List PyData → Option (List Bool)
  | [] => some []
  | .bool i :: r => (boolsOf r).map (i :: ·)
  | _ :: _ => none
def sumF (x : M) : Option M := x.seq?.bind fun ds => (intsOf ds).map fun ns => mint ns.sum
def allF (x : M) : Option M := x.lst?.bind fun ds => (boolsOf ds).map fun bs => mbl (bs.all id)
def anyF (x : M) : Option M := x.lst?.bind fun ds => (boolsOf ds).map fun bs => mbl (bs.any id)
def tupF (x : M) : Option M := x.seq?.map fun ds => .im (.tuple ds)
def lstF (x : M) : Option M := x.seq?.map fun ds => mList ds
/-- an empty dict, or one that holds none -/
def dz1 : PyData → Bool
  | .dict [] => true
  | d => !d.hasDict
/-- it may be shown -/
def dz : PyData → Bool
  | .list xs => xs.all dz1
  | d => !d.hasDict
def rprF (x : M) : Option M := if x.fz.showable = true ∧ dz x.fz = true ∧ x.fz.depth ≤ 60 ∧ x.fz.shown.length ≤ sizeLine then some (mstr x.fz.shown) else none
def idxF (x y : M) : Option M :=
  match x, y with
  | .im (.str z), .im (.int i) => if z.length ≤ sizeLine then (atI z.cps.toList i).map fun c => mstr ⟨#[c]⟩ else none
  | .md kvs, .im k => (keyOf k).bind fun k => (mdGet kvs k).bind fun m => match m with
    | .im d => some (.im d)
    | _ => none
  | .ml xs, .im (.int i) => (atI xs i).bind fun m => match m with
    | .im d => some (.im d)
    | _ => none
  | .im (.dict kvs), .im k => (keyOf k).bind fun k => (fkGet kvs k).map .im
  | x, .im (.int i) => x.seq?.bind fun ds => (atI ds i).map .im
  | _, _ => none
def cut {α : Type} (xs : List α) (lo hi : Option Int) : List α := (xs.drop (HT.sIx xs.length 0 lo)).take (HT.sIx xs.length xs.length hi - HT.sIx xs.length 0 lo)
def slF (x : M) (lo hi : Option Int) : Option M :=
  match x with
  | .im (.tuple ds) => some (.im (.tuple (cut ds lo hi)))
  | .im (.str z) => if z.length ≤ sizeLine then some (mstr (cutS z lo hi)) else none
  | x => x.lst?.map fun ds => mList (cut ds lo hi)
def int? : M → Option Int
  | .im (.int i) => some i
  | _ => none
def revF (x : M) : Option M :=
  match x with
  | .im (.tuple ds) => some (.im (.tuple ds.reverse))
  | x => x.lst?.map fun ds => mList ds.reverse
def min2F (x y : M) : Option M :=
  match x, y with
  | .im (.int i), .im (.int j) => some (mint (if j < i then j else i))
  | _, _ => none
def max2F (x y : M) : Option M :=
  match x, y with
  | .im (.int i), .im (.int j) => some (mint (if j > i then j else i))
  | _, _ => none
def isiF (t : String) (x : M) : Option Bool :=
  match x with
  | .im .none => some false
  | .im (.bool _) => some (t == "bool" || t == "int")
  | .im (.int _) => some (t == "int")
  | .im (.str _) => some (t == "str")
  | .im (.tuple _) => some (t == "tuple")
  | .im (.list _) => some (t == "list")
  | .im (.dict _) => some (t == "dict")
  | .ml _ => some (t == "list")
  | .md _ => some (t == "dict")
def getF (x k d : M) : Option M :=
  match x, k, d with
  | .md kvs, .im k, .im d => (keyOf k).bind fun k => match mdGet kvs k with
    | none => some (.im d)
    | some (.im e) => some (.im e)
    | _ => none
  | _, _, _ => none
def sortableB (ds : List PyData) : Bool := (ds.all fun d => match d with
  | .tuple (_ :: _) => true
  | _ => false) || ds.all fun d => match d with
  | .none => false
  | .tuple _ => false
  | _ => true
def sortF (x : M) : Option M := x.seq?.bind fun ds => if (ds.all fun a => ds.all fun b => PySem.W.alike a b) = true ∧ sortableB ds = true ∧ (ds.all fun d => decide (d.depth ≤ 50)) = true then some (mList (ds.mergeSort (PySem.W.dataLe false id))) else none
/-- all of them may be compared with one another -/
def alikeB (ds : List PyData) : Bool := (ds.all fun a => ds.all fun b => PySem.W.alike a b) && (ds.all fun d => match d with
  | .none => false
  | _ => true) && decide (PyData.depthAll ds ≤ 50)
/-- the first of the least, of the greatest -/
def min1F (x : M) : Option M := x.lst?.bind fun ds => match ds with
  | [] => none
  | d :: r => if alikeB (d :: r) = true then some (.im (PySem.W.minD d r)) else none
def max1F (x : M) : Option M := x.lst?.bind fun ds => match ds with
  | [] => none
  | d :: r => if alikeB (d :: r) = true then some (.im (PySem.W.maxD d r)) else none
/-- the ints a .. b - 1 -/
def rgI (a b : Int) : List Int := (List.range (b - a).toNat).map fun (i : Nat) => a + i
def rgF (a b : Int) : Option (List PyData) := if (-4611686018427387904 ≤ a ∧ a < 4611686018427387904) ∧ (-4611686018427387904 ≤ b ∧ b < 4611686018427387904) ∧ (b - a).toNat ≤ 16777216 then some ((rgI a b).map .int) else none
/-- the place of an int among ints -/
def indexF (x y : M) : Option M := x.seq?.bind fun ds => (intsOf ds).bind fun ns => (int? y).bind fun k => if k ∈ ns then some (mint (ns.idxOf k : Nat)) else none
/-- how often an int stands among ints -/
def countF (x y : M) : Option M := x.seq?.bind fun ds => (intsOf ds).bind fun ns => (int? y).map fun k => mint (ns.count k : Nat)
def prF (p : Pr) (ms : List M) : Option M :=
  match p, ms with
  | .add, [x, y] => addF x y
  | .sub, [x, y] => subF x y
  | .mul, [x, y] => mulF x y
  | .fdiv, [x, y] => fdivF x y
  | .mod, [x, y] => modF x y
  | .pow, [x, y] => powF x y
  | .neg, [x] => negF x
  | .eq, [x, y] => (eqF x y).map mbl
  | .ne, [x, y] => (eqF x y).map fun b => mbl (!b)
  | .lt, [x, y] => (ltF x y).map mbl
  | .le, [x, y] => (leF x y).map mbl
  | .gt, [x, y] => (ltF y x).map mbl
  | .ge, [x, y] => (leF y x).map mbl
  | .isN, [x, y] => (isN2 x y).map mbl
  | .noN, [x, y] => (isN2 x y).map fun b => mbl (!b)
  | .inn, [x, y] => (inF x y).map mbl
  | .nin, [x, y] => (inF x y).map fun b => mbl (!b)
  | .len, [x] => lenF x
  | .abs, [x] => absF x
  | .int, [x] => intF x
  | .sum, [x] => sumF x
  | .sorted, [x] => sortF x
  | .tupO, [x] => tupF x
  | .lstO, [x] => lstF x
  | .rpr, [x] => rprF x
  | .idx, [x, y] => idxF x y
  | .sl true true, [x, y, z] => (int? y).bind fun i => (int? z).bind fun j => slF x (some i) (some j)
  | .sl true false, [x, y] => (int? y).bind fun i => slF x (some i) none
  | .sl false true, [x, y] => (int? y).bind fun i => slF x none (some i)
  | .sl false false, [x] => slF x none none
  | .rev, [x] => revF x
  | .min2, [x, y] => min2F x y
  | .max2, [x, y] => max2F x y
  | .all, [x] => allF x
  | .any, [x] => anyF x
  | .isi t, [x] => (isiF t x).map mbl
  | .rgL1, [x] => (int? x).bind fun n => (rgF 0 n).map mList
  | .rgL2, [x, y] => (int? x).bind fun a => (int? y).bind fun b => (rgF a b).map mList
  | .rgT1, [x] => (int? x).bind fun n => (rgF 0 n).map fun ds => .im (.tuple ds)
  | .rgT2, [x, y] => (int? x).bind fun a => (int? y).bind fun b => (rgF a b).map fun ds => .im (.tuple ds)
  | .index, [x, y] => indexF x y
  | .min1, [x] => min1F x
  | .max1, [x] => max1F x
  | .count, [x, y] => countF x y
  | .get2, [x, y, z] => getF x y z
  | _, _ => none

/-! ### changes -/
def isMl : M → Bool
  | .ml _ => true
  | _ => false
def isMd : M → Bool
  | .md _ => true
  | _ => false
/-- whether a method stands for such an object -/
def recOk (m : Mt) (x : M) : Bool := match m with
  | .update => isMd x
  | _ => isMl x
/-- a list of pairs -/
def prsOf : List M → Option (List (Key × PyData))
  | [] => some []
  | .im (.tuple [k, v]) :: r => (keyOf k).bind fun k => (prsOf r).map ((k, v) :: ·)
  | _ => none
def mdPuts (kvs : List (Key × M)) (ps : List (Key × PyData)) : List (Key × M) := ps.foldl (fun a p => mdPut a p.1 (.im p.2)) kvs
def isIm : M → Bool
  | .im _ => true
  | _ => false
/-- an object is changed; what comes back -/
def mtF (m : Mt) (x : M) (as : List M) : Option (M × M) :=
  match m, x, as with
  | .append, .ml xs, [y] => if xs.length < sizeLine then some (.ml (xs ++ [y]), .im .none) else none
  | .pop0, .ml xs, [] => xs.getLast?.map fun y => (.ml xs.dropLast, y)
  | .pop1, .ml xs, [.im (.int i)] => if i < 9223372036854775808 ∧ -9223372036854775808 ≤ i then (ixN xs.length i).bind fun k => xs[k]?.map fun y => (.ml (xs.eraseIdx k), y) else none
  | .insert, .ml xs, [.im (.int i), y] => if xs.length < sizeLine ∧ 0 ≤ i ∧ i < 9223372036854775808 then some (.ml (xs.take i.toNat ++ [y] ++ xs.drop i.toNat), .im .none) else none
  | .setIx, .ml xs, [.im (.int i), y] => (ixN xs.length i).map fun k => (.ml (xs.set k y), .im .none)
  | .setIx, .md kvs, [.im k, y] => (keyOf k).bind fun k => if kvs.length < sizeLine ∧ (mdHas kvs k = false ∨ isIm y = true) then some (.md (mdPut kvs k y), .im .none) else none
  | .extend, .ml xs, [.ml ys] => if xs.length + ys.length ≤ sizeLine then some (.ml (xs ++ ys), .im .none) else none
  | .extend, .ml xs, [.im (.tuple ds)] => if xs.length + ds.length ≤ sizeLine then some (.ml (xs ++ ds.map .im), .im .none) else none
  | .update, .md kvs, [.ml ys] => (prsOf ys).bind fun ps => if kvs.length + ps.length ≤ sizeLine then some (.md (mdPuts kvs ps), .im .none) else none
  | _, _, _ => none
/-- the part at a path is changed -/
def atP (f : M → Option (M × M)) : List M → M → Option (M × M)
  | [], x => f x
  | [.im (.int i)], .ml xs => (ixN xs.length i).bind fun k => xs[k]?.bind fun y => (f y).map fun r => (.ml (xs.set k r.1), r.2)
  | [.im d], .md kvs => (keyOf d).bind fun k => (mdGet kvs k).bind fun y => (f y).map fun r => (.md (mdSet1 kvs k r.1), r.2)
  | _, _ => none

/-! ### expressions -/
abbrev EnvM := List (Option M)
abbrev Gam := Nat → List M → Option (M × List (Option M))
inductive Op where
  | sl (i : Nat)
  | tm (m : M)
def slot (env : EnvM) (i : Nat) : Option M := (env[i]?).join
def peek (env : EnvM) : List Op → Option (List M)
  | [] => some []
  | .sl i :: os => (slot env i).bind fun m => (peek env os).map (m :: ·)
  | .tm m :: os => (peek env os).map (m :: ·)
/-- arguments are taken: an owned one leaves its slot -/
def take (env : EnvM) : List Op → Option (List M × EnvM)
  | [] => some ([], env)
  | .tm m :: os => (take env os).map fun r => (m :: r.1, r.2)
  | .sl i :: os => (slot env i).bind fun m => match m with
    | .im d => (take env os).map fun r => (.im d :: r.1, r.2)
    | m => (take (env.set i none) os).map fun r => (m :: r.1, r.2)
/-- the j-th is the one at ix[j] -/
def perm {α : Type} (ix : List Nat) (xs : List α) : Option (List α) := match ix with
  | [] => some []
  | i :: r => (xs[i]?).bind fun x => (perm r xs).map (x :: ·)
/-- and come back -/
def give (env : EnvM) : List Op → List M → List (Option M) → EnvM
  | .sl i :: os, .im _ :: ms, _ :: rs => give env os ms rs
  | .sl i :: os, _ :: ms, r :: rs => give (env.set i r) os ms rs
  | .tm _ :: os, _ :: ms, _ :: rs => give env os ms rs
  | _, _, _ => env
def frzE (env : EnvM) : EnvM := env.map fun c => c.map fun m => .im m.fz
/-- a list; a tuple, if its methods may be called -/
def kOk (ks : List Nat) : Bool := ks == [0] || (FZ && ks == [1])
/-- keys and values by turns -/
def kvsOf : List M → Option (List (Key × M))
  | [] => some []
  | .im k :: m :: r => (keyOf k).bind fun k => (kvsOf r).map ((k, m) :: ·)
  | _ => none
def bool? : M → Option Bool
  | .im (.bool b) => some b
  | _ => none
def items? : M → Option (List PyData)
  | .im (.tuple ds) => some ds
  | .im (.list ds) => some ds
  | .im (.str z) => some (z.cps.toList.map fun c => .str ⟨#[c]⟩)
  | .ml xs => ims xs
  | _ => none
/-- the kind of a walked thing -/
def kdM : M → Nat
  | .im (.list _) => 0
  | .ml _ => 0
  | .im (.tuple _) => 1
  | .im (.str _) => 2
  | .im (.int _) => 3
  | .md _ => 4
  | .im (.dict _) => 4
  | _ => 5
/-- the k-th of n -/
def nth {α : Type} (n k : Nat) (x : Option α) : Option (Option α) := if k < n then x.map some else if k = n then some none else none
/-- what a loop gives at turn k: none, it is stuck; some none, it ends -/
def nextI (w : Wk) (ms : List M) (k : Nat) : Option (Option PyData) :=
  match w, ms with
  | .one, [x] => (items? x).bind fun xs => nth xs.length k xs[k]?
  | .en, [x] => (items? x).bind fun xs => nth xs.length k (xs[k]?.map fun d => .tuple [.int k, d])
  | .zp, [x, y] => (items? x).bind fun xs => (items? y).bind fun ys => nth (min xs.length ys.length) k (xs[k]?.bind fun d => ys[k]?.map fun e => .tuple [d, e])
  | .rg1, [x] => (int? x).bind fun n => if -4611686018427387904 ≤ n ∧ n < 4611686018427387904 then nth n.toNat k (some (.int k)) else none
  | .rg2, [x, y] => (int? x).bind fun a => (int? y).bind fun n => if (-4611686018427387904 ≤ a ∧ a < 4611686018427387904) ∧ -4611686018427387904 ≤ n ∧ n < 4611686018427387904 then nth (n - a).toNat k (some (.int (a + k))) else none
  | _, _ => none
def nextK (w : Wk) (ops : List Op) (ks : List Nat) (k : Nat) (env : EnvM) : Option (Option PyData) := (peek env ops).bind fun ms => if ms.map kdM = ks then nextI w ms k else none
mutual
def setT : Tg → PyData → EnvM → Option EnvM
  | .nm i, d, env => if i < env.length then some (env.set i (some (.im d))) else none
  | .tp ts, .tuple ds, env => setTs ts ds env
  | .tp ts, .list ds, env => setTs ts ds env
  | .tp _, _, _ => none
def setTs : Tgs → List PyData → EnvM → Option EnvM
  | .nil, [], env => some env
  | .cons t ts, d :: ds, env => (setT t d env).bind fun env => setTs ts ds env
  | _, _, _ => none
end
mutual
def Tg.slots : Tg → List Nat
  | .nm i => [i]
  | .tp ts => ts.slots
def Tgs.slots : Tgs → List Nat
  | .nil => []
  | .cons t ts => t.slots ++ ts.slots
end
def wipeE (env : EnvM) : List Nat → EnvM
  | [] => env
  | v :: vs => (wipeE env vs).set v none
/-- the slots vs as they were in old -/
def backE (old env : EnvM) : List Nat → EnvM
  | [] => env
  | v :: vs => (backE old env vs).set v (old[v]?.join)
/-- the loop of a comprehension -/
def lcLp (nxt : Nat → EnvM → Option (Option PyData)) (st : PyData → EnvM → Option EnvM) (c : EnvM → Option (Bool × EnvM)) (e : EnvM → Option (M × EnvM)) (w : EnvM → EnvM) (k : Nat) (acc : List M) (env : EnvM) : Option (List M × EnvM) :=
  match nxt k env with
  | none => none
  | some none => some (acc, env)
  | some (some d) => match st d env with
    | none => none
    | some env1 => match c env1 with
      | none => none
      | some (false, env2) => lcLp nxt st c e w (k + 1) acc (w env2)
      | some (true, env2) => match e env2 with
        | none => none
        | some (m, env3) => if acc.length < sizeLine then lcLp nxt st c e w (k + 1) (acc ++ [m]) (w env3) else none
partial_fixpoint

mutual
def evalE (Γ : Gam) : E → EnvM → Option (M × EnvM)
  | .nm i, env => (slot env i).bind fun m => match m with
    | .im d => some (.im d, env)
    | m => some (.im m.fz, env.set i (some (.im m.fz)))
  | .mv i, env => (slot env i).bind fun m => match m with
    | .im d => some (.im d, env)
    | .ml xs => some (.im (M.ml xs).fz, env.set i (some (.im (M.ml xs).fz)))
    | .md kvs => some (.md kvs, env.set i none)
  | .cs d, env => some (.im d, env)
  | .pr p es, env => (evalOs Γ es env).bind fun r => (peek r.2 r.1).bind fun ms => (prF p ms).map fun m => (m, r.2)
  | .qt e, env => (evalE Γ e (frzE env)).bind fun r => if clean r.1.fz = true then some (r.1, env) else none
  | .ite c a b, env => (evalT Γ c env).bind fun r => if r.1 = true then evalE Γ a r.2 else evalE Γ b r.2
  | .and a b, env => (evalE Γ a env).bind fun r => (bool? r.1).bind fun t => if t = true then evalE Γ b r.2 else some (mbl false, r.2)
  | .or a b, env => (evalE Γ a env).bind fun r => (bool? r.1).bind fun t => if t = true then some (mbl true, r.2) else evalE Γ b r.2
  | .not a, env => (evalE Γ a env).bind fun r => (bool? r.1).map fun t => (mbl (!t), r.2)
  | .ch p q a b c, env => (evalE Γ a env).bind fun ra => (evalE Γ b ra.2).bind fun rb => (prF p [ra.1, rb.1]).bind fun x => (bool? x).bind fun t =>
      if t = true then (evalE Γ c rb.2).bind fun rc => (prF q [rb.1, rc.1]).bind fun y => (bool? y).map fun u => (mbl u, rc.2) else some (mbl false, rb.2)
  | .tup es, env => (evalVs Γ es env).bind fun r => if r.1.length ≤ sizeLine then some (.im (.tuple (fzs r.1)), r.2) else none
  | .lst es, env => (evalVs Γ es env).bind fun r => if r.1.length ≤ sizeLine then some (.ml r.1, r.2) else none
  | .lsf es, env => (evalVs Γ es env).bind fun r => if r.1.length ≤ sizeLine then some (mList (fzs r.1), r.2) else none
  | .ixm os a, env => (evalOs Γ os env).bind fun r => (peek r.2 r.1).bind fun ms0 => if kOk (ms0.map kdM) = true then (evalE Γ a r.2).bind fun q => (peek q.2 r.1).bind fun ms => if ms.map kdM = ms0.map kdM then (prF .index (ms ++ [q.1])).map fun m => (m, q.2) else none else none
  | .cnt os a, env => (evalOs Γ os env).bind fun r => (peek r.2 r.1).bind fun ms0 => if kOk (ms0.map kdM) = true then (evalE Γ a r.2).bind fun q => (peek q.2 r.1).bind fun ms => if ms.map kdM = ms0.map kdM then (prF .count (ms ++ [q.1])).map fun m => (m, q.2) else none else none
  | .get os a b, env => (evalOs Γ os env).bind fun r => (peek r.2 r.1).bind fun ms0 => if ms0.map kdM = [4] then (evalE Γ a r.2).bind fun q => (evalE Γ b q.2).bind fun t => (peek t.2 r.1).bind fun ms => if ms.map kdM = [4] then (prF .get2 (ms ++ [q.1, t.1])).map fun m => (m, t.2) else none else none
  | .dct es, env => (evalVs Γ es env).bind fun r => (kvsOf r.1).bind fun kvs => if kvs.length ≤ 15 ∧ (kvs.map (·.1)).Nodup then some (.md kvs, r.2) else none
  | .call g es, env => (evalOs Γ es env).bind fun r => (take r.2 r.1).bind fun a => (Γ g a.1).bind fun q => if q.2.length = a.1.length then some (q.1, give a.2 r.1 a.1 q.2) else none
  | .callK g ix es, env => (evalVs Γ es env).bind fun r => (ims r.1).bind fun ds => (perm ix ds).bind fun ds => (Γ g (ds.map .im)).bind fun q => if q.2.length = ds.length then some (q.1, r.2) else none
  | .mt m i es, env => (slot env i).bind fun x0 => if recOk m x0 = false then none else (evalVs Γ es env).bind fun r => (slot r.2 i).bind fun x => (mtF m x r.1).map fun q => (q.2, r.2.set i (some q.1))
  | .mp m i path es, env => (evalQs Γ path (frzE env)).bind fun ps => (evalQs Γ es (frzE env)).bind fun as => (slot env i).bind fun x => (atP (fun x => mtF m x as) ps x).map fun q => (q.2, env.set i (some q.1))
  | .lc own t w src cond e, env => (evalOs Γ src env).bind fun r => (peek r.2 r.1).bind fun ms =>
      (lcLp (nextK w r.1 (ms.map kdM)) (setT t) (fun env => match cond with
        | none => some (true, env)
        | some c => evalT Γ c env) (fun env => evalE Γ e env) (fun env => wipeE env own) 0 [] (wipeE r.2 own)).map fun (q : List M × EnvM) => (.ml q.1, backE r.2 q.2 own)
/-- a test -/
def evalT (Γ : Gam) : E → EnvM → Option (Bool × EnvM)
  | .and a b, env => (evalT Γ a env).bind fun r => if r.1 = true then evalT Γ b r.2 else some (false, r.2)
  | .or a b, env => (evalT Γ a env).bind fun r => if r.1 = true then some (true, r.2) else evalT Γ b r.2
  | .not a, env => (evalT Γ a env).map fun r => (!r.1, r.2)
  | .nm i, env => (slot env i).bind fun m => (bool? m).map fun b => (b, env)
  | .cs (.bool b), env => some (b, env)
  | .pr p es, env => (evalOs Γ es env).bind fun r => (peek r.2 r.1).bind fun ms => (prF p ms).bind fun m => (bool? m).map fun b => (b, r.2)
  | .qt e, env => (evalE Γ e (frzE env)).bind fun r => (bool? r.1).map fun b => (b, env)
  | .ch p q a b c, env => (evalE Γ a env).bind fun ra => (evalE Γ b ra.2).bind fun rb => (prF p [ra.1, rb.1]).bind fun x => (bool? x).bind fun t =>
      if t = true then (evalE Γ c rb.2).bind fun rc => (prF q [rb.1, rc.1]).bind fun y => (bool? y).map fun u => (u, rc.2) else some (false, rb.2)
  | .call g es, env => (evalOs Γ es env).bind fun r => (take r.2 r.1).bind fun a => (Γ g a.1).bind fun q => if q.2.length = a.1.length then (bool? q.1).map fun b => (b, give a.2 r.1 a.1 q.2) else none
  | .callK g ix es, env => (evalVs Γ es env).bind fun r => (ims r.1).bind fun ds => (perm ix ds).bind fun ds => (Γ g (ds.map .im)).bind fun q => if q.2.length = ds.length then (bool? q.1).map fun b => (b, r.2) else none
  | _, _ => none
def evalVs (Γ : Gam) : Es → EnvM → Option (List M × EnvM)
  | .nil, env => some ([], env)
  | .cons e es, env => (evalE Γ e env).bind fun r => (evalVs Γ es r.2).map fun q => (r.1 :: q.1, q.2)
/-- each quietly: data that hold no list or dict -/
def evalQs (Γ : Gam) : Es → EnvM → Option (List M)
  | .nil, env => some []
  | .cons e es, env => (evalE Γ e env).bind fun r => if clean r.1.fz = true then (evalQs Γ es env).map fun q => (.im r.1.fz :: q) else none
def evalOs (Γ : Gam) : Es → EnvM → Option (List Op × EnvM)
  | .nil, env => some ([], env)
  | .cons e es, env => match e with
    | .nm i => (slot env i).bind fun _ => (evalOs Γ es env).map fun q => (.sl i :: q.1, q.2)
    | e => (evalE Γ e env).bind fun r => (evalOs Γ es r.2).map fun q => (.tm r.1 :: q.1, q.2)
end
end D8

namespace D8
open PySem PySem.Spec PyProof.Rows L2
inductive Fl where
  | nx | rt (m : M) | bk | ct
def forLp (nxt : Nat → EnvM → Option (Option PyData)) (st : PyData → EnvM → Option EnvM) (body : EnvM → Option (Fl × EnvM)) (k : Nat) (env : EnvM) : Option (Fl × EnvM) :=
  match nxt k env with
  | none => none
  | some none => some (.nx, env)
  | some (some d) => match st d env with
    | none => none
    | some env1 => match body env1 with
      | none => none
      | some (.nx, env2) => forLp nxt st body (k + 1) env2
      | some (.ct, env2) => forLp nxt st body (k + 1) env2
      | some (.bk, env2) => some (.nx, env2)
      | some (.rt m, env2) => some (.rt m, env2)
partial_fixpoint
def whLp (c : EnvM → Option (Bool × EnvM)) (body : EnvM → Option (Fl × EnvM)) (env : EnvM) : Option (Fl × EnvM) :=
  match c env with
  | none => none
  | some (false, env1) => some (.nx, env1)
  | some (true, env1) => match body env1 with
    | none => none
    | some (.nx, env2) => whLp c body env2
    | some (.ct, env2) => whLp c body env2
    | some (.bk, env2) => some (.nx, env2)
    | some (.rt m, env2) => some (.rt m, env2)
partial_fixpoint
def opSlots : List Op → List Nat
  | [] => []
  | .sl i :: os => i :: opSlots os
  | .tm _ :: os => opSlots os
def freeOf (pn : List Nat) (is : List Nat) : Bool := is.all fun i => !pn.contains i
def setTp (pn : List Nat) (t : Tg) (d : PyData) (env : EnvM) : Option EnvM := if freeOf pn t.slots = true then setT t d env else none
def store (Γ : Gam) (pn : List Nat) (t : At) (m : M) (env : EnvM) : Option EnvM :=
  match t with
  | .nm i => if freeOf pn [i] = true ∧ i < env.length then some (env.set i (some m)) else none
  | .ix i path k => (evalQs Γ path (frzE env)).bind fun ps => (evalQs Γ (.cons k .nil) (frzE env)).bind fun as => (slot env i).bind fun x => (atP (fun x => mtF .setIx x (as ++ [m])) ps x).map fun q => env.set i (some q.1)
  | .tp ts => match m with
    | .im d => setTp pn (.tp ts) d env
    | .ml xs => setTp pn (.tp ts) (.list (fzs xs)) env
    | _ => none
def storeAll (Γ : Gam) (pn : List Nat) : List At → List M → EnvM → Option EnvM
  | [], [], env => some env
  | t :: ts, m :: ms, env => (store Γ pn t m env).bind fun env => storeAll Γ pn ts ms env
  | _, _, _ => none
mutual
def execS (Γ : Gam) (pn : List Nat) : S → EnvM → Option (Fl × EnvM)
  | .asg t e, env => (evalE Γ e env).bind fun r => (store Γ pn t r.1 r.2).map fun env => (.nx, env)
  | .par ts es, env => (evalVs Γ es env).bind fun r => (storeAll Γ pn ts r.1 r.2).map fun env => (.nx, env)
  | .ex e, env => (evalE Γ e env).map fun r => (.nx, r.2)
  | .ret e, env => (evalE Γ e env).map fun r => (.rt r.1, r.2)
  | .retN, env => some (.rt (.im .none), env)
  | .ite c a b, env => (evalT Γ c env).bind fun r => if r.1 = true then execSs Γ pn a r.2 else execSs Γ pn b r.2
  | .loop t w src body, env => (evalOs Γ src env).bind fun r => (peek r.2 r.1).bind fun ms => forLp (nextK w r.1 (ms.map kdM)) (setTp (opSlots r.1 ++ pn) t) (fun env => execSs Γ (opSlots r.1 ++ pn) body env) 0 r.2
  | .whl c body, env => whLp (fun env => evalT Γ c env) (fun env => execSs Γ pn body env) env
  | .pass, env => some (.nx, env)
def execSs (Γ : Gam) (pn : List Nat) : Ss → EnvM → Option (Fl × EnvM)
  | .nil, env => some (.nx, env)
  | .cons s ss, env => (execS Γ pn s env).bind fun r => match r.1 with
    | .nx => execSs Γ pn ss r.2
    | f => some (f, r.2)
end
def owned : M → Bool
  | .im _ => false
  | _ => true
def pins (ms : List M) (i : Nat) : List Nat :=
  match ms with
  | [] => []
  | m :: ms => if owned m = true then i :: pins ms (i + 1) else pins ms (i + 1)
def backs (ms : List M) (env : EnvM) : List (Option M) :=
  match ms, env with
  | [], _ => []
  | m :: ms, c :: env => (if owned m = true then c else none) :: backs ms env
  | m :: ms, [] => none :: backs ms []
structure Df where
  np : Nat
  nn : Nat
  body : Ss
/-- a def, called -/
def callD (Γ : Gam) (f : Df) (ms : List M) : Option (M × List (Option M)) :=
  if ms.length = f.np then (execSs Γ (pins ms 0) f.body (ms.map some ++ List.replicate (f.nn - f.np) none)).bind fun r => match r.1 with
    | .nx => some (.im .none, backs ms r.2)
    | .rt m => some (m, backs ms r.2)
    | _ => none
  else none
end D8

namespace D8
open PySem PySem.Spec PyProof.Rows L2
/-! ### from Python's syntax -/
/-- the surroundings: slots by name, functions with their parameters, constants of the module -/
structure Sur where
  N : List Str
  G : List (Str × List Str)
  P : List (Nat × Nat × List Str)
  C : List (Str × PyData)
def dbg (x : Str) : Bool := (x == ("__debug__" : Str)) || (x == ("__classdict__" : Str)) || (x == ("__name__" : Str))
def isLoc (sc : Scope) (x : Str) : Bool := !dbg x && match sc.names.lookup x with
  | some .local => true | some .cell => true | some .free => true | _ => false
def isOwn (sc : Scope) (x : Str) : Bool := match sc.names.lookup x with
  | some .local => true | some .cell => true | _ => false
def isGlo (sc : Scope) (x : Str) : Bool := !dbg x && match sc.names.lookup x with
  | some .globalImplicit => true | _ => false
def binP : Operator → Option Pr
  | .Add => some .add | .Sub => some .sub | .Mult => some .mul | .Mod => some .mod | .FloorDiv => some .fdiv | .Pow => some .pow | _ => none
def cmpP : CmpOp → Option Pr
  | .Eq => some .eq | .NotEq => some .ne | .Lt => some .lt | .LtE => some .le | .Gt => some .gt | .GtE => some .ge | .In => some .inn | .NotIn => some .nin | .Is => some .isN | .IsNot => some .noN
def blt1 : List (Str × Pr) := [("len", .len), ("abs", .abs), ("int", .int), ("sum", .sum), ("sorted", .sorted), ("tuple", .tupO), ("list", .lstO), ("repr", .rpr), ("all", .all), ("any", .any), ("min", .min1), ("max", .max1)]
def blt2 : List (Str × Pr) := [("min", .min2), ("max", .max2)]
def bltP (x : Str) (n : Nat) : Option Pr := if n = 1 then blt1.lookup x else if n = 2 then blt2.lookup x else none
def isiT : List (Str × String) := [("int", "int"), ("bool", "bool"), ("tuple", "tuple"), ("str", "str"), ("list", "list")]
def isiP (x : Str) : Option Pr := (isiT.lookup x).map .isi
def Es.ofL : List E → Es
  | [] => .nil
  | e :: es => .cons e (.ofL es)
mutual
/-- it calls, or changes something -/
def E.busy : E → Bool
  | .nm _ => false
  | .mv _ => true
  | .cs _ => false
  | .pr _ es => es.busy
  | .qt e => e.busy
  | .ite c a b => c.busy || a.busy || b.busy
  | .and a b => a.busy || b.busy
  | .or a b => a.busy || b.busy
  | .not a => a.busy
  | .ch _ _ a b c => a.busy || b.busy || c.busy
  | .tup es => es.busy
  | .lst es => es.busy
  | .lsf es => es.busy
  | .ixm _ _ => true
  | .cnt _ _ => true
  | .get _ _ _ => true
  | .dct _ => true
  | .call _ _ => true
  | .callK _ _ _ => true
  | .mt _ _ _ => true
  | .mp _ _ _ _ => true
  | .lc _ _ _ _ _ _ => true
def Es.busy : Es → Bool
  | .nil => false
  | .cons e es => e.busy || es.busy
end
/-- a new list's parts, frozen -/
def E.unown : E → E
  | .lst es => .lsf es
  | e => e
def isDisp : PySem.Expr → Bool
  | .List _ _ => true
  | .ListComp _ _ _ _ => true
  | _ => false
/-- the parts of this display are owned -/
def ownD : List PySem.Expr → Bool
  | e :: _ => isDisp e
  | [] => true
def mkLst (own : Bool) (es : List E) : E := if own then .lst (Es.ofL es) else .lsf (Es.ofL es)
/-- a name that is returned: a dict is given away -/
def E.asMv : E → E
  | .nm i => .mv i
  | e => e
def mixL : List E → List E → List E
  | k :: ks, v :: vs => k :: v :: mixL ks vs
  | _, _ => []
def E.isIdx : E → Bool
  | .pr .idx _ => true
  | _ => false
def Es.anyIdx : Es → Bool
  | .nil => false
  | .cons e es => e.isIdx || es.anyIdx
def quietP : Pr → Bool
  | .eq => true | .ne => true | .len => true | .inn => true | .nin => true | .sum => true | .rpr => true | .tupO => true | _ => false
/-- range(..), as what list, tuple take -/
def isRg (U : Sur) (sc : Scope) : PySem.Expr → Bool
  | .Call (.Name x _) _ [] _ => x == ("range" : Str) && isGlo sc x && (U.G.findIdx? (fun p => p.1 == x)).isNone
  | _ => false
def rgE (x : Str) : List E → Option E
  | [a] => if x = "list" then some (.pr .rgL1 (.cons a .nil)) else if x = "tuple" then some (.pr .rgT1 (.cons a .nil)) else none
  | [a, b] => if x = "list" then some (.pr .rgL2 (.cons a (.cons b .nil))) else if x = "tuple" then some (.pr .rgT2 (.cons a (.cons b .nil))) else none
  | _ => none
def mkPr (p : Pr) (es : List E) : E := let s := Es.ofL es; if quietP p && s.anyIdx && !s.busy then .qt (.pr p s) else .pr p s
def mutP (x : Str) (n : Nat) : Option Mt :=
  if x = "append" ∧ n = 1 then some .append else if x = "extend" ∧ n = 1 then some .extend else if x = "pop" ∧ n = 0 then some .pop0 else if x = "pop" ∧ n = 1 then some .pop1
  else if x = "insert" ∧ n = 2 then some .insert else if x = "remove" ∧ n = 1 then some .remove else if x = "update" ∧ n = 1 then some .update else none
def metP (x : Str) (n : Nat) : Option Pr :=
  if x = "get" ∧ n = 2 then some .get2 else if x = "index" ∧ n = 1 then some .index else if x = "count" ∧ n = 1 then some .count else none
/-- a path: a slot and indices -/
def pathOf : E → Option (Nat × List E)
  | .nm i => some (i, [])
  | .pr .idx (.cons a (.cons k .nil)) => (pathOf a).map fun r => (r.1, r.2 ++ [k])
  | _ => none
def kwIx (ps : List Str) (n : Nat) (ks : List Str) : Option (List Nat) :=
  if n + ks.length = ps.length then ((List.range n).map some ++ (ps.drop n).map fun p => (ks.findIdx? (· == p)).map (· + n)).mapM id else none
mutual
def cT (N : List Str) (sc : Scope) : PySem.Expr → Option Tg
  | .Name x _ => if isOwn sc x = true then (N.findIdx? (· == x)).map Tg.nm else none
  | .Tuple es _ _ => (cTs N sc es).map Tg.tp
  | _ => none
def cTs (N : List Str) (sc : Scope) : List PySem.Expr → Option Tgs
  | [] => some .nil
  | e :: es => (cT N sc e).bind fun t => (cTs N sc es).map fun ts => .cons t ts
end
def ownOf (N : List Str) (sc : Scope) : List (Str × Nat) := sc.names.filterMap fun p => match p.2 with
  | .local => (N.findIdx? (· == p.1)).map fun i => (p.1, i)
  | .cell => (N.findIdx? (· == p.1)).map fun i => (p.1, i)
  | _ => none
def walkOf (x : Str) (n : Nat) : Option Wk := if x = "enumerate" ∧ n = 1 then some .en else if x = "zip" ∧ n = 2 then some .zp else if x = "zip" ∧ n = 3 then some .zp3
  else if x = "range" ∧ n = 1 then some .rg1 else if x = "range" ∧ n = 2 then some .rg2 else if x = "range" ∧ n = 3 then some .rg3 else none
def cBool (op : BoolOp) : List E → Option E
  | [] => none
  | [e] => some e
  | e :: es => (cBool op es).map fun r => match op with
    | .And => .and e r
    | .Or => .or e r
/-- what a loop walks: from what the walked thing and its arguments become -/
def itOf (U : Sur) (sc : Scope) (e : PySem.Expr) (own : Option E) (args : Option (List E)) : Option (Wk × Es) :=
  match e with
  | .Call (.Name x _) es [] _ => if isGlo sc x && (U.G.findIdx? (fun p => p.1 == x)).isNone then match walkOf x es.length with
      | some w => args.map fun es => (w, .ofL es)
      | none => own.map fun e => (.one, .cons e .nil)
    else own.map fun e => (.one, .cons e .nil)
  | _ => own.map fun e => (.one, .cons e .nil)
/-- a name, a subscript -/
def nmSub : PySem.Expr → Bool
  | .Name _ _ => true
  | .Subscript _ _ _ => true
  | _ => false
/-- pairs go to a tuple of targets -/
def tupW (w : Wk) (t : PySem.Expr) : Bool := match w, t with
  | .en, .Tuple _ _ _ => true
  | .en, _ => false
  | .zp, .Tuple _ _ _ => true
  | .zp, _ => false
  | .zp3, _ => false
  | .rg3, _ => false
  | _, _ => true
mutual
def cE (U : Sur) (sc : Scope) : PySem.Expr → Option E
  | .Constant c _ _ => match c with
    | .int i => some (.cs (.int i))
    | .bool b => some (.cs (.bool b))
    | .none => some (.cs .none)
    | .str x => some (.cs (.str x))
    | _ => none
  | .Name x _ => if isLoc sc x then (U.N.findIdx? (· == x)).map E.nm else if isGlo sc x then (U.C.lookup x).map E.cs else none
  | .BinOp a op b _ => (cE U sc a).bind fun a => (cE U sc b).bind fun b => (binP op).map fun p => mkPr p [a.unown, b.unown]
  | .UnaryOp .USub a _ => (cE U sc a).map fun a => mkPr .neg [a]
  | .UnaryOp .Not a _ => (cE U sc a).map E.not
  | .BoolOp op es _ => (cEL U sc es).bind fun es => cBool op es
  | .IfExp c a b _ => (cE U sc c).bind fun c => (cE U sc a).bind fun a => (cE U sc b).map fun b => .ite c a b
  | .Tuple es _ _ => (cEL U sc es).map fun es => .tup (.ofL es)
  | .List es _ => (cEL U sc es).map fun cs => mkLst (ownD es) cs
  | .Dict ks vs _ => if ks.length = vs.length ∧ ks.length ≤ 15 then (cKs U sc ks).bind fun ks => (cEL U sc vs).map fun vs => .dct (.ofL (mixL ks vs)) else none
  | .Compare a [op] [b] _ => (cE U sc a).bind fun a => (cE U sc b).bind fun b => (cmpP op).map fun p => mkPr p [a, b]
  | .Compare a [op, op'] [b, c] _ => (cE U sc a).bind fun a => (cE U sc b).bind fun b => (cE U sc c).bind fun c => (cmpP op).bind fun p => (cmpP op').map fun q => .ch p q a b c
  | .Call (.Name x _) es [] _ => if isGlo sc x then
      (match U.G.findIdx? (fun p => p.1 == x) with
      | some g => (cEL U sc es).map fun es => .call g (.ofL (es.map E.unown))
      | none => (if x = "isinstance" then (match es with
        | [a, .Name t _] => if (isGlo sc t && (U.G.findIdx? (fun p => p.1 == t)).isNone) = true then (cE U sc a).bind fun a => (isiP t).map fun p => mkPr p [a] else none
        | _ => none) else (match es with
        | [e] => if isRg U sc e = true then (cArgs U sc e).bind fun as => rgE x as else (cE U sc e).bind fun c => (bltP x 1).map fun p => mkPr p [c]
        | es => (cEL U sc es).bind fun es => (bltP x es.length).map fun p => mkPr p es))) else none
  | .Call (.Name x _) es kws _ => if isGlo sc x then (U.G.findIdx? (fun p => p.1 == x)).bind fun g => (U.G[g]?).bind fun fp => (cEL U sc es).bind fun es => (cKW U sc kws).bind fun ks => if U.P.contains (g, es.length, ks.map (·.1)) then (kwIx fp.2 es.length (ks.map (·.1))).map fun ix => .callK g ix (.ofL (es ++ ks.map (·.2))) else none else none
  | .Call (.Attribute o m ap) es [] cp => if (ap.endLine == cp.line && nmSub o) = false then none else (cE U sc o).bind fun o => (cEL U sc es).bind fun es => match mutP m es.length with
    | some m => (pathOf o).map fun r => match r.2 with
      | [] => .mt m r.1 (.ofL es)
      | p => .mp m r.1 (.ofL p) (.ofL es)
    | none => match es with
      | [a] => if m = ("index" : Str) then some (.ixm (.cons o .nil) a) else if m = ("count" : Str) then some (.cnt (.cons o .nil) a) else none
      | [a, b] => if m = ("get" : Str) then some (.get (.cons o .nil) a b) else none
      | _ => none
  | .Subscript o (.Slice lo hi st _) _ => (cE U sc o).bind fun o => match lo, hi, st with
    | none, none, some (.UnaryOp .USub (.Constant (.int 1) _ _) _) => some (.pr .rev (.cons o .nil))
    | some lo, none, none => (cE U sc lo).map fun lo => .pr (.sl true false) (.cons o (.cons lo .nil))
    | none, some hi, none => (cE U sc hi).map fun hi => .pr (.sl false true) (.cons o (.cons hi .nil))
    | some lo, some hi, none => (cE U sc lo).bind fun lo => (cE U sc hi).map fun hi => .pr (.sl true true) (.cons o (.cons lo (.cons hi .nil)))
    | none, none, none => some (.pr (.sl false false) (.cons o .nil))
    | _, _, _ => none
  | .Subscript o i _ => (cE U sc o).bind fun o => (cE U sc i).map fun i => .pr .idx (.cons o (.cons i .nil))
  | .ListComp e [⟨t, it, ifs, 0⟩] bs _ =>
      let own := ownOf U.N bs
      if blkC U.N sc bs own = true ∧ (own.map (·.2)).Nodup then (itOf U sc it (cE U sc it) (cArgs U sc it)).bind fun w => if tupW w.1 t = false then none else (cT U.N bs t).bind fun t => if (t.slots.all fun i => (own.map (·.2)).contains i) = false then none else (cE U (relS bs sc) e).bind fun e => match ifs with
        | [] => some (.lc (own.map (·.2)) t w.1 w.2 none e)
        | [c] => (cE U (relS bs sc) c).map fun c => .lc (own.map (·.2)) t w.1 w.2 (some c) e
        | _ => none
      else none
  | _ => none
def cEL (U : Sur) (sc : Scope) : List PySem.Expr → Option (List E)
  | [] => some []
  | e :: es => (cE U sc e).bind fun e => (cEL U sc es).map fun es => e :: es
def cKs (U : Sur) (sc : Scope) : List (Option PySem.Expr) → Option (List E)
  | [] => some []
  | some e :: es => (cE U sc e).bind fun e => (cKs U sc es).map fun es => e :: es
  | none :: _ => none
def cKW (U : Sur) (sc : Scope) : List Keyword → Option (List (Str × E))
  | [] => some []
  | ⟨some k, e, _⟩ :: ks => (cE U sc e).bind fun e => (cKW U sc ks).map fun ks => (k, e) :: ks
  | _ => none
def cArgs (U : Sur) (sc : Scope) : PySem.Expr → Option (List E)
  | .Call _ es _ _ => cEL U sc es
  | _ => none
end
def isLc : PySem.Expr → Bool
  | .ListComp _ _ _ _ => true
  | _ => false
def starB : PySem.Expr → Bool
  | .Starred _ _ => true
  | _ => false
def locN (sc : Scope) (line : Nat) : PySem.Expr → Option Str
  | .Name x pos => if sc.names.lookup x == some .local && pos.line == line then some x else none
  | _ => none
/-- how a, b = x, y stores: true, from the right -/
def swp (sc : Scope) (ts vs : List PySem.Expr) : Option Bool :=
  if (!(ts.length == 2 || ts.length == 3) || vs.length != ts.length) = true then some false
  else if vs.any starB = true then some false
  else if ((ts.filterMap (locN sc ((ts.head?.map (·.pos.line)).getD 0))).length != ts.length || (ts.filterMap (locN sc ((ts.head?.map (·.pos.line)).getD 0))).eraseDups.length != (ts.filterMap (locN sc ((ts.head?.map (·.pos.line)).getD 0))).length) = true then some false
  else if vs.all (foldedForSure 8) = true then some false
  else if vs.all (constantsAlone 8) = true then none
  else some true
def cIt (U : Sur) (sc : Scope) (e : PySem.Expr) : Option (Wk × Es) := itOf U sc e (cE U sc e) (cArgs U sc e)
def cA (U : Sur) (sc : Scope) : PySem.Expr → Option At
  | .Name x _ => if isOwn sc x = true then (U.N.findIdx? (· == x)).map At.nm else none
  | .Tuple es _ _ => (cTs U.N sc es).map At.tp
  | .Subscript o i _ => if nmSub o = false then none else (cE U sc o).bind fun o => (pathOf o).bind fun r => (cE U sc i).map fun k => .ix r.1 (.ofL r.2) k
  | _ => none
def cAs (U : Sur) (sc : Scope) : List PySem.Expr → Option (List At)
  | [] => some []
  | e :: es => (cA U sc e).bind fun t => (cAs U sc es).map fun ts => t :: ts
mutual
def cS (U : Sur) (sc : Scope) : PySem.Stmt → Option S
  | .Assign [.Tuple ts _ _] (.Tuple es _ _) _ => if swp sc ts es = none ∨ 100 < ts.length then none else (cAs U sc ts).bind fun ts => (cEL U sc es).map fun es => .par ts (.ofL es)
  | .Assign [t] e _ => (cA U sc t).bind fun t => (cE U sc e).map fun e => .asg t e
  | .Expr e _ => if isLc e then none else (cE U sc e).map S.ex
  | .Return (some e) _ => (cE U sc e).map fun c => S.ret c.asMv
  | .Return none _ => some .retN
  | .If c a b _ => (cE U sc c).bind fun c => (cSs U sc a).bind fun a => (cSs U sc b).map fun b => .ite c a b
  | .While c a [] _ => (cE U sc c).bind fun c => (cSs U sc a).map fun a => .whl c a
  | .For t it b [] _ => (itOf U sc it (cE U sc it) (cArgs U sc it)).bind fun w => if tupW w.1 t = false then none else (cT U.N sc t).bind fun t => (cSs U sc b).map fun b => .loop t w.1 w.2 b
  | .Pass _ => some .pass
  | _ => none
def cSs (U : Sur) (sc : Scope) : List PySem.Stmt → Option Ss
  | [] => some .nil
  | s :: ss => (cS U sc s).bind fun s => (cSs U sc ss).map fun ss => .cons s ss
end
end D8

namespace D8
open PySem PySem.Spec PyProof.Rows L2

/-! ### functions, called where no repr runs -/
/-- what a def keeps: at the level k -/
structure FnG (P : Program) (w : World) (K : PySem.W.Frag) (mg : Str → Option Value) (base : Heap) (k : Nat) (f : Addr) (fd : FuncData) (ps : List Str) (sp : List V → Hp → VK → Prop) : Prop where
  len : ∀ vs H Q, sp vs H Q → vs.length = ps.length
  run : ∀ (A : Around) (up : List Env) (s : Shared) (H : Hp) (args : Args) (us : List Value) (vs : List V) (Q : VK), Room k A → A.guards = some [] → Env0 P w K mg base A up s H →
    BindsTo s fd args (ps.zip us) → Vals vs us → sp vs H Q → codeAny (model P w) A (.call (.ref f) args) (CR CX0 up P w H s Q E0) s
theorem guards_deep {A : Around} {env : Env} (h : A.guards = some []) : (A.deeper env).guards = some [] := by
  first | exact h | (obtain ⟨_, _, _, gs, _⟩ := A; cases h; rfl) | (obtain ⟨_, _, _, gs, _⟩ := A; cases h; simp [Around.deeper])
section
variable {X : Cx} {k : Nat} {f : Addr} {fd : FuncData} {ps : List Str} {sp : List V → Hp → VK → Prop}
theorem FnG.mono {P : Program} {w : World} {K : PySem.W.Frag} {mg : Str → Option Value} {base : Heap} {j k : Nat} (F : FnG P w K mg base j f fd ps sp) (h : j ≤ k) : FnG P w K mg base k f fd ps sp :=
  ⟨F.len, fun A up s H args us vs Q hr => F.run A up s H args us vs Q (hr.mono h)⟩
/-- the called def runs -/
theorem run_g {pins : List (Addr × Obj)} {σ : L2.St} {H : Hp} {s : Shared} {Q : VK} {args : Args} {us : List Value} {vs : List V} (F : FnG X.prog X.w X.K X.mg X.base k f fd ps sp) (hr : Room k X.A) (hg : X.A.guards = some [])
    (hb : BindsTo s fd args (ps.zip us)) (I : Inv X pins σ H s) (r : Vals vs us) (h : sp vs H Q) : codeAny (model X.prog X.w) X.A (.call (.ref f) args) (fun q s' => match q with
      | .ok (.ret u) => EP X pins σ Q u s'
      | .ok _ => False
      | .error e => X.xe e s') s := by
  refine codeAny_mono (F.run X.A X.stack s H args us vs Q hr hg I.env0 hb r h) fun q s' hq => ?_
  rcases q with e | (_ | _ | _ | u)
  · exact False.elim hq
  all_goals first
    | exact I.after hq
    | exact hq
theorem wp_of_code {α : Type} {M : Model} {A : Around} {f : Value} {us : List Value} {kw : List (Str × Value)} {Q E : Value → Shared → Prop} {s : Shared} (h : codeAny M A (.call f ⟨us, kw⟩) (fun q s' => match q with
      | .ok (.ret u) => Q u s'
      | .ok _ => False
      | .error e => E e s') s) : wpAny M A (call f us kw) Q E s := by
  refine wpAny_call (codeAny_mono h fun q s' hq => ?_)
  rcases q with e | (_ | _ | _ | u)
  all_goals exact hq
end
section
variable {P : Program} {w : World} {K : PySem.W.Frag} {mg : Str → Option Value} {base : Heap}
/-- a def keeps what its body keeps -/
theorem fn_ofG {k : Nat} {x qual : Str} {st : Stmt} {f : Addr} {fd : FuncData} {N ps : List Str} {sp : List V → Hp → VK → Prop} (F : Fun K x qual st f fd) (S : FnScope N ps (defScope st)) (len : ∀ vs H Q, sp vs H Q → vs.length = ps.length)
    (body : ∀ (cd : Value) (A : Around) (up : List Env) (s : Shared) (H : Hp) (vs : List V) (Q : VK), Room k (A.deeper (envOfC qual (defScope st) s.heap.objs.size f cd)) → A.guards = some [] → sp vs H Q →
      ∃ t, PSs (cxOf CX0 P w K mg base N qual (defScope st) f cd A up s H E0).nox (defBody st) t ∧ t { nx := fun _ H' => Q .non H', rt := Q } (start N vs) H) : FnG P w K mg base (k + 1) f fd ps sp := by
  obtain ⟨oc, od, kV, doc, pm, an, cd, ct, osl, rfl, lk, hcd⟩ := F.ex
  refine ⟨len, fun A up s H args us vs Q room hgd e0 bnd rv hsp => ?_⟩
  have hlen := len _ _ _ hsp
  have inK : K.In s.heap := e0.mod.kin.keeps fun b o e => (e0.bs b o e).1
  have noLim : s.heap.NoLimit := e0.mod.nolimit.keeps fun b o e => (e0.bs b o e).1
  have kinds : ∀ y ∈ ps.zip us, (defScope st).names.lookup y.1 = some .local ∨ ((defScope st).names.lookup y.1 = some .cell ∧ ((cellsFrom (s.heap.objs.size + 1) (defScope st).names []).lookup y.1).isSome = true) := by
    rintro ⟨n, v⟩ hy
    cases S.par n (List.of_mem_zip hy).1 with
    | inl q => exact .inl q
    | inr q => exact .inr ⟨q, PySem.W.cellsFrom_some _ _ _ (.inl q)⟩
  refine codeAny_call_function room.depth (inK _ _ lk) rfl S.co S.gen rfl (PySem.W.codeRec_of inK hcd) (bnd _ _ _ _ (wpAny_newFunctionEnv_cells S.kind kinds fun env he s1 x => ?_))
  subst he
  refine ⟨noLim.keeps x.toInCall.keep, codeAny_func ?_⟩
  obtain ⟨t, ht, hq⟩ := body cd A up s H vs Q (room.deeper _) hgd hsp
  have I := inv_start (CX := CX0) (E := E0) (f := f) (cd := cd) (qual := qual) S room.hd e0 hlen rv x
  refine wpAny_mono (ht.nox.run [] s1 (start N vs) H _ I hq) (fun fl s' hs => ?_) fun e s' hs => hs
  cases fl with
  | ret u => obtain ⟨v, σ', H', J, rv', q⟩ := hs; exact ⟨v, H', J.os, J.bare, J.base, J.hok, rv', q⟩
  | next => obtain ⟨σ', H', J, q⟩ := hs; exact ⟨V.non, H', J.os, J.bare, J.base, J.hok, rfl, q⟩
  | brk => obtain ⟨_, _, _, q⟩ := hs; exact q.elim
  | cont => obtain ⟨_, _, _, q⟩ := hs; exact q.elim
end

/-! ### the law's end -/
theorem end_call {P : Program} {w : World} {K : PySem.W.Frag} {mg mb : Str → Option Value} {k : Nat} {fa a : Addr} {fd : FuncData} {x : Str} {sp : List V → Hp → VK → Prop} {s : Shared} {vs : List Value} {ns : List Int}
    (inK : K.In s.heap) (hG : s.heap.Ns mainGlobals mg) (hB : s.heap.Ns builtinsNs mb) (hBB : ∀ x : Str, x ≠ "__name__" → mb x = bootBuiltins x) (noLim : s.heap.NoLimit) (noGen : s.gens = #[])
    (ha : s.heap.get? a = some { cls := .type "list", data := .seq vs.toArray }) (hi : IntsAre vs ns) (short : ns.length ≤ sizeLine) (room : Room k callerA)
    (F : ∀ base : Heap, K.In base → base.Ns mainGlobals mg → FnG P w K mg base k fa fd [x] sp) (bnd : ∀ (s : Shared) (u : Value), BindsTo s fd ⟨[u], []⟩ [(x, u)])
    (hsp : ∀ H : Hp, Only H → LsA K H a (ns.map V.int) → sp [.ref a] H fun v _ => v = .bl true) :
    codeAny (model P w) callerA (.call (.ref fa) ⟨[.ref a], []⟩) (fun r s' => r = .ok (.ret (.bool true)) ∧ OldK s.heap s'.heap ∧ s'.os = s.os ∧ AllBare s'.gens) s := by
  have rv := vals_ints hi
  have lenV := hi.length
  suffices core : ∀ H : Hp, Only H → LsA K H a (ns.map V.int) → HOk P w H s.heap → (∀ b, H b ≠ none → b = a ∧ K.lookup a = none) → codeAny (model P w) callerA (.call (.ref fa) ⟨[.ref a], []⟩) (fun r s' => r = .ok (.ret (.bool true)) ∧ OldK s.heap s'.heap ∧ s'.os = s.os ∧ AllBare s'.gens) s by
    cases hk : K.lookup a with
    | some o =>
      have e := inK a o hk
      rw [ha] at e
      cases e
      exact core (fun _ => none) (fun _ => .inl rfl) (.inr ⟨vs.toArray, _, hk, by rw [List.size_toArray, lenV]; exact short, by simpa using rv⟩) (fun b u (z : (none : Option HO) = some u) => by cases z) fun b z => absurd rfl z
    | none =>
      refine core (fun b => if b = a then some (.frz { cls := .type "list", data := .seq vs.toArray } (.lst (ns.map V.int))) else none) (fun b => ?_) (.inl (.inr ⟨{ cls := .type "list", data := .seq vs.toArray }, if_pos rfl⟩)) (fun b u (z : (if b = a then _ else none) = some u) => ?_) fun b z => ⟨Classical.byContradiction fun n => z (if_neg n), hk⟩
      · by_cases e : b = a
        · exact .inr ⟨_, _, if_pos e⟩
        · exact .inl (if_neg e)
      · split at z
        · next e =>
          cases z; subst e
          exact ⟨ha, by rw [List.length_map]; exact short, vs, _, rv, ha⟩
        · cases z
  intro H only hS hok atA
  have bs : ∀ {b : Addr} {o : Obj}, s.heap.get? b = some o → H b = none → (hidT s.heap H).get? b = some o := fun e n => hidT_get e n
  have free : ∀ {b : Addr} {o : Obj} {es : Array DictEntry} {ep : Nat}, s.heap.get? b = some o → o.data = .dict es ep → H b = none := by
    intro b o es ep e d
    cases q : H b with
    | none => rfl
    | some u =>
      obtain ⟨rfl, _⟩ := atA b (by rw [q]; simp)
      rw [ha] at e; cases e; cases d
  have ns' : ∀ {b : Addr} {m : Str → Option Value}, s.heap.Ns b m → (hidT s.heap H).Ns b m := fun {b m} ⟨o, es, ep, e, d, r⟩ => ⟨o, es, ep, bs e (free e d), d, r⟩
  have kb : K.In (hidT s.heap H) := by
    intro b o e
    refine bs (inK b o e) ?_
    cases q : H b with
    | none => rfl
    | some u =>
      obtain ⟨rfl, n⟩ := atA b (by rw [q]; simp)
      rw [n] at e; cases e
  have e0 : Env0 P w K mg (hidT s.heap H) callerA [] s H :=
    ⟨rfl, ⟨kb, ns' hG, ⟨mb, ns' hB, hBB⟩, let ⟨mc, h1, h2⟩ := noLim; ⟨mc, ns' h1, h2⟩⟩, fun b o e => of_hidT e, Nat.le_of_eq (hidT_size _ _), trivial, fun b hb => absurd hb (List.not_mem_nil), hok, .of_eq noGen⟩
  refine codeAny_mono ((F _ kb (ns' hG)).run callerA [] s H ⟨[.ref a], []⟩ [.ref a] [.ref a] _ room rfl e0 (bnd s (.ref a)) (.cons rfl .nil) (hsp H only hS)) fun r s' hq => ?_
  rcases r with e | (_ | _ | _ | u)
  · exact False.elim hq
  all_goals first
    | exact False.elim hq
    | skip
  obtain ⟨v, H', os, bare, un, hok', r', q⟩ := hq
  obtain rfl : v = .bl true := q
  obtain rfl : u = Value.bool true := r'
  refine ⟨rfl, OldK.of_keep fun b o e => ?_, os, bare⟩
  cases q : H b with
  | none => exact un.keep b o e q List.not_mem_nil List.not_mem_nil
  | some u =>
    cases only b with
    | inl z => rw [q] at z; cases z
    | inr z =>
      obtain ⟨ob, xs, z⟩ := z
      have e1 := (hok b _ z).1
      have e2 := (hok' b _ (un.frzs b ob _ z)).1
      rw [e] at e1; cases e1
      exact e2
theorem end_law {l : PySem.W.OpenLaw} {n k : Nat} {q : Program} {loose : List Str} {XP : (Str → Option Value) → Heap → Prop} {YP : World → Heap → Prop} {d : DefRec} {K : Params → PySem.W.Frag} {sp : World → List V → Hp → VK → Prop} {x : Str}
    (hn : l.most = some n) (hn2 : n ≤ sizeLine) (hdf : d.params.defaults = []) (room : Room k callerA) (hY : ∀ (w : World) (h : Heap), YP w h → (K w.params).In h)
    (F : ∀ (w : World) (mg : Str → Option Value) (fa : Addr) (h : Heap), (K w.params).In h → h.Ns mainGlobals mg → mg d.name = some (.ref fa) →
      ∃ fd : FuncData, (∀ (s : Shared) (u : Value), BindsTo s fd ⟨[u], []⟩ [(x, u)]) ∧ ∀ base : Heap, (K w.params).In base → base.Ns mainGlobals mg → FnG l.prog w (K w.params) mg base k fa fd [x] (sp w))
    (hsp : ∀ (w : World) (H : Hp) (a : Addr) (ns : List Int), ns.length ≤ n → (∀ z ∈ ns, Builtin.Int.intBits z ≤ 1048576) → Only H → LsA (K w.params) H a (ns.map V.int) → sp w [.ref a] H fun v _ => v = .bl true) :
    PySem.W.WalkO q loose XP YP l.row.toRowW d [] (fun f vs => PySem.call f vs) := by
  refine Att.attach_callB hn hdf fun w _ s mg mb fa o pm cd doc a vs ns G Y _ _ _ hmg hobj hints hlen hbits hg => ?_
  obtain ⟨fd, hb, hF⟩ := F w mg fa _ (hY w _ Y) G.T.g hmg
  exact end_call (hY w _ Y) G.T.g G.T.b G.T.builtins G.T.nolimit hg hobj hints (Nat.le_trans hlen hn2) room hF hb fun H hO hS => hsp w H a ns hlen hbits hO hS
end D8

namespace D8
open PySem PySem.Spec PyProof.Rows L2

/-! ### by values -/
section
variable (K : PySem.W.Frag)
inductive PKs (S : Addr → Prop) (H : Hp) : List V → List M → Prop
  | nil : PKs S H [] []
  | cons {v : V} {vs : List V} {m : M} {ms : List M} {o : List Addr} : RM K S H v m o → PKs S H vs ms → PKs S H (v :: vs) (m :: ms)
/-- what is new: frozen, or owned by whoever asked -/
def NewR (S : Addr → Prop) (H H' : Hp) (v : V) (m : M) : Prop :=
  (∃ d, m = .im d ∧ RV K S H' v d) ∨ ∃ os : List Addr, (∀ S' : Addr → Prop, (∀ a, H a = none → a ∉ os → S' a) → (∀ a, S a → a ∉ os → S' a) → RM K S' H' v m os) ∧ os.Nodup ∧ ∀ a ∈ os, H a = none
def rP (f : List M → Option M) : List V → Hp → VK → Prop := fun xs H Q => ∃ (S : Addr → Prop) (ms : List M) (m : M), (∀ p, H p = none → S p) ∧ PKs K S H xs ms ∧ f ms = some m ∧ ∀ v H', Same H H' → NewR K S H H' v m → Q v H'
end
section
variable {K : PySem.W.Frag} {S : Addr → Prop} {H : Hp}
theorem PKs.two {x y : V} {m n : M} (h : PKs K S H [x, y] [m, n]) : (∃ o, RM K S H x m o) ∧ ∃ o, RM K S H y n o := by
  cases h with
  | cons h1 r => cases r with
    | cons h2 _ => exact ⟨⟨_, h1⟩, _, h2⟩
theorem PKs.one {x : V} {m : M} (h : PKs K S H [x] [m]) : ∃ o, RM K S H x m o := by
  cases h with
  | cons h1 r => exact ⟨_, h1⟩
theorem PKs.three {x y z : V} {m n l : M} (h : PKs K S H [x, y, z] [m, n, l]) : (∃ o, RM K S H x m o) ∧ (∃ o, RM K S H y n o) ∧ ∃ o, RM K S H z l o := by
  cases h with
  | cons h1 r => cases r with
    | cons h2 r => cases r with
      | cons h3 _ => exact ⟨⟨_, h1⟩, ⟨_, h2⟩, _, h3⟩
theorem PKs.length : ∀ {xs : List V} {ms : List M}, PKs K S H xs ms → xs.length = ms.length
  | _, _, .nil => rfl
  | _, _, .cons _ r => congrArg (· + 1) (PKs.length r)
theorem NewR.im {v : V} {d : PyData} {H' : Hp} (h : RV K S H' v d) : NewR K S H H' v (.im d) := .inl ⟨d, rfl, h⟩
theorem Same.upd {p : Addr} {o : HO} (h : H p = none) : Same H (upd H p o) := fun b x e => by rw [upd_ne (ne_of_none e h)]; exact e
/-- a new list of data -/
theorem NewR.lst {p : Addr} {vs : List V} {ds : List PyData} (h : H p = none) (r : RVs K S H vs ds) (hS : ∀ p, H p = none → S p) : NewR K S H (L2.upd H p (.lst vs)) (.ref p) (mList ds) := by
  refine .inr ⟨[p], fun S' h1 h2 => .ml (os := []) upd_same (RMs.of_ims (r.kp ⟨fun a o e _ => Same.upd h a o e, fun a o e _ => Same.upd h a o e, fun a o e s => h2 a s fun z => ?_⟩)), by simp, fun a ha => ?_⟩
  · simp at z; subst z; rw [h] at e; cases e
  · simp at ha; subst ha; exact h
theorem NewR.tup {p : Addr} {o : Obj} {vs : List V} {ds : List PyData} (h : H p = none) (ho : o.dict = none) (r : RVs K S H vs ds) : NewR K S H (L2.upd H p (tupO o vs)) (.ref p) (.im (.tuple ds)) :=
  .inl ⟨_, rfl, .tup (tupO_sq upd_same) (tupO_no upd_same ho) (r.kp ⟨fun a o e _ => Same.upd h a o e, fun a o e _ => Same.upd h a o e, fun _ _ _ s => s⟩)⟩
/-! what stands where -/
theorem RM.toInt {v : V} {i : Int} {o : List Addr} (h : RM K S H v (.im (.int i)) o) : v = .int i := by cases h with | im h => cases h; rfl
theorem RM.toBl {v : V} {i : Bool} {o : List Addr} (h : RM K S H v (.im (.bool i)) o) : v = .bl i := by cases h with | im h => cases h; rfl
theorem RM.toStr {v : V} {i : Str} {o : List Addr} (h : RM K S H v (.im (.str i)) o) : v = .str i := by cases h with | im h => cases h; rfl
theorem RM.toNon {v : V} {o : List Addr} (h : RM K S H v (.im .none) o) : v = .non := by cases h with | im h => cases h; rfl
theorem RM.toTupN {v : V} {ds : List PyData} {o : List Addr} (h : RM K S H v (.im (.tuple ds)) o) : ∃ a xs, v = .ref a ∧ SqT K H a xs ∧ NoD K H a ∧ RVs K S H xs ds := by
  cases h with | im h => cases h with | tup h n r => exact ⟨_, _, rfl, h, n, r⟩
theorem RM.toTup {v : V} {ds : List PyData} {o : List Addr} (h : RM K S H v (.im (.tuple ds)) o) : ∃ a xs, v = .ref a ∧ SqT K H a xs ∧ RVs K S H xs ds := by
  cases h with | im h => cases h with | tup h n r => exact ⟨_, _, rfl, h, r⟩
theorem RM.toLst {v : V} {m : M} {ds : List PyData} {o : List Addr} (h : RM K S H v m o) (e : m.lst? = some ds) : ∃ a xs, v = .ref a ∧ LsA K H a xs ∧ RVs K S H xs ds := by
  cases h with
  | im h => cases h with
    | lst h r => cases e; exact ⟨_, _, rfl, h.a, r⟩
    | _ => cases e
  | ml h r => obtain ⟨r', _⟩ := r.ims e; exact ⟨_, _, rfl, .inl (.inl h), r'⟩
  | md _ _ => cases e
theorem RM.toSeqN {v : V} {m : M} {ds : List PyData} {o : List Addr} (h : RM K S H v m o) (e : m.seq? = some ds) : ∃ a xs, v = .ref a ∧ (LsA K H a xs ∨ (SqT K H a xs ∧ NoD K H a)) ∧ RVs K S H xs ds := by
  cases h with
  | im h => cases h with
    | lst h r => cases e; exact ⟨_, _, rfl, .inl h.a, r⟩
    | tup h n r => cases e; exact ⟨_, _, rfl, .inr ⟨h, n⟩, r⟩
    | _ => cases e
  | ml h r => obtain ⟨r', _⟩ := r.ims e; exact ⟨_, _, rfl, .inl (.inl (.inl h)), r'⟩
  | md _ _ => cases e
theorem RM.toSeq {v : V} {m : M} {ds : List PyData} {o : List Addr} (h : RM K S H v m o) (e : m.seq? = some ds) : ∃ a xs, v = .ref a ∧ (LsA K H a xs ∨ SqT K H a xs) ∧ RVs K S H xs ds := by
  cases h with
  | im h => cases h with
    | lst h r => cases e; exact ⟨_, _, rfl, .inl h.a, r⟩
    | tup h n r => cases e; exact ⟨_, _, rfl, .inr h, r⟩
    | _ => cases e
  | ml h r => obtain ⟨r', _⟩ := r.ims e; exact ⟨_, _, rfl, .inl (.inl (.inl h)), r'⟩
  | md _ _ => cases e
end

/-! ### operands -/
inductive OpR (σ : L2.St) : List V → List Op → List V → List M → Prop
  | nil : OpR σ [] [] [] []
  | sl {i : Nat} {v : V} {vs : List V} {os : List Op} {U : List V} {Um : List M} : σ[i]? = some (some v) → OpR σ vs os U Um → OpR σ (v :: vs) (.sl i :: os) U Um
  | tm {m : M} {v : V} {vs : List V} {os : List Op} {U : List V} {Um : List M} : OpR σ vs os U Um → OpR σ (v :: vs) (.tm m :: os) (v :: U) (m :: Um)
section
variable {K : PySem.W.Frag} {F : Hp} {Xs : List Addr} {H H' : Hp} {σ : L2.St} {env : EnvM} {T U : List V} {Tm Um : List M} {O1 O2 : List Addr}
theorem OpR.lenU : ∀ {xs : List V} {ops : List Op} {U : List V} {Um : List M}, D8.OpR σ xs ops U Um → U.length = Um.length
  | _, _, _, _, .nil => rfl
  | _, _, _, _, .sl _ r => OpR.lenU r
  | _, _, _, _, .tm r => congrArg (· + 1) (OpR.lenU r)
theorem slot_some {i : Nat} {m : M} (h : slot env i = some m) : env[i]? = some (some m) := by
  unfold slot at h
  cases e : env[i]? with
  | none => rw [e] at h; cases h
  | some c => rw [e] at h; exact congrArg some h
theorem Gd.slot (g : Gd K F Xs H σ env T Tm O1 O2) {i : Nat} {m : M} (h : slot env i = some m) : ∃ v o, σ[i]? = some (some v) ∧ RM K (Sx (O1 ++ O2) Xs) H v m o := by
  obtain ⟨u, o, h1, h2, _⟩ := g.at (slot_some h)
  cases h2 with
  | so r => exact ⟨_, _, h1, r⟩
theorem Gd.peek (g : Gd K F Xs H σ env T Tm O1 O2) : ∀ {xs : List V} {ops : List Op} {U : List V} {Um : List M} {ms : List M} {o : List Addr}, D8.OpR σ xs ops U Um → RMs K (Sx (O1 ++ O2) Xs) H U Um o → peek env ops = some ms → PKs K (Sx (O1 ++ O2) Xs) H xs ms
  | _, _, _, _, _, _, .nil, _, e => by cases e; exact .nil
  | _, _, _, _, _, _, .sl (i := i) hv r, ru, e => by
    simp only [D8.peek, bsi, msi] at e
    obtain ⟨m, h1, ms, h2, rfl⟩ := e
    obtain ⟨v', o, h3, h4⟩ := g.slot h1
    rw [hv] at h3; cases h3
    exact .cons h4 (Gd.peek g r ru h2)
  | _, _, _, _, _, _, .tm r, .cons h ru, e => by
    simp only [D8.peek, msi] at e
    obtain ⟨ms, h2, rfl⟩ := e
    exact .cons h (Gd.peek g r ru h2)
theorem Gd.newR (g : Gd K F Xs H σ env T Tm O1 O2) (sm : Same H H') {v : V} {m : M} (n : NewR K (Sx (O1 ++ O2) Xs) H H' v m) : Good K F Xs H' σ env (v :: T) (m :: Tm) := by
  rcases n with ⟨d, rfl, h⟩ | ⟨os, h, hn, hf⟩
  · exact ((g.same sm).push h).good
  · exact (g.pushO sm h hn hf).good
/-- a primitive at the operands -/
theorem Good.prim {f : List M → Option M} {xs : List V} {ops : List Op} {ms : List M} {m : M} (g : Good K F Xs H σ env (U ++ T) (Um ++ Tm)) (r : D8.OpR σ xs ops U Um) (e : peek env ops = some ms) (ef : f ms = some m) {Q : VK}
    (h : ∀ v H', Good K F Xs H' σ env (v :: T) (m :: Tm) → Q v H') : rP K f xs H Q := by
  obtain ⟨O1, O2, g⟩ := g
  obtain ⟨v1, v2, o1, o2, e1, rfl, r1, r2⟩ := g.rt.split
  obtain ⟨rfl, rfl⟩ := List.append_inj e1 (r.lenU.trans r1.length.symm)
  refine ⟨Sx (O1 ++ (o1 ++ o2)) Xs, ms, m, fun p hp => g.freshS hp, g.peek r r1 e, ef, fun v H' sm n => h v H' ?_⟩
  have g' : Good K F Xs H' σ env (v :: (U ++ T)) (m :: (Um ++ Tm)) := g.newR sm n
  have p2 := Good.mid (K := K) (U := []) (Um := []) rfl g'
  -- drop the operands below
  obtain ⟨P1, P2, q⟩ := g'
  cases q.rt with
  | @cons _ _ _ _ oa ob hv hr =>
    obtain ⟨w1, w2, q1, q2, f1, rfl, s1, s2⟩ := hr.split
    obtain ⟨rfl, rfl⟩ := List.append_inj f1 (r.lenU.trans s1.length.symm)
    have perm : (q1 ++ (oa ++ q2)).Perm (oa ++ (q1 ++ q2)) := by
      rw [← List.append_assoc, ← List.append_assoc]; exact List.Perm.append_right _ List.perm_append_comm
    exact (q.permT (T' := U ++ v :: T) (Tm' := Um ++ m :: Tm) perm (s1.append (.cons hv s2))).popN r.lenU
end

/-! ### readings -/
/-- one operand -/
def evalO (Γ : Gam) (e : E) (env : EnvM) : Option (Op × EnvM) :=
  match e with
  | .nm i => (slot env i).map fun _ => (.sl i, env)
  | e => (evalE Γ e env).map fun r => (.tm r.1, r.2)
theorem evalOs_cons (Γ : Gam) (e : E) (es : Es) (env : EnvM) : evalOs Γ (.cons e es) env = (evalO Γ e env).bind fun r => (evalOs Γ es r.2).map fun q => (r.1 :: q.1, q.2) := by
  cases e <;> simp only [evalOs, evalO, Option.bind_map, Option.bind_map, Function.comp_def]
section
variable (K : PySem.W.Frag) (Γ : Gam)
def TEe (e : E) : TE := fun σ H Q => ∃ F Xs T Tm env m env', Good K F Xs H σ env T Tm ∧ evalE Γ e env = some (m, env') ∧ ∀ v H', Good K F Xs H' σ env' (v :: T) (m :: Tm) → Q v H'
def TOe (e : E) : TE := fun σ H Q => ∃ F Xs T Tm env o env', Good K F Xs H σ env T Tm ∧ evalO Γ e env = some (o, env') ∧ ∀ v H' U Um, D8.OpR σ [v] [o] U Um → Good K F Xs H' σ env' (U ++ T) (Um ++ Tm) → Q v H'
def TTe (e : E) : TT := fun σ H Q => ∃ F Xs T Tm env b env', Good K F Xs H σ env T Tm ∧ evalT Γ e env = some (b, env') ∧ ∀ H', Good K F Xs H' σ env' T Tm → Q b H'
def TVs (es : Es) : TA := fun σ H Q => ∃ F Xs T Tm env ms env', Good K F Xs H σ env T Tm ∧ evalVs Γ es env = some (ms, env') ∧ ∀ vs H', vs.length = ms.length → Good K F Xs H' σ env' (vs ++ T) (ms ++ Tm) → Q vs H'
def TOs (es : Es) : TA := fun σ H Q => ∃ F Xs T Tm env ops env', Good K F Xs H σ env T Tm ∧ evalOs Γ es env = some (ops, env') ∧ ∀ xs H' U Um, D8.OpR σ xs ops U Um → Good K F Xs H' σ env' (U ++ T) (Um ++ Tm) → Q xs H'
end
theorem PE.weak {X : Cx} {e : Expr} {t t' : TE} (h : PE X e t) (w : ∀ σ H Q, t' σ H Q → t σ H Q) : PE X e t' := ⟨fun pins s σ H Q I q => h.run pins s σ H Q I (w σ H Q q)⟩
theorem PT.weak {X : Cx} {e : Expr} {t t' : TT} (h : PT X e t) (w : ∀ σ H Q, t' σ H Q → t σ H Q) : PT X e t' := ⟨fun pins s σ H Q I q => h.run pins s σ H Q I (w σ H Q q)⟩
theorem PA.weak {X : Cx} {e : List Expr} {t t' : TA} (h : PA X e t) (w : ∀ σ H Q, t' σ H Q → t σ H Q) : PA X e t' := ⟨fun pos pins s σ H Q I q => h.run pos pins s σ H Q I (w σ H Q q)⟩
theorem PS.weak {X : Cx} {e : Stmt} {t t' : TS} (h : PS X e t) (w : ∀ D σ H, t' D σ H → t D σ H) : PS X e t' := ⟨fun pins s σ H D I q => h.run pins s σ H D I (w D σ H q)⟩
theorem PSs.weak {X : Cx} {e : List Stmt} {t t' : TS} (h : PSs X e t) (w : ∀ D σ H, t' D σ H → t D σ H) : PSs X e t' := ⟨fun pins s σ H D I q => h.run pins s σ H D I (w D σ H q)⟩
section
variable {K : PySem.W.Frag} {Γ : Gam} {X : Cx}
/-- an operand, from the value -/
theorem TOe_of {e : E} (ne : ∀ i, e ≠ .nm i) (σ : L2.St) (H : Hp) (Q : VK) (h : TOe K Γ e σ H Q) : TEe K Γ e σ H Q := by
  obtain ⟨F, Xs, T, Tm, env, o, env', g, ev, q⟩ := h
  have h2 : (evalE Γ e env).map (fun r => (Op.tm r.1, r.2)) = some (o, env') := by
    unfold evalO at ev
    cases e with
    | nm i => exact absurd rfl (ne i)
    | _ => exact ev
  rw [msi] at h2
  obtain ⟨⟨m, env1⟩, h3, h4⟩ := h2
  cases h4
  exact ⟨F, Xs, T, Tm, env, m, env1, g, h3, fun v H' g' => q v H' [v] [m] (.tm .nil) g'⟩
/-- argument lists -/
theorem pa_V_nil : PA X [] (TVs X.K Γ .nil) := PA.weak pa_nil fun σ H Q ⟨F, Xs, T, Tm, env, ms, env', g, ev, q⟩ => by
  simp only [evalVs, Option.some.injEq, Prod.mk.injEq] at ev
  obtain ⟨rfl, rfl⟩ := ev
  exact q [] H rfl g
theorem pa_V_cons {e : Expr} {es : List Expr} {E' : E} {Es' : Es} (h : PE X e (TEe X.K Γ E')) (hs : PA X es (TVs X.K Γ Es')) (st : starEach (e :: es) X.env = (false, eval e X.env) :: starEach es X.env) : PA X (e :: es) (TVs X.K Γ (.cons E' Es')) := by
  refine PA.weak (pa_cons h hs st) fun σ H Q ⟨F, Xs, T, Tm, env, ms, env', g, ev, q⟩ => ?_
  simp only [evalVs, bsi, msi] at ev
  obtain ⟨⟨m, env1⟩, h1, ⟨ns, env2⟩, h2, h3⟩ := ev
  cases h3
  refine ⟨F, Xs, T, Tm, env, m, env1, g, h1, fun v H1 g1 => ⟨F, Xs, v :: T, m :: Tm, env1, ns, env2, g1, h2, fun vs H2 hl g2 => ?_⟩⟩
  exact q (v :: vs) H2 (by simp [hl]) (g2.mid hl)
theorem OpR.append1 {σ : L2.St} {v : V} {o : Op} {xs : List V} {os : List Op} {U1 U : List V} {Um1 Um : List M} (h : D8.OpR σ [v] [o] U1 Um1) (r : D8.OpR σ xs os U Um) : D8.OpR σ (v :: xs) (o :: os) (U1 ++ U) (Um1 ++ Um) := by
  cases h with
  | sl h1 h2 => cases h2; exact .sl h1 r
  | tm h2 => cases h2; exact .tm r
theorem pa_O_nil : PA X [] (TOs X.K Γ .nil) := PA.weak pa_nil fun σ H Q ⟨F, Xs, T, Tm, env, ms, env', g, ev, q⟩ => by
  simp only [evalOs, Option.some.injEq, Prod.mk.injEq] at ev
  obtain ⟨rfl, rfl⟩ := ev
  exact q [] H [] [] .nil g
theorem pa_O_cons {e : Expr} {es : List Expr} {E' : E} {Es' : Es} (h : PE X e (TOe X.K Γ E')) (hs : PA X es (TOs X.K Γ Es')) (st : starEach (e :: es) X.env = (false, eval e X.env) :: starEach es X.env) : PA X (e :: es) (TOs X.K Γ (.cons E' Es')) := by
  refine PA.weak (pa_cons h hs st) fun σ H Q ⟨F, Xs, T, Tm, env, ms, env', g, ev, q⟩ => ?_
  rw [evalOs_cons] at ev
  simp only [bsi, msi] at ev
  obtain ⟨⟨o, env1⟩, h1, ⟨os, env2⟩, h2, h3⟩ := ev
  cases h3
  refine ⟨F, Xs, T, Tm, env, o, env1, g, h1, fun v H1 U1 Um1 r1 g1 => ⟨F, Xs, U1 ++ T, Um1 ++ Tm, env1, os, env2, g1, h2, fun xs H2 U Um r g2 => ?_⟩⟩
  refine q (v :: xs) H2 (U1 ++ U) (Um1 ++ Um) (r1.append1 r) ?_
  cases r1 with
  | sl h1 h2 => cases h2; exact g2
  | tm h2 => cases h2; exact g2.mid r.lenU
end
end D8

namespace D8
open PySem PySem.Spec PyProof.Rows L2
section
variable {K : PySem.W.Frag} {F : Hp} {Xs : List Addr} {H H' : Hp} {σ : L2.St} {env : EnvM} {T U : List V} {Tm Um : List M} {O1 O2 : List Addr}
theorem Good.same (g : Good K F Xs H σ env T Tm) (h : Same H H') : Good K F Xs H' σ env T Tm := let ⟨_, _, g⟩ := g; (g.same h).good
/-! ### seen as frozen -/
theorem RE.frz {S : Addr → Prop} : ∀ {x : L2.St} {y : EnvM} {o : List Addr}, RE K S H x y o → RE K (Sx [] []) H x (frzE y) []
  | _, _, _, .nil => .nil
  | _, _, _, .cons (.no) r => .cons (o := []) .no (RE.frz r)
  | _, _, _, .cons (.so h) r => .cons (o := []) (.so (.im (h.fz (fun _ _ _ _ => ⟨List.not_mem_nil, List.not_mem_nil⟩) fun _ _ => ⟨List.not_mem_nil, List.not_mem_nil⟩))) (RE.frz r)
theorem Good.frz (g : Good K F Xs H σ env T Tm) : Good K H [] H σ (frzE env) [] [] := by
  obtain ⟨O1, O2, g⟩ := g
  exact ⟨[], [], List.nodup_nil, g.re.frz, .nil, fun _ _ e => e, fun _ h => absurd h List.not_mem_nil, fun _ h => absurd h List.not_mem_nil⟩
/-- a quiet value -/
def TQe (K : PySem.W.Frag) (Γ : Gam) (e : E) : TE := fun σ H Q => ∃ F Xs T Tm env m env', Good K F Xs H σ env T Tm ∧ evalE Γ e (frzE env) = some (m, env') ∧ ∀ v H', Same H H' → Good K F Xs H' σ env T Tm → RV K Any H' v m.fz → Q v H'
theorem TEe_quiet {Γ : Gam} {e : E} (σ : L2.St) (H : Hp) (Q : VK) (h : TQe K Γ e σ H Q) : TEe K Γ e σ H Q := by
  obtain ⟨F, Xs, T, Tm, env, m, env', g, ev, q⟩ := h
  refine ⟨H, [], [], [], frzE env, m, env', g.frz, ev, fun v H' g' => ?_⟩
  obtain ⟨P1, P2, g'⟩ := g'
  cases g'.rt with
  | cons hv _ => exact q v H' g'.frame (g.same g'.frame) hv.any
/-! ### slots -/
theorem set_self {i : Nat} {u : Option V} (h : σ[i]? = some u) : σ.set i u = σ := by
  apply List.ext_getElem?
  intro j
  by_cases e : i = j
  · subst e
    rw [List.getElem?_set_self (List.getElem?_eq_some_iff.mp h).1, h]
  · rw [List.getElem?_set_ne e]
theorem Good.freeze (g : Good K F Xs H σ env T Tm) {i : Nat} {m : M} (h : slot env i = some m) : ∃ v, σ[i]? = some (some v) ∧ Good K F Xs H σ (env.set i (some (.im m.fz))) (v :: T) (.im m.fz :: Tm) := by
  obtain ⟨O1, O2, g⟩ := g
  obtain ⟨u, o, h1, h2, h3, h4⟩ := g.at (slot_some h)
  cases h2 with
  | @so v _ _ r =>
    have g2 := h4 H (some v) (some (.im m.fz)) [] (fun _ _ e _ => e) List.nodup_nil (fun _ h => absurd h List.not_mem_nil) fun S' k _ ks => .so (.im (r.fz (fun a x e s => k.ok a x e s) fun a ha => ks a ha List.not_mem_nil))
    rw [set_self h1] at g2
    obtain ⟨P1, P2, g2⟩ := g2
    have hi : i < env.length := (List.getElem?_eq_some_iff.mp (slot_some h)).1
    obtain ⟨v2, o2, e1, e2⟩ := g2.slot (i := i) (m := .im m.fz) (by unfold slot; rw [List.getElem?_set_self hi]; rfl)
    rw [h1] at e1; cases e1
    cases e2 with
    | im rv => exact ⟨v, h1, (g2.push rv).good⟩
/-- a temporary goes to a slot -/
theorem Good.set {v : V} {m : M} {i : Nat} (g : Good K F Xs H σ env (v :: T) (m :: Tm)) (hi : i < env.length) : Good K F Xs H (σ.set i (some v)) (env.set i (some m)) T Tm := by
  obtain ⟨O1, O2, g⟩ := g
  obtain ⟨c, hc⟩ : ∃ c, env[i]? = some c := ⟨env[i], List.getElem?_eq_getElem hi⟩
  obtain ⟨u, o1, o, o2, rfl, h1, h2, h3⟩ := g.re.at hc
  have nd := g.nd
  have ds := g.dis
  cases g.rt with
  | @cons _ _ _ _ ot O2 hv hr =>
    have sub : ∀ a ∈ o1 ++ (ot ++ o2) ++ O2, a ∈ o1 ++ (o ++ o2) ++ (ot ++ O2) := fun a ha => by
      simp only [List.mem_append] at ha ⊢
      rcases ha with (z | z | z) | z <;> simp [z]
    have hk : Kp (Sx (o1 ++ (o ++ o2) ++ (ot ++ O2)) Xs) (Sx (o1 ++ (ot ++ o2) ++ O2) Xs) H H := .same (.refl _) (Sx.mono sub)
    refine ⟨o1 ++ (ot ++ o2), O2, ?_, h3 _ _ _ _ _ hk (fun _ _ => rfl) (.so (hv.kp hk fun _ _ => rfl)), hr.kp hk fun _ _ => rfl, g.frame, fun a ha => ds a (sub a ha), g.xs⟩
    simp only [List.nodup_append, List.mem_append] at nd ⊢
    obtain ⟨⟨n1, ⟨n2, n3, n4⟩, n5⟩, ⟨n6, n7, n8⟩, n9⟩ := nd
    refine ⟨⟨n1, ⟨n6, n3, fun a ha b hb e => n9 b (.inr (.inr hb)) a (.inl ha) e.symm⟩, fun a ha b hb e => ?_⟩, n7, fun a ha b hb e => ?_⟩
    · rcases hb with hb | hb
      · exact n9 a (.inl ha) b (.inl hb) e
      · exact n5 a ha b (.inr hb) e
    · rcases ha with ha | ha | ha
      · exact n9 a (.inl ha) b (.inr hb) e
      · exact n8 a ha b hb e
      · exact n9 a (.inr (.inr ha)) b (.inr hb) e
/-- a slot's content becomes a temporary -/
theorem Good.move (g : Good K F Xs H σ env T Tm) {i : Nat} {m : M} (h : slot env i = some m) : ∃ v, σ[i]? = some (some v) ∧ Good K F Xs H σ (env.set i none) (v :: T) (m :: Tm) := by
  obtain ⟨O1, O2, g⟩ := g
  obtain ⟨u, o1, o, o2, rfl, h1, h2, h3⟩ := g.re.at (slot_some h)
  have nd := g.nd
  have ds := g.dis
  cases h2 with
  | @so v _ _ r =>
    refine ⟨v, h1, ?_⟩
    have sub : ∀ a, a ∈ o1 ++ ([] ++ o2) ++ (o ++ O2) → a ∈ o1 ++ (o ++ o2) ++ O2 := fun a ha => by
      simp only [List.mem_append, List.nil_append] at ha ⊢
      rcases ha with (z | z) | z | z <;> simp [z]
    have hk : Kp (Sx (o1 ++ (o ++ o2) ++ O2) Xs) (Sx (o1 ++ ([] ++ o2) ++ (o ++ O2)) Xs) H H := .same (.refl _) (Sx.mono sub)
    have re := h3 _ H (some v) none [] hk (fun _ _ => rfl) .no
    rw [set_self h1] at re
    refine ⟨o1 ++ ([] ++ o2), o ++ O2, ?_, re, .cons (r.kp hk fun _ _ => rfl) (g.rt.kp hk fun _ _ => rfl), g.frame, fun a ha => ds a (sub a ha), g.xs⟩
    simp only [List.nodup_append, List.mem_append, List.nil_append] at nd ⊢
    obtain ⟨⟨n1, ⟨n2, n3, n4⟩, n5⟩, n6, n7⟩ := nd
    refine ⟨⟨n1, n3, fun a ha b hb e => n5 a ha b (.inr hb) e⟩, ⟨n2, n6, fun a ha b hb e => n7 a (.inr (.inl ha)) b hb e⟩, fun a ha b hb e => ?_⟩
    rcases ha with ha | ha <;> rcases hb with hb | hb
    · exact n5 a ha b (.inl hb) e
    · exact n7 a (.inl ha) b hb e
    · exact n4 b hb a ha e.symm
    · exact n7 a (.inr (.inr ha)) b hb e
/-- a slot is forgotten -/
theorem Good.forget (g : Good K F Xs H σ env T Tm) (i : Nat) (u : Option V) : Good K F Xs H (σ.set i u) (env.set i none) T Tm := by
  by_cases hi : i < env.length
  · obtain ⟨O1, O2, g⟩ := g
    obtain ⟨c, hc⟩ : ∃ c, env[i]? = some c := ⟨env[i], List.getElem?_eq_getElem hi⟩
    obtain ⟨u0, o, h1, h2, h3, h4⟩ := g.at hc
    exact h4 H u none [] (fun _ _ e _ => e) List.nodup_nil (fun _ h => absurd h List.not_mem_nil) fun S' k _ _ => .no
  · have hl : σ.length = env.length := by obtain ⟨_, _, g⟩ := g; exact g.re.length
    rw [List.set_eq_of_length_le (by omega), List.set_eq_of_length_le (by omega)]
    exact g
theorem Good.len (g : Good K F Xs H σ env T Tm) : σ.length = env.length := by obtain ⟨_, _, g⟩ := g; exact g.re.length
/-- the temporaries at the top are replaced, the heap being changed at what they own -/
theorem Gd.blk {U : List V} {Um : List M} (g : Gd K F Xs H σ env (U ++ T) (Um ++ Tm) O1 O2) (hl : U.length = Um.length) : ∃ o o2, O2 = o ++ o2 ∧ RMs K (Sx (O1 ++ O2) Xs) H U Um o ∧
    ∀ (H' : Hp) (U' : List V) (Um' : List M) (o' : List Addr), (∀ a x, H a = some x → a ∉ o → H' a = some x) → o'.Nodup → (∀ a ∈ o', a ∈ o ∨ H a = none) →
      (∀ S' : Addr → Prop, Kp (Sx (O1 ++ O2) Xs) S' H H' → (∀ a, H a = none → a ∉ o' → S' a) → (∀ a ∈ o, a ∉ o' → S' a) → RMs K S' H' U' Um' o') → Good K F Xs H' σ env (U' ++ T) (Um' ++ Tm) := by
  obtain ⟨v1, v2, o, o2, e1, rfl, r1, r2⟩ := g.rt.split
  obtain ⟨rfl, rfl⟩ := List.append_inj e1 (hl.trans r1.length.symm)
  refine ⟨o, o2, rfl, r1, fun H' U' Um' o' k nd' sub hro => ?_⟩
  have nd := g.nd
  have hmu := g.mu
  have old : ∀ a ∈ O1 ++ o2, a ∉ o := fun a ha hx => by
    simp only [List.nodup_append, List.mem_append] at nd ha
    rcases ha with ha | ha
    · exact nd.2.2 a ha a (.inl hx) rfl
    · exact nd.2.1.2.2 a hx a ha rfl
  have mem : ∀ a ∈ O1 ++ o2, a ∈ O1 ++ (o ++ o2) := fun a ha => by simp only [List.mem_append] at ha ⊢; rcases ha with ha | ha <;> simp [ha]
  have new : ∀ a ∈ O1 ++ o2, a ∉ o' := fun a ha hx => by
    rcases sub a hx with z | z
    · exact old a ha z
    · obtain ⟨w, ew, _⟩ := hmu a (mem a ha); rw [z] at ew; cases ew
  have eqH : ∀ a ∈ O1 ++ o2, H' a = H a := fun a ha => by
    obtain ⟨w, ew, _⟩ := hmu a (mem a ha)
    rw [ew]; exact k a w ew (old a ha)
  have hk : Kp (Sx (O1 ++ (o ++ o2)) Xs) (Sx (O1 ++ (o' ++ o2)) Xs) H H' := by
    refine ⟨fun a x ex s => k a x ex fun z => s.1 (by simp [z]), fun a x ex nm => k a x ex fun z => ?_, fun a x ex s => ⟨fun z => ?_, s.2⟩⟩
    · obtain ⟨w, ew, mw⟩ := hmu a (by simp [z]); rw [ex] at ew; cases ew; exact nm mw
    · simp only [List.mem_append] at z
      rcases z with z | z | z
      · exact s.1 (by simp [z])
      · rcases sub a z with q | q
        · exact s.1 (by simp [q])
        · rw [q] at ex; cases ex
      · exact s.1 (by simp [z])
  refine ⟨O1, o' ++ o2, ?_, g.re.kp hk fun a ha => eqH a (by simp [ha]), (hro _ hk (fun a ha hn => ?_) fun a ha hn => ?_).append (r2.kp hk fun a ha => eqH a (by simp [ha])), fun a x ex => ?_, fun a ha => ?_, g.xs⟩
  · simp only [List.nodup_append, List.mem_append] at nd ⊢
    refine ⟨nd.1, ⟨nd', nd.2.1.2.1, fun a ha b hb e => new b (by simp [hb]) (e ▸ ha)⟩, fun a ha b hb e => ?_⟩
    subst e
    rcases hb with hb | hb
    · exact new a (by simp [ha]) hb
    · exact nd.2.2 a ha a (.inr hb) rfl
  · have f := g.freshS ha
    refine ⟨fun z => ?_, f.2⟩
    simp only [List.mem_append] at z
    rcases z with z | z | z
    · exact f.1 (by simp [z])
    · exact hn z
    · exact f.1 (by simp [z])
  · refine ⟨fun z => ?_, g.notX a (by simp [ha])⟩
    simp only [List.mem_append] at z
    rcases z with z | z | z
    · exact old a (by simp [z]) ha
    · exact hn z
    · exact old a (by simp [z]) ha
  · refine k a x (g.frame a x ex) fun z => ?_
    rw [g.dis a (by simp [z])] at ex; cases ex
  · simp only [List.mem_append] at ha
    have go : a ∈ O1 ++ (o ++ o2) → F a = none := g.dis a
    rcases ha with z | z | z
    · exact go (by simp [z])
    · rcases sub a z with q | q
      · exact go (by simp [q])
      · cases qf : F a with
        | none => rfl
        | some y => have := g.frame a y qf; rw [q] at this; cases this
    · exact go (by simp [z])
end
end D8

namespace D8
open PySem PySem.Spec PyProof.Rows L2
section
variable {K : PySem.W.Frag} {S : Addr → Prop} {H : Hp}
theorem PKs.two' {x y : V} {ms : List M} (h : PKs K S H [x, y] ms) : ∃ m n, ms = [m, n] ∧ (∃ o, RM K S H x m o) ∧ ∃ o, RM K S H y n o := by
  cases h with
  | cons h1 r => cases r with
    | cons h2 r => cases r; exact ⟨_, _, rfl, ⟨_, h1⟩, _, h2⟩
theorem PKs.one' {x : V} {ms : List M} (h : PKs K S H [x] ms) : ∃ m, ms = [m] ∧ ∃ o, RM K S H x m o := by
  cases h with
  | cons h1 r => cases r; exact ⟨_, rfl, _, h1⟩
theorem PKs.three' {x y z : V} {ms : List M} (h : PKs K S H [x, y, z] ms) : ∃ m n l, ms = [m, n, l] ∧ (∃ o, RM K S H x m o) ∧ (∃ o, RM K S H y n o) ∧ ∃ o, RM K S H z l o := by
  cases h with
  | cons h1 r => cases r with
    | cons h2 r => cases r with
      | cons h3 r => cases r; exact ⟨_, _, _, rfl, ⟨_, h1⟩, ⟨_, h2⟩, _, h3⟩
end
theorem OpR'.weak {X : Cx} {f : Value → Value → Sem Value} {r r' : R2} (h : L2.OpR X f r) (w : ∀ x y H Q, r' x y H Q → r x y H Q) : L2.OpR X f r' := fun pins s σ H x y v u Q I rx ry q => h pins s σ H x y v u Q I rx ry (w x y H Q q)
theorem CallR.weak {X : Cx} {f : Value} {r r' : List V → Hp → VK → Prop} (h : CallR X f r) (w : ∀ x H Q, r' x H Q → r x H Q) : CallR X f r' := fun pins s σ H x v Q I rx q => h pins s σ H x v Q I rx (w x H Q q)
theorem IxR.weak {X : Cx} {r r' : R2} (h : IxR X r) (w : ∀ x y H Q, r' x y H Q → r x y H Q) : IxR X r' := fun a b pins s σ H x y v u Q I rx ry q => h a b pins s σ H x y v u Q I rx ry (w x y H Q q)
theorem UnR.weak {X : Cx} {f : Value → Sem Value} {r r' : V → Hp → VK → Prop} (h : UnR X f r) (w : ∀ x H Q, r' x H Q → r x H Q) : UnR X f r' := fun pins s σ H x v Q I rx q => h pins s σ H x v Q I rx (w x H Q q)
section
variable {X : Cx} {pins : List (Addr × Obj)} {σ : L2.St} {H : Hp} {s : Shared}
theorem lsA_is (I : Inv X pins σ H s) {a : Addr} {xs : List V} (h : LsA X.K H a xs) : ∃ its n, Vals xs its ∧ s.heap.get? a = some { cls := .type "list", data := .seq its.toArray n } ∧ xs.length ≤ sizeLine := by
  rcases h with h | ⟨its, n, e, z, r⟩
  · obtain ⟨z, its, n, r, e⟩ := h.ok I.hok
    exact ⟨its, n, r, e, z⟩
  · refine ⟨its.toList, n, r, by simpa using I.kIn a _ e, ?_⟩
    have := r.length
    simp only [Array.length_toList] at this
    omega
/-- xs + ys -/
def rCatL (K : PySem.W.Frag) : R2 := fun x y H Q => ∃ l b xs zs, x = .ref l ∧ y = .ref b ∧ LsA K H l xs ∧ LsA K H b zs ∧ xs.length + zs.length ≤ sizeLine ∧ ∀ p, H p = none → Q (.ref p) (upd H p (.lst (xs ++ zs)))
theorem op_catL : L2.OpR X (binaryOp .Add) (rCatL X.K) := by
  intro pins s σ H x y v u Q I rx ry ⟨l, b, xs, zs, ex, ey, h1, h2, hz, q⟩
  subst ex ey; cases rx; cases ry
  obtain ⟨its, n, r, e, _⟩ := lsA_is I h1
  obtain ⟨its2, n2, r2, e2, _⟩ := lsA_is I h2
  have c1 := r.length
  have c2 := r2.length
  refine PySem.P.add_list e e2 ?_ (by simp only [List.size_toArray]; omega)
  rw [show its.toArray ++ its2.toArray = (its ++ its2).toArray by simp]
  exact ⟨.ref _, _, I.lnew (t' := s.toks) (r.append r2) (by simp only [List.length_append]; exact hz), rfl, q _ I.fresh⟩
theorem pr_add : L2.OpR X (binaryOp .Add) (fun x y => rP X.K (prF .add) [x, y]) := by
  refine OpR'.weak (op_add.or (op_add_str.or (op_catF.or op_catL))) fun x y H Q ⟨S, ms, m, hS, pk, ef, q⟩ => ?_
  obtain ⟨a, b, rfl, ⟨o1, ha⟩, o2, hb⟩ := pk.two'
  have ef : addF a b = some m := ef
  unfold addF at ef
  split at ef
  · obtain rfl := ha.toInt; obtain rfl := hb.toInt; cases ef
    exact .inl ⟨_, _, rfl, rfl, q _ _ (.refl _) (.im (.int _))⟩
  · obtain rfl := ha.toStr; obtain rfl := hb.toStr
    split at ef
    · next hz => cases ef; exact .inr (.inl ⟨_, _, rfl, rfl, hz, q _ _ (.refl _) (.im (.str _))⟩)
    · cases ef
  · obtain ⟨p, xs, rfl, t1, n1, r1⟩ := ha.toTupN
    obtain ⟨p', ys, rfl, t2, n2, r2⟩ := hb.toTupN
    split at ef
    · next hz =>
      cases ef
      have l1 := r1.length
      have l2 := r2.length
      refine .inr (.inr (.inl ⟨p, p', xs, ys, rfl, rfl, t1, t2, by omega, fun e => ?_, fun _ e => ?_, fun _ _ n o hn ho => q _ _ (Same.upd hn) (.tup hn ho (r1.append r2))⟩))
      · subst e; cases r1; exact q _ _ (.refl _) (.im (.tup t2 n2 r2))
      · subst e; cases r2; rw [List.append_nil] at q; exact q _ _ (.refl _) (.im (.tup t1 n1 r1))
    · cases ef
  · simp only [bsi] at ef
    obtain ⟨as, h1, bs, h2, ef⟩ := ef
    obtain ⟨p, xs, rfl, t1, r1⟩ := ha.toLst h1
    obtain ⟨p', ys, rfl, t2, r2⟩ := hb.toLst h2
    split at ef
    · next hz =>
      cases ef
      have l1 := r1.length
      have l2 := r2.length
      exact .inr (.inr (.inr ⟨p, p', xs, ys, rfl, rfl, t1, t2, by omega, fun n hn => q _ _ (Same.upd hn) (.lst hn (r1.append r2) hS)⟩))
    · cases ef
theorem pr_sub : L2.OpR X (binaryOp .Sub) (fun x y => rP X.K (prF .sub) [x, y]) := by
  refine OpR'.weak op_sub fun x y H Q ⟨S, ms, m, hS, pk, ef, q⟩ => ?_
  obtain ⟨a, b, rfl, ⟨o1, ha⟩, o2, hb⟩ := pk.two'
  have ef : subF a b = some m := ef
  unfold subF at ef
  split at ef
  · obtain rfl := ha.toInt; obtain rfl := hb.toInt; cases ef
    exact ⟨_, _, rfl, rfl, q _ _ (.refl _) (.im (.int _))⟩
  · cases ef
theorem pr_fdiv : L2.OpR X (binaryOp .FloorDiv) (fun x y => rP X.K (prF .fdiv) [x, y]) := by
  refine OpR'.weak op_fdivW fun x y H Q ⟨S, ms, m, hS, pk, ef, q⟩ => ?_
  obtain ⟨a, b, rfl, ⟨o1, ha⟩, o2, hb⟩ := pk.two'
  have ef : fdivF a b = some m := ef
  unfold fdivF at ef
  split at ef
  · obtain rfl := ha.toInt; obtain rfl := hb.toInt
    split at ef
    · next h =>
      cases ef
      simp only [divOk, Bool.and_eq_true, decide_eq_true_eq] at h
      exact ⟨_, _, rfl, rfl, h, q _ _ (.refl _) (.im (.int _))⟩
    · cases ef
  · cases ef
theorem pr_mod : L2.OpR X (binaryOp .Mod) (fun x y => rP X.K (prF .mod) [x, y]) := by
  refine OpR'.weak op_mod fun x y H Q ⟨S, ms, m, hS, pk, ef, q⟩ => ?_
  obtain ⟨a, b, rfl, ⟨o1, ha⟩, o2, hb⟩ := pk.two'
  have ef : modF a b = some m := ef
  unfold modF at ef
  split at ef
  · obtain rfl := ha.toInt; obtain rfl := hb.toInt
    split at ef
    · next h => cases ef; exact ⟨_, _, rfl, rfl, h, q _ _ (.refl _) (.im (.int _))⟩
    · cases ef
  · cases ef
theorem pr_pow : L2.OpR X (binaryOp .Pow) (fun x y => rP X.K (prF .pow) [x, y]) := by
  refine OpR'.weak op_pow fun x y H Q ⟨S, ms, m, hS, pk, ef, q⟩ => ?_
  obtain ⟨a, b, rfl, ⟨o1, ha⟩, o2, hb⟩ := pk.two'
  have ef : powF a b = some m := ef
  unfold powF at ef
  split at ef
  · obtain rfl := ha.toInt; obtain rfl := hb.toInt
    split at ef
    · next h =>
      cases ef
      simp only [powOk, Bool.and_eq_true, decide_eq_true_eq] at h
      exact ⟨_, _, rfl, rfl, ⟨h.1.1, h.1.2, h.2⟩, q _ _ (.refl _) (.im (.int _))⟩
    · cases ef
  · cases ef
theorem pr_neg : UnR X (unaryOp .USub) (fun x => rP X.K (prF .neg) [x]) := by
  refine UnR.weak un_neg fun x H Q ⟨S, ms, m, hS, pk, ef, q⟩ => ?_
  obtain ⟨a, rfl, o1, ha⟩ := pk.one'
  have ef : negF a = some m := ef
  unfold negF at ef
  split at ef
  · obtain rfl := ha.toInt; cases ef
    exact ⟨_, rfl, q _ _ (.refl _) (.im (.int _))⟩
  · cases ef
theorem pr_lt : L2.OpR X (compareOp .Lt) (fun x y => rP X.K (prF .lt) [x, y]) := by
  refine OpR'.weak op_lt fun x y H Q ⟨S, ms, m, hS, pk, ef, q⟩ => ?_
  obtain ⟨a, b, rfl, ⟨o1, ha⟩, o2, hb⟩ := pk.two'
  have ef : (ltF a b).map mbl = some m := ef
  unfold ltF at ef
  split at ef
  · obtain rfl := ha.toInt; obtain rfl := hb.toInt; cases ef
    exact ⟨_, _, rfl, rfl, q _ _ (.refl _) (.im (.bl _))⟩
  · cases ef
theorem pr_le : L2.OpR X (compareOp .LtE) (fun x y => rP X.K (prF .le) [x, y]) := by
  refine OpR'.weak op_le fun x y H Q ⟨S, ms, m, hS, pk, ef, q⟩ => ?_
  obtain ⟨a, b, rfl, ⟨o1, ha⟩, o2, hb⟩ := pk.two'
  have ef : (leF a b).map mbl = some m := ef
  unfold leF at ef
  split at ef
  · obtain rfl := ha.toInt; obtain rfl := hb.toInt; cases ef
    exact ⟨_, _, rfl, rfl, q _ _ (.refl _) (.im (.bl _))⟩
  · cases ef
theorem pr_gt : L2.OpR X (compareOp .Gt) (fun x y => rP X.K (prF .gt) [x, y]) := by
  refine OpR'.weak op_gt fun x y H Q ⟨S, ms, m, hS, pk, ef, q⟩ => ?_
  obtain ⟨a, b, rfl, ⟨o1, ha⟩, o2, hb⟩ := pk.two'
  have ef : (ltF b a).map mbl = some m := ef
  unfold ltF at ef
  split at ef
  · obtain rfl := ha.toInt; obtain rfl := hb.toInt; cases ef
    exact ⟨_, _, rfl, rfl, q _ _ (.refl _) (.im (.bl _))⟩
  · cases ef
theorem pr_ge : L2.OpR X (compareOp .GtE) (fun x y => rP X.K (prF .ge) [x, y]) := by
  refine OpR'.weak op_ge fun x y H Q ⟨S, ms, m, hS, pk, ef, q⟩ => ?_
  obtain ⟨a, b, rfl, ⟨o1, ha⟩, o2, hb⟩ := pk.two'
  have ef : (leF b a).map mbl = some m := ef
  unfold leF at ef
  split at ef
  · obtain rfl := ha.toInt; obtain rfl := hb.toInt; cases ef
    exact ⟨_, _, rfl, rfl, q _ _ (.refl _) (.im (.bl _))⟩
  · cases ef
/-- * of two ints -/
theorem op_mulM : L2.OpR X (binaryOp .Mult) (rI (fun i j => mulOk i j = true) fun i j => .int (i * j)) := by
  refine OpR'.weak (op_mul.or op_mulW) fun x y H Q ⟨i, j, ex, ey, c, q⟩ => ?_
  simp only [mulOk, Bool.or_eq_true, decide_eq_true_eq] at c
  rcases c with (c | c) | c
  · exact .inl ⟨i, j, ex, ey, .inl (by omega), q⟩
  · exact .inl ⟨i, j, ex, ey, .inr (by omega), q⟩
  · exact .inr ⟨i, j, ex, ey, c, q⟩
end
end D8

namespace D8
open PySem PySem.Spec PyProof.Rows L2
/-! ### a tuple once, or an empty one often: the same -/
theorem mul_same {l : Addr} {its : Array Value} {n : Nat} {dd : Option Addr} {sl : Array (Option Value)} {x : Int} {u : PySem.Tok} (h0 : (decide (x < -(2 ^ 63)) || decide (x ≥ 2 ^ 63)) = false) (h1 : (its.isEmpty || x == 1) = true) :
    Meets (Builtin.«tuple.__mul__» ⟨[.ref l, .int x u], []⟩) (fun _ R s => s.heap.get? l = some { cls := .type "tuple", dict := dd, data := .seq its n, slots := sl } ∧ R (.ok (.ret (.ref l))) s) :=
  .of_wp fun prog w A R s h => by
    obtain ⟨hp, g, d, tk, os⟩ := s
    obtain ⟨hl, h⟩ := h
    have f1 := AutoSeq1.idx_int
    wp_walk using wpAny_loadPart' hl
    repeat (first
      | (refine wpAny_ite_false (decide_eq_false (by rw [h0]; exact Bool.false_ne_true)) ?_; wp_walk using wpAny_loadPart' hl)
      | (refine wpAny_ite_true (decide_eq_true h1) ?_; wp_walk using wpAny_loadPart' hl))
    exact ⟨_, rfl, h⟩
def rSameT (K : PySem.W.Frag) : R2 := fun x y H Q => ∃ l k xs, x = .ref l ∧ y = .int k ∧ SqT K H l xs ∧ (xs = [] ∨ k = 1) ∧ -9223372036854775808 ≤ k ∧ k < 9223372036854775808 ∧ Q (.ref l) H
theorem op_sameT {X : Cx} : L2.OpR X (binaryOp .Mult) (rSameT X.K) := by
  intro pins s σ H x y v u Q I rx ry h
  obtain ⟨l, k, xs, rfl, rfl, hT, hx, k1, k2, q⟩ := h
  cases rx
  obtain ⟨t, rfl⟩ := ry
  obtain ⟨its, r, ⟨⟨cls, dd, data, sl⟩, ho, hc, n, hd⟩, hs⟩ := I.tuple hT
  simp only at hc hd
  subst hc hd
  have e0 : (decide (k < -(2 ^ 63)) || decide (k ≥ 2 ^ 63)) = false := by
    rw [decide_eq_false (by omega), decide_eq_false (by omega)]; rfl
  have e1 : (its.toArray.isEmpty || k == 1) = true := by
    rcases hx with rfl | rfl
    · cases r; rfl
    · simp
  exact wpAny_binaryOp_repeat_ref (T := "tuple") (U := "int") (by decide) ⟨_, ho, rfl⟩ (fun s' => typeIs_int s' k t) noFill_tuple_mul F.fills_int_mul F.slot_int_rmul repeat_tuple F.slot_int_index.lookup
    (call_meets F.slot_int_rmul (typeIs_int s k t) F.entry_int_rmul (F.args_int_rmul_2 _ _) (int_rmul_tuple k t l its.toArray n dd sl)
      ⟨ho, rfl, ⟨_, ho, rfl⟩, call_meets F.slot_tuple_mul ⟨_, ho, rfl⟩ F.entry_tuple_mul (F.args_tuple_mul_2 _ _) (mul_same e0 e1) ⟨ho, ⟨.ref l, H, I, rfl, q⟩⟩⟩)
/-! ### xs.index(k), ints -/
def rIxL1 (K : PySem.W.Frag) : V → List V → Hp → VK → Prop := fun x xs H Q => ∃ a k, ∃ ns : List Int, x = .ref a ∧ xs = [.int k] ∧ SqL K H a (ns.map V.int) ∧ k ∈ ns ∧ Q (.int (ns.idxOf k : Nat)) H
def rIxT1 (K : PySem.W.Frag) : V → List V → Hp → VK → Prop := fun x xs H Q => ∃ a k, ∃ ns : List Int, x = .ref a ∧ xs = [.int k] ∧ SqT K H a (ns.map V.int) ∧ k ∈ ns ∧ Q (.int (ns.idxOf k : Nat)) H
theorem mt_ixL {X : Cx} : MtR X "list.index" (rIxL1 X.K) := by
  intro pins s σ H x xs v us Q I rx rs ⟨a, k, ns, ex, es, hS, hk, q⟩
  subst ex es
  cases rx
  obtain ⟨its, rv, pl, hz⟩ := I.list hS
  cases rs with
  | cons h1 h2 =>
    cases h2
    obtain ⟨t, rfl⟩ := h1
    rw [List.length_map] at hz
    exact PySem.SeqAt.list_index_ints pl.isList rv.ints hz hk ⟨.int _, H, I.kept (t' := s.toks + 1) fun _ _ e => e, ⟨_, rfl⟩, q⟩
theorem mt_ixT {X : Cx} : MtR X "tuple.index" (rIxT1 X.K) := by
  intro pins s σ H x xs v us Q I rx rs ⟨a, k, ns, ex, es, hS, hk, q⟩
  subst ex es
  cases rx
  obtain ⟨its, rv, ⟨o, ho, hc, n, hd⟩, hz⟩ := I.tuple hS
  cases rs with
  | cons h1 h2 =>
    cases h2
    obtain ⟨t, rfl⟩ := h1
    exact PySem.SeqAt.tuple_index_ints ⟨o, ho, hc, n, hd⟩ rv.ints hk ⟨.int _, H, I.kept (t' := s.toks + 1) fun _ _ e => e, ⟨_, rfl⟩, q⟩
end D8

namespace D8
open PySem PySem.Spec PyProof.Rows L2
section
variable {X : Cx} {pins : List (Addr × Obj)} {σ : L2.St} {H : Hp} {s : Shared} {K : PySem.W.Frag} {S : Addr → Prop}
theorem pr_mul : L2.OpR X (binaryOp .Mult) (fun x y => rP X.K (prF .mul) [x, y]) := by
  refine OpR'.weak (op_mulM.or (op_sameT.or (op_repF.or op_rep))) fun x y H Q ⟨S, ms, m, hS, pk, ef, q⟩ => ?_
  obtain ⟨a, b, rfl, ⟨o1, ha⟩, o2, hb⟩ := pk.two'
  have ef : mulF a b = some m := ef
  unfold mulF at ef
  have rp : ∀ (n : Nat) {vs : List V} {ds : List PyData}, RVs X.K S H vs ds → RVs X.K S H (List.replicate n vs).flatten (rep ds n) := fun n => by
    induction n with
    | zero => intro vs ds _; exact .nil
    | succ n ih => intro vs ds r; unfold rep; rw [List.replicate_succ, List.replicate_succ, List.flatten_cons, List.flatten_cons]; exact r.append (ih r)
  split at ef
  · obtain rfl := ha.toInt; obtain rfl := hb.toInt
    split at ef
    · next h => cases ef; exact .inl ⟨_, _, rfl, rfl, h, q _ _ (.refl _) (.im (.int _))⟩
    · cases ef
  · obtain ⟨p, xs, rfl, t1, n1, r1⟩ := ha.toTupN
    obtain rfl := hb.toInt
    split at ef
    · next h =>
      cases ef
      exact .inr (.inl ⟨p, _, xs, rfl, rfl, t1, h.1.imp (fun e => by subst e; cases r1; rfl) id, h.2.1, h.2.2, q _ _ (.refl _) (.im (.tup t1 n1 r1))⟩)
    · next h0 =>
      split at ef
      · next h =>
        cases ef
        have l1 := r1.length
        refine .inr (.inr (.inl ⟨p, _, xs, rfl, rfl, t1, fun e => h0 ⟨.inl ?_, by omega, by omega⟩, h.2.1, h.2.2, by omega, fun n o hn ho => q _ _ (Same.upd hn) (.tup hn ho (rp _ r1))⟩))
        subst e; cases r1; rfl
      · cases ef
  · obtain rfl := hb.toInt
    simp only [bsi] at ef
    obtain ⟨ds, h1, ef⟩ := ef
    cases ha with
    | ml e r =>
      obtain ⟨r1, _⟩ := r.ims h1
      split at ef
      · next h =>
        cases ef
        have l1 := r1.length
        exact .inr (.inr (.inr ⟨_, _, _, rfl, rfl, e, by omega, by omega, by rw [l1]; exact h.1, fun n hn => q _ _ (Same.upd hn) (.lst hn (rp _ r1) hS)⟩))
      · cases ef
  · cases ef
mutual
theorem RV.dp : ∀ {v : V} {d : PyData}, PyData.canLay0 d = true → RV K S H v d → Dp K H v d
  | _, _, _, .non => .non
  | _, _, _, .bl b => .bl b
  | _, _, _, .int b => .int b
  | _, _, _, .str b => .str b
  | _, _, c, .tup h n r => .tup h (RVs.dp (by simpa [PyData.canLay0] using c) r)
  | _, _, c, .lst h r => .lst h.seq (RVs.dp (by simpa [PyData.canLay0] using c) r)
  | _, _, c, .dct _ _ _ => by simp [PyData.canLay0] at c
theorem RVs.dp : ∀ {v : List V} {d : List PyData}, PyData.canLayAll0 d = true → RVs K S H v d → DpAll K H v d
  | _, _, _, .nil => .nil
  | _, _, c, .cons h r => by
    simp only [PyData.canLayAll0, Bool.and_eq_true] at c
    exact .cons (RV.dp c.1 h) (RVs.dp c.2 r)
end
theorem shaped_can {d : PyData} (h : SeqAt.shaped d = true) : d.canLay0 = true := SeqAt.canLay_of_shaped h
theorem pr_eq (hu : X.A.units + 64 < cLine) : L2.OpR X (compareOp .Eq) (fun x y => rP X.K (prF .eq) [x, y]) := by
  refine OpR'.weak (op_eqD hu) fun x y H Q ⟨S, ms, m, hS, pk, ef, q⟩ => ?_
  obtain ⟨a, b, rfl, ⟨o1, ha⟩, o2, hb⟩ := pk.two'
  have ef : (eqF a b).map mbl = some m := ef
  unfold eqF at ef
  split at ef
  · next h => cases ef; exact ⟨_, _, ha.any.dp (shaped_can h.1), hb.any.dp (shaped_can h.2), h.1, h.2, q _ _ (.refl _) (.im (.bl _))⟩
  · cases ef
theorem pr_ne (hu : X.A.units + 64 < cLine) : L2.OpR X (compareOp .NotEq) (fun x y => rP X.K (prF .ne) [x, y]) := by
  refine OpR'.weak (op_neD hu) fun x y H Q ⟨S, ms, m, hS, pk, ef, q⟩ => ?_
  obtain ⟨a, b, rfl, ⟨o1, ha⟩, o2, hb⟩ := pk.two'
  have ef : (eqF a b).map (fun b => mbl (!b)) = some m := ef
  unfold eqF at ef
  split at ef
  · next h => cases ef; exact ⟨_, _, ha.any.dp (shaped_can h.1), hb.any.dp (shaped_can h.2), h.1, h.2, q _ _ (.refl _) (.im (.bl _))⟩
  · cases ef
theorem isN_dec {v : V} {m : M} {o : List Addr} (h : RM K S H v m o) : isNF m = some (decide (v = .non)) := by
  cases h with
  | im h => cases h <;> rfl
  | ml _ _ => rfl
  | md _ _ => rfl
theorem pr_isN : L2.OpR X (compareOp .Is) (fun x y => rP X.K (prF .isN) [x, y]) := by
  refine OpR'.weak op_isN fun x y H Q ⟨S, ms, m, hS, pk, ef, q⟩ => ?_
  obtain ⟨a, b, rfl, ⟨o1, ha⟩, o2, hb⟩ := pk.two'
  have ef : (isN2 a b).map mbl = some m := ef
  unfold isN2 at ef
  split at ef
  case h_2 => cases ef
  obtain rfl := hb.toNon
  rw [isN_dec ha] at ef
  cases ef
  exact ⟨rfl, q _ _ (.refl _) (.im (.bl _))⟩
theorem pr_noN : L2.OpR X (compareOp .IsNot) (fun x y => rP X.K (prF .noN) [x, y]) := by
  refine OpR'.weak op_notN fun x y H Q ⟨S, ms, m, hS, pk, ef, q⟩ => ?_
  obtain ⟨a, b, rfl, ⟨o1, ha⟩, o2, hb⟩ := pk.two'
  have ef : (isN2 a b).map (fun b => mbl (!b)) = some m := ef
  unfold isN2 at ef
  split at ef
  case h_2 => cases ef
  obtain rfl := hb.toNon
  rw [isN_dec ha] at ef
  cases ef
  exact ⟨rfl, q _ _ (.refl _) (.im (.bl _))⟩
/-! in -/
def rInQ (K : PySem.W.Frag) (neg : Bool) : R2 := fun x y H Q => ∃ d e ds, Dp K H x d ∧ Dp K H y e ∧ (e = .list ds ∨ e = .tuple ds) ∧ SeqAt.shaped d = true ∧ SeqAt.shaped (.list ds) = true ∧ Q (.bl (if neg then !(ds.any fun z => PyData.eqv z d) else ds.any fun z => PyData.eqv z d)) H
theorem shaped_tl {ds : List PyData} (h : SeqAt.shaped (.list ds) = true) : (PyData.tuple ds).canLay0 = true := by
  have := shaped_can h
  simpa only [PyData.canLay0] using this
theorem op_inQ (hu : X.A.units + 65 < cLine) : L2.OpR X (compareOp .In) (rInQ X.K false) := by
  intro pins s σ H x y v u Q I rx ry ⟨d, e, ds, hd, he, k, sd, se, q⟩
  obtain ⟨as, r1⟩ := Dp.reads I d x v hd rx
  obtain ⟨bs, r2⟩ := Dp.reads I e y u he ry
  rcases k with rfl | rfl
  · exact SeqAt.in_list_reads r2 r1 (SeqAt.canLay_of_shaped se) (SeqAt.canLay_of_shaped sd) (PyProof.Rows.room_in_shaped sd hu) ⟨.bl _, H, I, rfl, q⟩
  · exact SeqAt.in_tuple_reads r2 r1 (shaped_tl se) (SeqAt.canLay_of_shaped sd) (PyProof.Rows.room_in_shaped sd hu) ⟨.bl _, H, I, rfl, q⟩
theorem op_ninQ (hu : X.A.units + 65 < cLine) : L2.OpR X (compareOp .NotIn) (rInQ X.K true) := by
  intro pins s σ H x y v u Q I rx ry ⟨d, e, ds, hd, he, k, sd, se, q⟩
  obtain ⟨as, r1⟩ := Dp.reads I d x v hd rx
  obtain ⟨bs, r2⟩ := Dp.reads I e y u he ry
  rcases k with rfl | rfl
  · exact SeqAt.notIn_list_reads r2 r1 (SeqAt.canLay_of_shaped se) (SeqAt.canLay_of_shaped sd) (PyProof.Rows.room_in_shaped sd hu) ⟨.bl _, H, I, rfl, q⟩
  · exact SeqAt.notIn_tuple_reads r2 r1 (shaped_tl se) (SeqAt.canLay_of_shaped sd) (PyProof.Rows.room_in_shaped sd hu) ⟨.bl _, H, I, rfl, q⟩
/-- a key in a dict -/
def rInK (neg : Bool) : R2 := fun x y H Q => ∃ a kvs k, y = .ref a ∧ Rd H a (.dK kvs) ∧ x = kV k ∧ Q (.bl (if neg then !(valV kvs k).isSome else (valV kvs k).isSome)) H
theorem op_inK (hu : X.A.units + 1 < cLine) : L2.OpR X (compareOp .In) (rInK false) := by
  intro pins s σ H x y v u Q I rx ry ⟨a, kvs, k, ey, e, ex, q⟩
  subst ey ex
  obtain rfl : u = Value.ref a := ry
  exact d_in hu I (show DGet H a (kV k) (valV kvs k) from .inl ⟨kvs, k, e, rfl, rfl⟩) rx fun s3 I3 => ⟨.bl _, H, I3, rfl, q⟩
theorem op_ninK (hu : X.A.units + 1 < cLine) : L2.OpR X (compareOp .NotIn) (rInK true) := by
  intro pins s σ H x y v u Q I rx ry ⟨a, kvs, k, ey, e, ex, q⟩
  subst ey ex
  obtain rfl : u = Value.ref a := ry
  exact d_notIn hu I (show DGet H a (kV k) (valV kvs k) from .inl ⟨kvs, k, e, rfl, rfl⟩) rx fun s3 I3 => ⟨.bl _, H, I3, rfl, q⟩
theorem keyOf_kD (k : Key) : D8.keyOf (kD k) = some k := by cases k <;> rfl
theorem RVk.has (k : Key) : ∀ {vs : List (Key × V)} {ds : List (PyData × PyData)}, RVk K S H vs ds → (valV vs k).isSome = fkHas ds k
  | _, _, .nil => rfl
  | _, _, .cons (k := k') h r => by
    by_cases e : k' = k
    · rw [valV_pos (show (k', _).1 = k from e)]; simp [fkHas, keyOf_kD, e]
    · rw [valV_neg (show ¬ (k', _).1 = k from e), RVk.has k r]; simp [fkHas, keyOf_kD, e]
theorem RVk.get (k : Key) {d : PyData} : ∀ {vs : List (Key × V)} {ds : List (PyData × PyData)}, RVk K S H vs ds → fkGet ds k = some d → ∃ v, valV vs k = some v ∧ RV K S H v d
  | _, _, .nil, e => by cases e
  | _, _, .cons (k := k') (ds := ds0) (d := d0) h r, e => by
    by_cases ek : k' = k
    · have : fkGet ((kD k', d0) :: ds0) k = some d0 := by simp [fkGet, keyOf_kD, ek]
      rw [this] at e; cases e
      exact ⟨_, valV_pos (show (k', _).1 = k from ek), h⟩
    · have : fkGet ((kD k', d0) :: ds0) k = fkGet ds0 k := by simp [fkGet, keyOf_kD, ek]
      rw [this] at e
      obtain ⟨v, h1, h2⟩ := RVk.get k r e
      exact ⟨v, by rw [valV_neg (show ¬ (k', _).1 = k from ek)]; exact h1, h2⟩
theorem key_of {d : PyData} {k : Key} {v : V} (h : RV K S H v d) (e : keyOf d = some k) : v = kV k := by
  cases h <;> first | (cases e; rfl) | cases e
theorem RMk.has (k : Key) : ∀ {vs : List (Key × V)} {ms : List (Key × M)} {o : List Addr}, RMk K S H vs ms o → (valV vs k).isSome = mdHas ms k
  | _, _, _, .nil => rfl
  | _, _, _, .cons (k := k') h r => by
    by_cases e : k' = k
    · rw [valV_pos (show (k', _).1 = k from e)]; simp [mdHas, e]
    · rw [valV_neg (show ¬ (k', _).1 = k from e), RMk.has k r]; simp [mdHas, e]
theorem inF_ok {x y : V} {a b : M} {o1 o2 : List Addr} {c : Bool} (ha : RM K S H x a o1) (hb : RM K S H y b o2) (ef : inF a b = some c) :
    (∃ i j, x = .str i ∧ y = .str j ∧ c = !(Builtin.Str.occurrences j i 0 j.length 1).isEmpty) ∨ (∃ p kvs k, y = .ref p ∧ Rd H p (.dK kvs) ∧ x = kV k ∧ c = (valV kvs k).isSome) ∨
      ∃ d e ds, Dp K H x d ∧ Dp K H y e ∧ (e = .list ds ∨ e = .tuple ds) ∧ SeqAt.shaped d = true ∧ SeqAt.shaped (.list ds) = true ∧ c = ds.any fun z => PyData.eqv z d := by
  unfold inF at ef
  split at ef
  · obtain rfl := ha.toStr; obtain rfl := hb.toStr; cases ef
    exact .inl ⟨_, _, rfl, rfl, rfl⟩
  · rw [msi] at ef
    obtain ⟨k, h1, rfl⟩ := ef
    cases ha with
    | im hv => cases hb with
      | md e r => exact .inr (.inl ⟨_, _, k, rfl, .inl e, key_of hv h1, (r.has k).symm⟩)
  · rw [msi] at ef
    obtain ⟨k, h1, rfl⟩ := ef
    cases ha with
    | im hv => cases hb with
      | im hd => cases hd with
        | dct e _ r => exact .inr (.inl ⟨_, _, k, rfl, e, key_of hv h1, (r.has k).symm⟩)
  · simp only [bsi] at ef
    obtain ⟨ds, h1, ef⟩ := ef
    split at ef
    · next h =>
      cases ef
      refine .inr (.inr ⟨a.fz, b.fz, ds, ha.any.dp (shaped_can h.1), ?_, ?_, h.1, h.2, rfl⟩)
      · refine hb.any.dp ?_
        have q := shaped_can h.2
        unfold M.seq? at h1
        split at h1
        · cases h1; simpa only [M.fz, PyData.canLay0] using q
        · cases h1; exact q
        · rw [ims_eq h1]; simp only [M.fz, fzs_im]; exact q
        · cases h1
      · unfold M.seq? at h1
        split at h1
        · cases h1; exact .inr rfl
        · cases h1; exact .inl rfl
        · rw [ims_eq h1]; left; simp only [M.fz, fzs_im]
        · cases h1
    · cases ef
theorem pr_in (hu : X.A.units + 65 < cLine) : L2.OpR X (compareOp .In) (fun x y => rP X.K (prF .inn) [x, y]) := by
  refine OpR'.weak (op_in_str.or ((op_inK (by omega)).or (op_inQ hu))) fun x y H Q ⟨S, ms, m, hS, pk, ef, q⟩ => ?_
  obtain ⟨a, b, rfl, ⟨o1, ha⟩, o2, hb⟩ := pk.two'
  have ef : (inF a b).map mbl = some m := ef
  rw [msi] at ef
  obtain ⟨c, ef2, rfl⟩ := ef
  rcases inF_ok ha hb ef2 with ⟨i, j, rfl, rfl, rfl⟩ | ⟨p, kvs, k, rfl, e, rfl, rfl⟩ | ⟨d, e, ds, h1, h2, h3, h4, h5, rfl⟩
  · exact .inl ⟨_, _, rfl, rfl, q _ _ (.refl _) (.im (.bl _))⟩
  · exact .inr (.inl ⟨_, _, _, rfl, e, rfl, q _ _ (.refl _) (.im (.bl _))⟩)
  · exact .inr (.inr ⟨d, e, ds, h1, h2, h3, h4, h5, q _ _ (.refl _) (.im (.bl _))⟩)
theorem pr_nin (hu : X.A.units + 65 < cLine) : L2.OpR X (compareOp .NotIn) (fun x y => rP X.K (prF .nin) [x, y]) := by
  refine OpR'.weak (op_notin_str.or ((op_ninK (by omega)).or (op_ninQ hu))) fun x y H Q ⟨S, ms, m, hS, pk, ef, q⟩ => ?_
  obtain ⟨a, b, rfl, ⟨o1, ha⟩, o2, hb⟩ := pk.two'
  have ef : (inF a b).map (fun b => mbl (!b)) = some m := ef
  rw [msi] at ef
  obtain ⟨c, ef2, rfl⟩ := ef
  rcases inF_ok ha hb ef2 with ⟨i, j, rfl, rfl, rfl⟩ | ⟨p, kvs, k, rfl, e, rfl, rfl⟩ | ⟨d, e, ds, h1, h2, h3, h4, h5, rfl⟩
  · exact .inl ⟨_, _, rfl, rfl, q _ _ (.refl _) (.im (.bl _))⟩
  · exact .inr (.inl ⟨_, _, _, rfl, e, rfl, q _ _ (.refl _) (.im (.bl _))⟩)
  · exact .inr (.inr ⟨d, e, ds, h1, h2, h3, h4, h5, q _ _ (.refl _) (.im (.bl _))⟩)
end
end D8

namespace D8
open PySem PySem.Spec PyProof.Rows L2
/-! ### sum of a tuple of ints -/
theorem sum_rawT {prog : Program} {w : World} {A : Around} {E : Value → Shared → Prop} {s : Shared} {l : Addr} {its : List Value} {ns : List Int} {Q : Value → Shared → Prop} (hh : A.handled = none) (hl : s.heap.IsTuple l its.toArray) (hi : IntsAre its ns)
    (h : ∀ h' tk t', (∀ b o, s.heap.get? b = some o → h'.get? b = some o) → Q (.int ns.sum t') { s with heap := h', toks := tk }) : wpAny (model prog w) A (call (.builtin "sum") [.ref l]) Q E s := by
  obtain ⟨xs, e⟩ := hi.allInts.items
  have hn : numsOf (intItems xs).toList = ns := by rw [← e]; exact hi.numsOf
  rw [nums_intItems] at hn
  rw [e] at hl
  have hlt : l < s.heap.objs.size := by obtain ⟨_, e, _⟩ := hl; exact Heap.lt_size e
  refine call_sum_walkG (wpAny_pyIter_tuple hl ?_)
  refine ⟨_, _, _, _, _, _, numAt xs, rfl, Walks.tuple (A := A.in1) hh _ l (Nat.ne_of_lt hlt) (intItems xs), ⟨⟨_, Heap.get?_push_size _ rfl, rfl, rfl⟩, hl.push _⟩, fun b hb => ?_, (fun _ _ => intItems_at), fun h' tk t' hk => ?_⟩
  · show b < (s.heap.push _).objs.size
    rw [Heap.size_push]
    simp only [List.mem_cons, List.not_mem_nil, or_false] at hb
    rcases hb with rfl | rfl
    · exact Nat.lt_succ_self _
    · exact Nat.lt_succ_of_lt hlt
  · have := h h' tk t' fun b o e => hk b o (fun hb => absurd (Heap.lt_size e) ((List.mem_singleton.mp hb) ▸ Nat.lt_irrefl _)) (Heap.get?_push_of_some _ e)
    have e2 : (intItems xs).size = xs.size := by simp [intItems]
    rw [e2, preSum_eq, List.take_of_length_le (by simp), hn]
    exact this
def rSumT (K : PySem.W.Frag) : List V → Hp → VK → Prop := fun vs H Q => ∃ (a : Addr) (ns : List Int), vs = [V.ref a] ∧ SqT K H a (ns.map V.int) ∧ Q (.int ns.sum) H
theorem cr_sumT {X : Cx} (hc : X.calm = true) : CallR X (.builtin "sum") (rSumT X.K) := by
  intro pins s σ H vs us Q I r h
  obtain ⟨a, ns, rfl, hs, q⟩ := h
  obtain ⟨its, rv, pl, hz⟩ := I.tuple hs
  rw [Vals.ref1 r]
  exact sum_rawT (I.ok.hd hc) (let ⟨o, ho, hc, n, hd⟩ := pl; ⟨o, ho, hc, n, hd⟩) rv.ints fun h' tk t' hk => ⟨.int _, H, I.kept hk, ⟨_, rfl⟩, q⟩
/-! ### t.count(k), ints -/
def rCntT (K : PySem.W.Frag) : V → List V → Hp → VK → Prop := fun x xs H Q => ∃ (p : Addr) (ns : List Int) (k : Int), x = .ref p ∧ xs = [.int k] ∧ SqT K H p (ns.map V.int) ∧ Q (.int (ns.count k : Nat)) H
theorem mt_cntT {X : Cx} : MtR X "tuple.count" (rCntT X.K) := by
  intro pins s σ H x xs v us Q I rx rxs h
  obtain ⟨p, ns, k, rfl, rfl, hs, q⟩ := h
  cases rx
  obtain ⟨u, rfl, ru⟩ := rxs.one
  obtain ⟨t, rfl⟩ := ru
  obtain ⟨its, rv, ⟨⟨cls, dd, data, sl⟩, ho, hc, n, hd⟩, hlen⟩ := I.tuple hs
  simp only at hc hd
  subst hc hd
  have hi := ints_of_vals rv
  refine call_meets PySem.F.slot_tuple_count ⟨_, ho, rfl⟩ PySem.F.entry_tuple_count (PySem.F.args_tuple_count_2 _ _)
    (SeqAt.tuple_countAt p its.toArray n dd sl (.int k t) (eqk k)) ⟨ho, fun y hy => (eqk_gives hi y (by simpa using hy)).at _ _, ?_⟩
  have ec : its.toArray.toList.countP (eqk k) = ns.count k := eqk_count hi
  refine ⟨.int (ns.count k : Nat), H, I.tok _, ⟨s.toks, ?_⟩, q⟩
  show Value.int ((its.toArray.toList.countP (eqk k) : Nat) : Int) s.toks = Value.int ((ns.count k : Nat) : Int) s.toks
  rw [ec]
end D8

namespace D8
open PySem PySem.Spec PyProof.Rows L2
section
variable {X : Cx} {pins : List (Addr × Obj)} {σ : L2.St} {H : Hp} {s : Shared} {K : PySem.W.Frag} {S : Addr → Prop}
theorem RMk.length : ∀ {vs : List (Key × V)} {ms : List (Key × M)} {o : List Addr}, RMk K S H vs ms o → vs.length = ms.length
  | _, _, _, .nil => rfl
  | _, _, _, .cons _ r => congrArg (· + 1) (RMk.length r)
theorem one_of {f : M → Option M} {xs : List V} {H : Hp} {Q : VK} {g : List M → Option M} (hg : ∀ ms m, g ms = some m → ∃ x, ms = [x] ∧ f x = some m) (h : rP K g xs H Q) : ∃ (S : Addr → Prop) (v : V) (x m : M) (o : List Addr), xs = [v] ∧ (∀ p, H p = none → S p) ∧ RM K S H v x o ∧ f x = some m ∧ ∀ v H', Same H H' → NewR K S H H' v m → Q v H' := by
  obtain ⟨S, ms, m, hS, pk, ef, q⟩ := h
  obtain ⟨x, rfl, e⟩ := hg ms m ef
  cases pk with
  | cons h r => cases r; exact ⟨S, _, x, m, _, rfl, hS, h, e, q⟩
theorem pr1 {p : Pr} {f : M → Option M} (h : ∀ x, prF p [x] = f x) (h0 : prF p [] = none) (h2 : ∀ x y r, prF p (x :: y :: r) = none) : ∀ ms m, prF p ms = some m → ∃ x, ms = [x] ∧ f x = some m := fun ms m e => by
  match ms, e with
  | [], e => rw [h0] at e; cases e
  | [x], e => exact ⟨x, rfl, by rw [← h]; exact e⟩
  | x :: y :: r, e => rw [h2] at e; cases e
theorem pr_len : CallR X (.builtin "len") (rP X.K (prF .len)) := by
  refine CallR.weak (call_len_str.or (call_len_seq.or call_lenD)) fun xs H Q h => ?_
  obtain ⟨S, v, a, m, o, rfl, hS, ha, ef, q⟩ := one_of (f := lenF) (pr1 (fun _ => rfl) rfl fun _ _ _ => rfl) h
  unfold lenF at ef
  split at ef
  · obtain rfl := ha.toStr
    split at ef
    · next h => cases ef; exact .inl ⟨_, rfl, h, q _ _ (.refl _) (.im (.int _))⟩
    · cases ef
  · obtain ⟨p, xs, rfl, t, r⟩ := ha.toTup
    cases ef
    exact .inr (.inl ⟨p, xs, rfl, .inr t, by rw [r.length]; exact q _ _ (.refl _) (.im (.int _))⟩)
  · obtain ⟨p, xs, rfl, t, r⟩ := ha.toLst rfl
    cases ef
    exact .inr (.inl ⟨p, xs, rfl, .inl t.seq, by rw [r.length]; exact q _ _ (.refl _) (.im (.int _))⟩)
  · cases ha with
    | ml e r => cases ef; exact .inr (.inl ⟨_, _, rfl, .inl (.inl (.inl e)), by rw [r.length]; exact q _ _ (.refl _) (.im (.int _))⟩)
  · cases ha with
    | md e r => cases ef; exact .inr (.inr ⟨_, _, rfl, e, by rw [r.length]; exact q _ _ (.refl _) (.im (.int _))⟩)
  · cases ef
theorem pr_abs : CallR X (.builtin "abs") (rP X.K (prF .abs)) := by
  refine CallR.weak call_abs fun xs H Q h => ?_
  obtain ⟨S, v, x, m, o, rfl, hS, ha, ef, q⟩ := one_of (f := absF) (pr1 (fun _ => rfl) rfl fun _ _ _ => rfl) h
  unfold absF at ef
  split at ef
  · obtain rfl := ha.toInt; cases ef; exact ⟨_, rfl, q _ _ (.refl _) (.im (.int _))⟩
  · cases ef
theorem pr_int : CallR X (.type "int") (rP X.K (prF .int)) := by
  refine CallR.weak call_int1 fun xs H Q h => ?_
  obtain ⟨S, v, x, m, o, rfl, hS, ha, ef, q⟩ := one_of (f := intF) (pr1 (fun _ => rfl) rfl fun _ _ _ => rfl) h
  unfold intF at ef
  split at ef
  · obtain rfl := ha.toInt; cases ef; exact .inl ⟨_, rfl, q _ _ (.refl _) (.im (.int _))⟩
  · obtain rfl := ha.toBl; cases ef; exact .inr ⟨_, rfl, q _ _ (.refl _) (.im (.int _))⟩
  · cases ef
theorem intsOf_eq : ∀ {ds : List PyData} {ns : List Int}, intsOf ds = some ns → ds = ns.map .int
  | [], ns, h => by cases h; rfl
  | .int i :: r, ns, h => by
    rw [intsOf, msi] at h
    obtain ⟨q, h1, rfl⟩ := h
    rw [intsOf_eq h1]; rfl
  | .none :: _, _, h => by cases h
  | .bool _ :: _, _, h => by cases h
  | .str _ :: _, _, h => by cases h
  | .list _ :: _, _, h => by cases h
  | .tuple _ :: _, _, h => by cases h
  | .dict _ :: _, _, h => by cases h
theorem intsOf_map : ∀ ns : List Int, intsOf (ns.map .int) = some ns
  | [] => rfl
  | n :: r => by rw [List.map_cons, intsOf, intsOf_map r]; rfl
theorem boolsOf_eq : ∀ {ds : List PyData} {ns : List Bool}, boolsOf ds = some ns → ds = ns.map .bool
  | [], ns, h => by cases h; rfl
  | .bool i :: r, ns, h => by
    rw [boolsOf, msi] at h
    obtain ⟨q, h1, rfl⟩ := h
    rw [boolsOf_eq h1]; rfl
  | .none :: _, _, h => by cases h
  | .int _ :: _, _, h => by cases h
  | .str _ :: _, _, h => by cases h
  | .list _ :: _, _, h => by cases h
  | .tuple _ :: _, _, h => by cases h
  | .dict _ :: _, _, h => by cases h
theorem boolsOf_map : ∀ ns : List Bool, boolsOf (ns.map .bool) = some ns
  | [] => rfl
  | n :: r => by rw [List.map_cons, boolsOf, boolsOf_map r]; rfl
theorem RVs.ints : ∀ {ns : List Int} {vs : List V}, RVs K S H vs (ns.map .int) → vs = ns.map V.int
  | [], _, .nil => rfl
  | n :: r, _, .cons h q => by cases h; rw [RVs.ints q]; rfl
theorem RVs.bls : ∀ {ns : List Bool} {vs : List V}, RVs K S H vs (ns.map .bool) → vs = ns.map V.bl
  | [], _, .nil => rfl
  | n :: r, _, .cons h q => by cases h; rw [RVs.bls q]; rfl
theorem RVs.of_ints : ∀ ns : List Int, RVs K S H (ns.map V.int) (ns.map .int)
  | [] => .nil
  | n :: r => .cons (.int n) (RVs.of_ints r)
theorem pr_sum (hc : X.calm = true) : CallR X (.builtin "sum") (rP X.K (prF .sum)) := by
  refine CallR.weak ((cr_sum hc).or (cr_sumT hc)) fun xs H Q h => ?_
  obtain ⟨S, v, x, m, o, rfl, hS, ha, ef, q⟩ := one_of (f := sumF) (pr1 (fun _ => rfl) rfl fun _ _ _ => rfl) h
  simp only [sumF, bsi, msi] at ef
  obtain ⟨ds, h1, ns, h2, rfl⟩ := ef
  obtain ⟨p, xs, rfl, t, r⟩ := ha.toSeq h1
  rw [intsOf_eq h2] at r
  rw [r.ints] at t
  rcases t with t | t
  · exact .inl ⟨p, ns, rfl, t.seq, q _ _ (.refl _) (.im (.int _))⟩
  · exact .inr ⟨p, ns, rfl, t, q _ _ (.refl _) (.im (.int _))⟩
theorem pr_all (hc : X.calm = true) : CallR X (.builtin "all") (rP X.K (prF .all)) := by
  refine CallR.weak (cr_all hc) fun xs H Q h => ?_
  obtain ⟨S, v, x, m, o, rfl, hS, ha, ef, q⟩ := one_of (f := allF) (pr1 (fun _ => rfl) rfl fun _ _ _ => rfl) h
  simp only [allF, bsi, msi] at ef
  obtain ⟨ds, h1, ns, h2, rfl⟩ := ef
  obtain ⟨p, xs, rfl, t, r⟩ := ha.toLst h1
  rw [boolsOf_eq h2] at r
  rw [r.bls] at t
  exact ⟨p, ns, rfl, t.seq, q _ _ (.refl _) (.im (.bl _))⟩
theorem pr_any (hc : X.calm = true) : CallR X (.builtin "any") (rP X.K (prF .any)) := by
  refine CallR.weak (cr_any hc) fun xs H Q h => ?_
  obtain ⟨S, v, x, m, o, rfl, hS, ha, ef, q⟩ := one_of (f := anyF) (pr1 (fun _ => rfl) rfl fun _ _ _ => rfl) h
  simp only [anyF, bsi, msi] at ef
  obtain ⟨ds, h1, ns, h2, rfl⟩ := ef
  obtain ⟨p, xs, rfl, t, r⟩ := ha.toLst h1
  rw [boolsOf_eq h2] at r
  rw [r.bls] at t
  exact ⟨p, ns, rfl, t.seq, q _ _ (.refl _) (.im (.bl _))⟩
theorem pr_tup : CallR X (.type "tuple") (rP X.K (prF .tupO)) := by
  refine CallR.weak call_tuple_ofF fun xs H Q h => ?_
  obtain ⟨S, v, x, m, o, rfl, hS, ha, ef, q⟩ := one_of (f := tupF) (pr1 (fun _ => rfl) rfl fun _ _ _ => rfl) h
  rw [tupF, msi] at ef
  obtain ⟨ds, h1, rfl⟩ := ef
  obtain ⟨p, xs, rfl, t, r⟩ := ha.toSeqN h1
  rcases t with t | ⟨t, nd⟩
  · exact ⟨p, xs, rfl, .inl ⟨t.seq, fun l o hl ho => q _ _ (Same.upd hl) (.tup hl ho r)⟩⟩
  · exact ⟨p, xs, rfl, .inr ⟨t, q _ _ (.refl _) (.im (.tup t nd r))⟩⟩
theorem pr_lst : CallR X (.type "list") (rP X.K (prF .lstO)) := by
  refine CallR.weak call_list_of fun xs H Q h => ?_
  obtain ⟨S, v, x, m, o, rfl, hS, ha, ef, q⟩ := one_of (f := lstF) (pr1 (fun _ => rfl) rfl fun _ _ _ => rfl) h
  rw [lstF, msi] at ef
  obtain ⟨ds, h1, rfl⟩ := ef
  obtain ⟨p, xs, rfl, t, r⟩ := ha.toSeq h1
  exact ⟨p, xs, rfl, t.imp LsA.seq id, fun l hl => q _ _ (Same.upd hl) (.lst hl r hS)⟩
theorem pr_min2 (hc : X.calm = true) : CallR X (.builtin "min") (rP X.K (prF .min2)) := by
  refine CallR.weak (call_min2 hc) fun xs H Q ⟨S, ms, m, hS, pk, ef, q⟩ => ?_
  match ms, pk, ef with
  | [a, b], .cons ha (.cons hb .nil), ef =>
    have ef : min2F a b = some m := ef
    unfold min2F at ef
    split at ef
    · obtain rfl := ha.toInt; obtain rfl := hb.toInt; cases ef; exact ⟨_, _, rfl, q _ _ (.refl _) (.im (.int _))⟩
    · cases ef
  | [], _, ef => cases ef
  | [_], _, ef => cases ef
  | _ :: _ :: _ :: _, _, ef => cases ef
theorem pr_max2 (hc : X.calm = true) : CallR X (.builtin "max") (rP X.K (prF .max2)) := by
  refine CallR.weak (call_max2 hc) fun xs H Q ⟨S, ms, m, hS, pk, ef, q⟩ => ?_
  match ms, pk, ef with
  | [a, b], .cons ha (.cons hb .nil), ef =>
    have ef : max2F a b = some m := ef
    unfold max2F at ef
    split at ef
    · obtain rfl := ha.toInt; obtain rfl := hb.toInt; cases ef; exact ⟨_, _, rfl, q _ _ (.refl _) (.im (.int _))⟩
    · cases ef
  | [], _, ef => cases ef
  | [_], _, ef => cases ef
  | _ :: _ :: _ :: _, _, ef => cases ef
/-! repr -/
mutual
theorem RV.dpD : ∀ {v : V} {d : PyData}, PyData.hasDict d = false → RV K S H v d → Dp K H v d
  | _, _, _, .non => .non
  | _, _, _, .bl b => .bl b
  | _, _, _, .int b => .int b
  | _, _, _, .str b => .str b
  | _, _, c, .tup h n r => .tup h (RVs.dpD (by simpa [PyData.hasDict] using c) r)
  | _, _, c, .lst h r => .lst h.seq (RVs.dpD (by simpa [PyData.hasDict] using c) r)
  | _, _, c, .dct _ _ _ => by simp [PyData.hasDict] at c
theorem RVs.dpD : ∀ {v : List V} {d : List PyData}, PyData.hasDictAll d = false → RVs K S H v d → DpAll K H v d
  | _, _, _, .nil => .nil
  | _, _, c, .cons h r => by
    simp only [PyData.hasDictAll, Bool.or_eq_false_iff] at c
    exact .cons (RV.dpD c.1 h) (RVs.dpD c.2 r)
end
theorem hasDictAll_of {ds : List PyData} (h : PyData.hasDictAll ds = false) : ds.all dz1 = true := by
  induction ds with
  | nil => rfl
  | cons d ds ih =>
    simp only [PyData.hasDictAll, Bool.or_eq_false_iff] at h
    simp only [List.all_cons, Bool.and_eq_true]
    refine ⟨?_, ih h.2⟩
    unfold dz1
    split
    · rfl
    · rw [h.1]; rfl
theorem RV.repr1 {prog : Program} {w : World} (I : Inv X pins σ H s) {v : V} {d : PyData} {u : Value} (hv : RV X.K S H v d) (ru : RelV v u) (hd : dz1 d = true) (hs : d.showable = true) (hz : d.shown.length ≤ sizeLine) :
    ∃ as, Reads s.heap u d as ∧ ∃ bs, ReadAtMost s.heap d.depth bs ∧ ReprK prog w bs s.heap d.depth u d.shown := by
  by_cases hh : d.hasDict = true
  · unfold dz1 at hd
    split at hd
    · cases hv with
      | @dct a _ _ h1 h2 h3 =>
        cases h3
        cases ru
        obtain ⟨_, no, vs, kv, o, es, ep, g1, g2, g3, _, g4, _⟩ := dk_rd I.hok h1
        cases kv
        have e0 : es.toList = [] := by generalize es.toList = l at g4 ⊢; cases g4; rfl
        have rd := Reads.dict (h := s.heap) (kvs := []) (as := []) (bs := []) g1 g2.1 g3 (by rw [e0]; exact .nil) (by rw [e0]; exact .nil)
        refine ⟨_, rd, [a], fun b hb => ?_, ?_⟩
        · simp only [List.mem_singleton] at hb
          subst hb
          exact ⟨_, _, rd, Nat.le_refl _⟩
        · exact ReprK.dict (as := []) (d := 0) g1 g2.1 g3 no List.not_mem_nil (by rw [e0]; exact .nil)
    · rw [hh] at hd; cases hd
  · have hh : d.hasDict = false := by simpa using hh
    obtain ⟨as, rd⟩ := Dp.reads I d v u (hv.dpD hh) ru
    exact ⟨as, rd, ReprK.of_reads rd hs (PyData.noDict_hsm hh) hz⟩
theorem RVs.reprA {prog : Program} {w : World} (I : Inv X pins σ H s) : ∀ {vs : List V} {ds : List PyData} {us : List Value}, RVs X.K S H vs ds → Vals vs us → ds.all dz1 = true → PyData.showableAll ds = true → (∀ t ∈ PyData.shownAll ds, t.length ≤ sizeLine) →
    (∃ as, ReadsAll s.heap us ds as) ∧ ∃ bs, ReadAtMost s.heap (PyData.depthAll ds) bs ∧ ReprAllK prog w bs s.heap (PyData.depthAll ds) us (PyData.shownAll ds)
  | _, _, _, .nil, .nil, _, _, _ => ⟨⟨_, .nil⟩, [], fun _ z => absurd z List.not_mem_nil, .nil⟩
  | _, _, _, .cons h r, .cons h' r', c, z, l => by
    simp only [List.all_cons, Bool.and_eq_true] at c
    simp only [PyData.showableAll, Bool.and_eq_true] at z
    simp only [PyData.shownAll, List.mem_cons] at l
    obtain ⟨as, rd, bs, hb, hk⟩ := RV.repr1 (prog := prog) (w := w) I h h' c.1 z.1 (l _ (.inl rfl))
    obtain ⟨⟨as2, rd2⟩, bs2, hb2, hk2⟩ := RVs.reprA (prog := prog) (w := w) I r r' c.2 z.2 fun t ht => l t (.inr ht)
    have m1 := Nat.le_max_left
    refine ⟨⟨_, .cons rd rd2⟩, bs ++ bs2, (hb.mono (Nat.le_max_left _ _)).append (hb2.mono (Nat.le_max_right _ _)), ?_⟩
    exact .cons ((hk.more fun b z => List.mem_append_left _ z).level_le (Nat.le_max_left _ _)) (hk2.more_le (fun b z => List.mem_append_right _ z) (Nat.le_max_right _ _))
theorem pr_rpr (hg : X.A.guards = some []) (hu : X.A.units + 70 < cLine) : CallR X (.builtin "repr") (rP X.K (prF .rpr)) := by
  intro pins s σ H xs us Q I r h
  obtain ⟨S, v, x, m, o, rfl, hS, ha, ef, q⟩ := one_of (f := rprF) (pr1 (fun _ => rfl) rfl fun _ _ _ => rfl) h
  unfold rprF at ef
  split at ef
  case isFalse => cases ef
  next hh =>
  cases ef
  obtain ⟨h1, h2, h3, h4⟩ := hh
  by_cases hdd : x.fz.hasDict = true
  · unfold dz at h2
    split at h2
    case h_2 => rw [hdd] at h2; cases h2
    next ds ed =>
    have ha := ha.any
    rw [ed] at ha h1 h3 h4 q
    match us, r with
    | [u], .cons ru .nil =>
      cases ha with
      | lst hs hr =>
        cases ru
        obtain ⟨its, rv, ⟨ob, n, ho, hc, _, hd⟩, _⟩ := I.list hs.seq
        have h5 : (listText (PyData.shownAll ds)).length ≤ sizeLine := by simpa only [PyData.shown] using h4
        obtain ⟨⟨as, rd⟩, bs, hb, hk⟩ := RVs.reprA (prog := X.prog) (w := X.w) I hr rv h2 (by simpa [PyData.showable] using h1) fun t ht => Nat.le_trans (listText_mem_le ht) h5
        have rd1 := Reads.list ho hc hd rd
        have na := not_mem_of_deeper rd1 (by simp only [PyData.depth]; omega) hb
        have fin : ∀ {tk : Tok} {h' : Heap} {n : Nat}, (∀ b o, s.heap.get? b = some o → h'.get? b = some o) → EP X pins σ Q (.str (listText (PyData.shownAll ds)) tk) { s with heap := h', toks := n } := fun k => ⟨.str _, H, I.kept k, ⟨_, rfl⟩, by have := q (.str (PyData.shown (.list ds))) H (.refl _) (.im (.str _)); simpa only [PyData.shown] using this⟩
        simp only [PyData.depth] at h3
        refine call_repr_slot (T := "list") (idr := "list.__repr__") (by omega) ⟨ob, ho, hc⟩ F.slot_list_repr.toG ?_
        cases its with
        | nil =>
          cases rd
          simp only [PyData.shownAll] at fin
          exact call_list_repr_empty ⟨ob, ho, hc⟩ ho hd ⟨_, _, rfl, by simpa [listText_nil] using fin (h' := s.heap) fun _ _ e => e⟩
        | cons y ys =>
          exact call_list_reprK ho hc hd na (by simpa using hk.length_eq) (fun i y e => hk.item i y (by simpa using e)) hg (fun b _ => Clear.nil b) (by show X.A.units + 1 + _ < cLine; omega) (fun _ _ e => e) (fun h' u tk k => ⟨_, _, rfl, fin k⟩) h5
  have h2 : x.fz.hasDict = false := by simpa using hdd
  have dp := ha.any.dpD h2
  match us, r with
  | [u], .cons ru .nil =>
    obtain ⟨as, rd⟩ := Dp.reads I _ v u dp ru
    have fin : ∀ {tk : Tok} {h' : Heap} {n : Nat}, (∀ b o, s.heap.get? b = some o → h'.get? b = some o) → EP X pins σ Q (.str x.fz.shown tk) { s with heap := h', toks := n } := fun k => ⟨.str _, H, I.kept k, ⟨_, rfl⟩, q _ _ (.refl _) (.im (.str _))⟩
    generalize x.fz = d at *
    cases rd with
    | none => exact PySem.P.repr_of_none (by simpa [PyData.shown] using fin (h' := s.heap) fun _ _ e => e)
    | bool b => exact PySem.P.repr_of_bool (by simpa [PyData.shown] using fin (h' := s.heap) fun _ _ e => e)
    | int i t =>
      have hi : i.natAbs.log2 < 1920 := by simpa [PyData.showable] using h1
      exact PySem.P.repr_of_int hi (by simpa [PyData.shown] using fin (h' := s.heap) fun _ _ e => e)
    | str y t => exact PySem.P.repr_of_str (by simpa [PyData.shown] using fin (h' := s.heap) fun _ _ e => e) (by simpa [PyData.shown] using h4)
    | list a b c d => exact repr_of_reads' (.list a b c d) h1 (fun z => by rw [h2] at z; cases z) hg (by omega) (fun _ _ e => e) (fun h' u tk k => fin k) h4
    | tuple a b c d => exact repr_of_reads' (.tuple a b c d) h1 (fun z => by rw [h2] at z; cases z) hg (by omega) (fun _ _ e => e) (fun h' u tk k => fin k) h4
    | dict a b c d e => simp [PyData.hasDict] at h2
end
end D8

namespace D8
open PySem PySem.Spec PyProof.Rows L2 PySem.Calls
/-! ### sorted of a list or a tuple -/
def SqAt (h : Heap) (a : Addr) (xs : Array Value) : Prop := ∃ o, h.get? a = some o ∧ (o.cls = .type "list" ∨ o.cls = .type "tuple") ∧ ∃ n, o.data = .seq xs n
section
variable {prog : Program} {w : World} {A : Around} {E : Value → Shared → Prop} {s : Shared} {β : Type} {vs : List Value} {bs : List β} {enc : β → PyData} {R : Value → β → Prop}
theorem collect_sq {l : Addr} {vs : List Value} {Q : List Value → Shared → Prop} (hl : SqAt s.heap l vs.toArray)
    (h : Q vs { s with heap := (s.heap.push (seqObj "list" #[] 0)).update s.heap.objs.size (Obj.mapSeq (· ++ vs.toArray)) }) (hsz : vs.length ≤ sizeLine) :
    wpAny (model prog w) A (collect (.ref l)) Q E s := by
  obtain ⟨o, ho, hc, n, hd⟩ := id hl
  unfold collect
  refine wpAny_bind (wpAny_runValue (codeAny_builtin entry_proto_collect' ?_))
  show wpAny _ _ (do again (.builtin "list.__iadd__" ⟨[← newList [], .ref l], []⟩)) _ _ s
  refine wpAny_bind (wpAny_newList (wpAny_pure ⟨Code.quiet_builtin _ (by decide +kernel), codeAny_builtin entry_list_iadd' ?_⟩))
  show wpAny _ _ (Builtin.List.listExtendWith (.ref s.heap.objs.size) (.ref l) (.ref s.heap.objs.size)) _ _ { s with heap := s.heap.push (seqObj "list" #[] 0) }
  unfold Builtin.List.listExtendWith
  have ho' : (s.heap.push (seqObj "list" #[] 0)).get? l = some o := Heap.get?_push_of_some _ ho
  have ht : ∀ T : String, (T = "list" ∨ T = "tuple") → (Value.type T == Value.type "list" || Value.type T == Value.type "tuple") = true := by
    rintro T (rfl | rfl) <;> rfl
  have hT : ∃ T : String, (T = "list" ∨ T = "tuple") ∧ o.cls = .type T := hc.elim (fun h => ⟨_, .inl rfl, h⟩) fun h => ⟨_, .inr rfl, h⟩
  obtain ⟨T, hT, hcT⟩ := hT
  refine wpAny_bind (wpAny_typeOf (T := T) ⟨o, ho', hcT⟩ ?_)
  rw [if_pos (by have := ht T hT; simp only [Bool.or_eq_true] at this ⊢; exact this.elim (fun h => .inl (.inr h)) .inr)]
  refine wpAny_bind (listItems_at ho' hd ?_)
  refine wpAny_bind (listItems_at (xs := #[]) (n := 0) (Heap.get?_push_size _ rfl) rfl ?_)
  rw [if_neg (by simp)]
  refine wpAny_bind (listUpdate_at (xs := #[]) (n := 0) (Heap.get?_push_size _ rfl) rfl ?_ (Nat.zero_le _) (by show (#[] ++ vs.toArray).size ≤ sizeLine + 1; simp only [Array.size_append, List.size_toArray, List.length_nil]; omega))
  refine wpAny_pure ?_
  show wpAny (model prog w) A (do
      let o ← load s.heap.objs.size
      match o.data with
      | .seq xs _ => pure xs.toList
      | _ => unsupported "internal:collect") Q E { s with heap := (s.heap.push (seqObj "list" #[] 0)).update s.heap.objs.size (Obj.mapSeq (· ++ vs.toArray)) }
  refine wpAny_bind (wpAny_load (get?_update_seq (Heap.get?_push_size _ rfl) _) ?_)
  show wpAny _ _ (pure ((#[] : Array Value) ++ vs.toArray).toList) Q E _
  rw [show ((#[] : Array Value) ++ vs.toArray).toList = vs by simp]
  exact wpAny_pure h
theorem sorted_of_sortSq {l : Addr} {vs : List Value} {kw : List (Str × Value)} {Q : Value → Shared → Prop} (hl : SqAt s.heap l vs.toArray) (hL : vs.length ≤ sizeLine) (ha1 : argsOk "sorted" ⟨[.ref l], kw⟩) (ha2 : ∀ x, argsOk "list.sort" ⟨[.ref x], kw⟩)
    (body : ∀ E' : Value → Shared → Prop, wpAny (model prog w) A.in1.in1 (Builtin.«list.sort» ⟨[.ref (s.heap.objs.size + 1)], kw⟩) (fun f s' => f = .done (.ret .none) ∧ Q (.ref (s.heap.objs.size + 1)) s') E' { s with heap := PySem.W.copyHeap s.heap vs }) :
    wpAny (model prog w) A (call (.builtin "sorted") [.ref l] kw) Q E s := by
  refine call_function_entry_kw kind_sorted plain_sorted entry_sorted ha1 ?_
  unfold Builtin.«sorted»
  refine wpAny_bind (m := checkCount "sorted" 1 1 _) (wpAny_pure ?_)
  refine wpAny_bind (collect_sq hl ?_ hL)
  refine wpAny_bind (wpAny_newList ?_ hL)
  have hsz : ((s.heap.push (seqObj "list" #[] 0)).update s.heap.objs.size (Obj.mapSeq (· ++ vs.toArray))).objs.size = s.heap.objs.size + 1 := by
    rw [Heap.size_update, size_push']
  show wpAny _ _ _ _ _ { s with heap := PySem.W.copyHeap s.heap vs }
  rw [hsz]
  refine wpAny_bind (wpAny_holding (wpAny_call_entry_kw slot_list_sort ⟨_, PySem.W.copyHeap_at s.heap vs, rfl⟩ entry_list_sort ?body (ha2 _)))
  case body =>
    show wpAny (model prog w) A.in1.in1 (Builtin.«list.sort» ⟨[.ref (s.heap.objs.size + 1)], kw⟩) _ _ _
    refine wpAny_mono (body _) (fun f s' hf => ?_) fun _ _ e => e
    obtain ⟨rfl, hq⟩ := hf
    exact ⟨_, rfl, wpAny_pure ⟨_, rfl, hq⟩⟩
theorem sorted_dataSq {l : Addr} {Q : Value → Shared → Prop} (hl : SqAt s.heap l vs.toArray) (e : PySem.W.EachIs R vs bs) (er : PySem.W.EachIs (fun v b => ∃ as, Reads s.heap v (enc b) as) vs bs) (hal : PySem.W.AllAlike (bs.map enc)) (hk : PySem.W.Sortable (bs.map enc)) (hL : bs.length ≤ sizeLine)
    (hu : ∀ b, b ∈ bs → A.units + 2 + (enc b).depth < cLine) (h : ∀ out, out.length = bs.length → PySem.W.EachIs R out (bs.mergeSort (PySem.W.dataLe false enc)) → Q (.ref (s.heap.objs.size + 1)) { s with heap := sortedAll s.heap vs (List.toArray out) }) :
    wpAny (model prog w) A (call (.builtin "sorted") [.ref l]) Q E s := by
  have er' : PySem.W.EachIs (fun v b => ∃ as, Reads (PySem.W.sortingHeap (PySem.W.copyHeap s.heap vs) (s.heap.objs.size + 1) vs) v (enc b) as) vs bs := er.mono fun _ _ ⟨as, r⟩ => ⟨as, PyProof.Rows.Reads.keeps (fun _ _ => PySem.W.sorting_copy_old) r⟩
  have S := PySem.W.SortsAt.data (prog := prog) (w := w) (A := A.in1.in1) (s := { s with heap := PySem.W.sortingHeap (PySem.W.copyHeap s.heap vs) (s.heap.objs.size + 1) vs }) (PySem.W.each_map (R := fun v d => ∃ as, Reads (PySem.W.sortingHeap (PySem.W.copyHeap s.heap vs) (s.heap.objs.size + 1) vs) v d as) enc er') hal hk (PySem.W.bound_map hu)
  have hh := h _ (by rw [PySem.W.sortVals_length false rfl]; exact e.length) (PySem.W.sortVals_data false e er' hal)
  exact sorted_of_sortSq hl (by rw [e.length]; exact hL) (args_sorted1 _) (fun _ => args_list_sort _) fun _ => PySem.W.list_sort_vals (s := { s with heap := PySem.W.copyHeap s.heap vs }) (PySem.W.copyHeap_at s.heap vs) S (by rw [e.length]; exact hL) ⟨rfl, hh⟩
end
end D8

namespace D8
open PySem PySem.Spec PyProof.Rows L2
section
variable {X : Cx} {pins : List (Addr × Obj)} {σ : L2.St} {H : Hp} {s : Shared} {K : PySem.W.Frag} {S : Addr → Prop}
theorem RVs.zip : ∀ {vs : List V} {ds : List PyData}, RVs K S H vs ds → ∀ p ∈ vs.zip ds, RV K S H p.1 p.2
  | _, _, .nil, p, h => by simp at h
  | _, _, .cons h r, p, hp => by
    rw [List.zip_cons_cons] at hp
    rcases List.mem_cons.mp hp with rfl | hp
    · exact h
    · exact RVs.zip r p hp
theorem RVs.unzip : ∀ {ps : List (V × PyData)}, (∀ p ∈ ps, RV K S H p.1 p.2) → RVs K S H (ps.map (·.1)) (ps.map (·.2))
  | [], _ => .nil
  | p :: ps, h => .cons (h p List.mem_cons_self) (RVs.unzip fun q hq => h q (List.mem_cons_of_mem _ hq))
theorem eachIs_of {R : Value → V × PyData → Prop} : ∀ {vs : List V} {ds : List PyData} {us : List Value}, Vals vs us → vs.length = ds.length → (∀ v d u, (v, d) ∈ vs.zip ds → RelV v u → R u (v, d)) → PySem.W.EachIs R us (vs.zip ds)
  | [], [], _, .nil, _, _ => .nil
  | v :: vs, d :: ds, _, .cons r t, hl, h => .cons (h v d _ (by simp) r) (eachIs_of t (by simpa using hl) fun v' d' u hm => h v' d' u (by rw [List.zip_cons_cons]; exact List.mem_cons_of_mem _ hm))
theorem vals_of {us : List Value} {bs : List (V × PyData)} (e : PySem.W.EachIs (fun u (b : V × PyData) => RelV b.1 u) us bs) : Vals (bs.map (·.1)) us := by
  induction e with
  | nil => exact .nil
  | cons h _ ih => exact .cons h ih
mutual
theorem alike_noDict : ∀ d : PyData, PySem.W.alike d d = true → d.hasDict = false
  | .none, _ => by simp [PyData.hasDict]
  | .bool _, _ => by simp [PyData.hasDict]
  | .int _, _ => by simp [PyData.hasDict]
  | .str _, _ => by simp [PyData.hasDict]
  | .list xs, h => by simp only [PyData.hasDict]; exact alikeAll_noDict xs (by simpa only [PySem.W.alike] using h)
  | .tuple xs, h => by simp only [PyData.hasDict]; exact alikeAll_noDict xs (by simpa only [PySem.W.alike] using h)
  | .dict _, h => by simp [PySem.W.alike] at h
theorem alikeAll_noDict : ∀ d : List PyData, PySem.W.alikeAll d d = true → PyData.hasDictAll d = false
  | [], _ => by simp [PyData.hasDictAll]
  | x :: xs, h => by
    simp only [PySem.W.alikeAll, Bool.and_eq_true] at h
    simp only [PyData.hasDictAll, alike_noDict x h.1, alikeAll_noDict xs h.2, Bool.or_self]
end
theorem pr_sorted (hu : X.A.units + 100 < cLine) : CallR X (.builtin "sorted") (rP X.K (prF .sorted)) := by
  intro pins s σ H xs us Q I r h
  obtain ⟨S, v, x, m, o, rfl, hS, ha, ef, q⟩ := one_of (f := sortF) (pr1 (fun _ => rfl) rfl fun _ _ _ => rfl) h
  simp only [sortF, bsi] at ef
  obtain ⟨ds, h1, ef⟩ := ef
  split at ef
  case isFalse => cases ef
  next hh =>
  cases ef
  obtain ⟨c1, c2, c3⟩ := hh
  obtain ⟨p, vs, rfl, t, rv⟩ := ha.toSeq h1
  obtain ⟨its, rr, sq, hz⟩ : ∃ its : List Value, Vals vs its ∧ SqAt s.heap p its.toArray ∧ vs.length ≤ sizeLine := by
    rcases t with t | t
    · obtain ⟨its, rr, ⟨o, n, e, c, _, d⟩, hz⟩ := I.list t.seq
      exact ⟨its, rr, ⟨o, e, .inl c, n, d⟩, hz⟩
    · obtain ⟨its, rr, ⟨o, e, c, n, d⟩, hz⟩ := I.tuple t
      exact ⟨its, rr, ⟨o, e, .inr c, n, d⟩, hz⟩
  match us, r with
  | [u], .cons ru .nil =>
  obtain rfl : u = .ref p := ru
  simp only [List.all_eq_true, decide_eq_true_eq] at c1 c3
  have len := rv.length
  have snd : (vs.zip ds).map (·.2) = ds := List.map_snd_zip (by omega)
  have hcan : ∀ p ∈ vs.zip ds, p.2.hasDict = false := fun p hp => by
    have hm : p.2 ∈ ds := (List.of_mem_zip hp).2
    have := c1 p.2 hm p.2 hm
    exact alike_noDict _ this
  have rd : PySem.W.EachIs (fun u (b : V × PyData) => ∃ as, Reads s.heap u b.2 as) its (vs.zip ds) := eachIs_of rr len fun v d u hm ru => by
    have hz := rv.zip _ hm
    exact Dp.reads I d v u ((hz.kp (S' := Any) (H' := H) ⟨fun _ _ e _ => e, fun _ _ e _ => e, fun _ _ _ _ => trivial⟩).dpD (hcan _ hm)) ru
  have rl : PySem.W.EachIs (fun u (b : V × PyData) => RelV b.1 u) its (vs.zip ds) := eachIs_of rr len fun v d u _ ru => ru
  refine sorted_dataSq (enc := Prod.snd) (bs := vs.zip ds) (vs := its) sq rl rd ?_ ?_ ?_ ?_ fun out hlen hout => ?_
  · rw [snd]; exact fun d hd d' hd' => c1 d hd d' hd'
  · rw [snd]
    unfold sortableB at c2
    rw [Bool.or_eq_true] at c2
    rcases c2 with c2 | c2
    · left; intro d hd
      have := List.all_eq_true.mp c2 d hd
      split at this
      · exact ⟨_, _, rfl⟩
      · cases this
    · right; intro d hd
      have := List.all_eq_true.mp c2 d hd
      split at this
      · cases this
      · cases this
      · next h1 h2 => exact ⟨h1, h2⟩
  · rw [List.length_zip]; omega
  · intro b hb
    have := c3 b.2 (List.of_mem_zip hb).2
    omega
  · have hv := vals_of hout
    obtain ⟨ep, he⟩ := PyProof.Rows.sortedAll_at s.heap its out.toArray
    have hb : ∀ p ∈ (vs.zip ds).mergeSort (PySem.W.dataLe false Prod.snd), RV X.K S H p.1 p.2 := fun p hp => rv.zip p ((List.mem_mergeSort).mp hp)
    have hr := RVs.unzip hb
    have ems : ((vs.zip ds).mergeSort (PySem.W.dataLe false Prod.snd)).map (·.2) = ds.mergeSort (PySem.W.dataLe false id) := by
      have hm := List.map_mergeSort (r := PySem.W.dataLe false (Prod.snd : V × PyData → PyData)) (s := PySem.W.dataLe false id) (f := Prod.snd) (l := vs.zip ds) (fun a _ b _ => rfl)
      rw [snd] at hm
      exact hm
    rw [ems] at hr
    have fr : H (s.heap.objs.size + 1) = none := I.hok.fresh (Nat.le_succ _)
    have ln : (((vs.zip ds).mergeSort (PySem.W.dataLe false Prod.snd)).map (·.1)).length ≤ sizeLine := by
      rw [List.length_map, List.length_mergeSort, List.length_zip]; omega
    refine ⟨.ref (s.heap.objs.size + 1), _, I.laid (t' := s.toks) (o := .lst (((vs.zip ds).mergeSort (PySem.W.dataLe false Prod.snd)).map (·.1))) (fun b ob hb => PyProof.Rows.sortedAll_old hb) (Nat.le_succ _) ⟨ln, out, _, hv, he⟩, rfl, q _ _ (Same.upd fr) (.lst fr hr hS)⟩
end
end D8

namespace D8
open PySem PySem.Spec PyProof.Rows L2
/-! ### min, max of a list -/
theorem readsAll_of {h : Heap} {us : List Value} {bs : List (V × PyData)} (e : PySem.W.EachIs (fun u (b : V × PyData) => ∃ as, Reads h u b.2 as) us bs) : ∃ as, ReadsAll h us (bs.map (·.2)) as := by
  induction e with
  | nil => exact ⟨_, .nil⟩
  | cons h _ ih =>
    obtain ⟨as, h⟩ := h
    obtain ⟨bs, ih⟩ := ih
    exact ⟨_, .cons h ih⟩
theorem eachIs_at {α : Type} {R : Value → α → Prop} {us : List Value} {bs : List α} (e : PySem.W.EachIs R us bs) : ∀ {i : Nat} {u : Value}, us[i]? = some u → ∃ b, bs[i]? = some b ∧ R u b := by
  induction e with
  | nil => intro i u h; simp at h
  | cons h _ ih =>
    intro i u hu
    cases i with
    | zero => simp at hu; subst hu; exact ⟨_, rfl, h⟩
    | succ i => obtain ⟨b, h1, h2⟩ := ih (by simpa using hu); exact ⟨b, by simpa using h1, h2⟩
theorem alikeB_ok {ds : List PyData} (h : alikeB ds = true) : PySem.W.AlikeAll ds ∧ PyData.depthAll ds ≤ 50 := by
  simp only [alikeB, Bool.and_eq_true, List.all_eq_true, decide_eq_true_eq] at h
  obtain ⟨⟨h1, h2⟩, h3⟩ := h
  refine ⟨⟨h1, fun x hx e => ?_⟩, h3⟩
  have := h2 x hx
  rw [e] at this
  cases this
section
variable {X : Cx} {pins : List (Addr × Obj)} {σ : L2.St} {H : Hp} {s : Shared} {K : PySem.W.Frag} {S : Addr → Prop}
theorem RVs.at {vs : List V} {ds : List PyData} (r : RVs K S H vs ds) {i : Nat} {d : PyData} (e : ds[i]? = some d) : ∃ v, vs[i]? = some v ∧ RV K S H v d := r.get e
/-- the list's items, read -/
theorem list_reads (I : Inv X pins σ H s) {vs : List V} {ds : List PyData} {its : List Value} (rv : RVs X.K S H vs ds) (rr : Vals vs its) (ha : ∀ d ∈ ds, d.hasDict = false) :
    ∃ as, ReadsAll s.heap its ds as := by
  have len := rv.length
  have snd : (vs.zip ds).map (·.2) = ds := List.map_snd_zip (by omega)
  have rd : PySem.W.EachIs (fun u (b : V × PyData) => ∃ as, Reads s.heap u b.2 as) its (vs.zip ds) := eachIs_of rr len fun v d u hm ru => by
    have hz := rv.zip _ hm
    exact Dp.reads I d v u ((hz.kp (S' := Any) (H' := H) ⟨fun _ _ e _ => e, fun _ _ e _ => e, fun _ _ _ _ => trivial⟩).dpD (ha _ (List.of_mem_zip hm).2)) ru
  have := readsAll_of rd
  rwa [snd] at this
theorem alikeAll_nd {ds : List PyData} (h : PySem.W.AlikeAll ds) : ∀ d ∈ ds, d.hasDict = false := fun d hd => alike_noDict _ (h.1 d hd d hd)
theorem pr_min1 (hu : X.A.units + 100 < cLine) (hc : X.calm = true) : CallR X (.builtin "min") (rP X.K (prF .min1)) := by
  intro pins s σ H xs us Q I r h
  obtain ⟨S, v, x, m, o, rfl, hS, ha, ef, q⟩ := one_of (f := min1F) (pr1 (fun _ => rfl) rfl fun _ _ _ => rfl) h
  simp only [min1F, bsi] at ef
  obtain ⟨ds, h1, ef⟩ := ef
  split at ef
  · cases ef
  next d ds =>
  split at ef
  case isFalse => cases ef
  next hh =>
  cases ef
  obtain ⟨al, dp⟩ := alikeB_ok hh
  obtain ⟨p, vs, rfl, t, rv⟩ := ha.toLst h1
  obtain ⟨its, rr, pl, hz⟩ := I.list t.seq
  match us, r with
  | [u], .cons ru .nil =>
  obtain rfl : u = .ref p := ru
  obtain ⟨as, rd⟩ := list_reads I rv rr (alikeAll_nd al)
  have hl : s.heap.IsList p its.toArray := pl.isList
  have hn : its.toArray.size = ds.length + 1 := PySem.W.readsAll_len rd
  refine call_min_walkH (PySem.W.iter_listW (A := X.A.in1) (I.ok.hd hc) hl fun s₂ e W st hfp hw hk => ?_)
  refine ⟨_, _, _, _, _, _, _, s.heap, _, rfl, W, st, hfp, by omega, hw, hk, PySem.W.cmpIn_lt (A := X.A.in1) rd al (by show X.A.units + 1 + _ < _; omega), fun v s' hP m => ?_⟩
  obtain ⟨h', tk, rfl, hk'⟩ := PySem.W.moved_old e rfl m
  have e2 := PySem.W.argBest_fold PySem.W.dataLt PyData.none d ds ds.length (Nat.le_refl _)
  rw [List.take_length] at e2
  have e1 : its.toArray.size - 1 = ds.length := by omega
  rw [e1] at hP
  generalize hi : argBest (fun i j => PySem.W.dataLt ((d :: ds).getD i PyData.none) ((d :: ds).getD j PyData.none)) ds.length = i at hP e2
  have hd : (d :: ds)[i]? = some (PySem.W.minD d ds) := by
    rw [List.getElem?_eq_getElem (by rw [List.length_cons]; omega)]
    have := e2.2
    rw [List.getD_eq_getElem?_getD, List.getElem?_eq_getElem (by rw [List.length_cons]; omega)] at this
    simp only [Option.getD_some] at this
    rw [this]; rfl
  obtain ⟨w, hw1, hw2⟩ := rv.get hd
  obtain ⟨u2, hu2, ru2⟩ := rr.get hw1
  have : u2 = v := by
    have hP : its[i]? = some v := by simpa using hP
    rw [hu2] at hP; exact Option.some.inj hP
  subst this
  exact ⟨w, H, I.kept hk', ru2, q _ _ (.refl _) (.im hw2)⟩
theorem pr_max1 (hu : X.A.units + 100 < cLine) (hc : X.calm = true) : CallR X (.builtin "max") (rP X.K (prF .max1)) := by
  intro pins s σ H xs us Q I r h
  obtain ⟨S, v, x, m, o, rfl, hS, ha, ef, q⟩ := one_of (f := max1F) (pr1 (fun _ => rfl) rfl fun _ _ _ => rfl) h
  simp only [max1F, bsi] at ef
  obtain ⟨ds, h1, ef⟩ := ef
  split at ef
  · cases ef
  next d ds =>
  split at ef
  case isFalse => cases ef
  next hh =>
  cases ef
  obtain ⟨al, dp⟩ := alikeB_ok hh
  obtain ⟨p, vs, rfl, t, rv⟩ := ha.toLst h1
  obtain ⟨its, rr, pl, hz⟩ := I.list t.seq
  match us, r with
  | [u], .cons ru .nil =>
  obtain rfl : u = .ref p := ru
  obtain ⟨as, rd⟩ := list_reads I rv rr (alikeAll_nd al)
  have hl : s.heap.IsList p its.toArray := pl.isList
  have hn : its.toArray.size = ds.length + 1 := PySem.W.readsAll_len rd
  refine call_max_walkH (PySem.W.iter_listW (A := X.A.in1) (I.ok.hd hc) hl fun s₂ e W st hfp hw hk => ?_)
  refine ⟨_, _, _, _, _, _, _, s.heap, _, rfl, W, st, hfp, by omega, hw, hk, PySem.W.cmpIn_gt (A := X.A.in1) rd al (by show X.A.units + 1 + _ < _; omega), fun v s' hP m => ?_⟩
  obtain ⟨h', tk, rfl, hk'⟩ := PySem.W.moved_old e rfl m
  have e2 := PySem.W.argBest_fold (fun a b => PySem.W.dataLt b a) PyData.none d ds ds.length (Nat.le_refl _)
  rw [List.take_length] at e2
  have e1 : its.toArray.size - 1 = ds.length := by omega
  rw [e1] at hP
  generalize hi : argBest (fun i j => PySem.W.dataLt ((d :: ds).getD j PyData.none) ((d :: ds).getD i PyData.none)) ds.length = i at hP e2
  have hd : (d :: ds)[i]? = some (PySem.W.maxD d ds) := by
    rw [List.getElem?_eq_getElem (by rw [List.length_cons]; omega)]
    have := e2.2
    rw [List.getD_eq_getElem?_getD, List.getElem?_eq_getElem (by rw [List.length_cons]; omega)] at this
    simp only [Option.getD_some] at this
    rw [this]; rfl
  obtain ⟨w, hw1, hw2⟩ := rv.get hd
  obtain ⟨u2, hu2, ru2⟩ := rr.get hw1
  have : u2 = v := by
    have hP : its[i]? = some v := by simpa using hP
    rw [hu2] at hP; exact Option.some.inj hP
  subst this
  exact ⟨w, H, I.kept hk', ru2, q _ _ (.refl _) (.im hw2)⟩
end
end D8

namespace D8
open PySem PySem.Spec PyProof.Rows L2
section
variable {X : Cx} {pins : List (Addr × Obj)} {σ : L2.St} {H : Hp} {s : Shared} {K : PySem.W.Frag} {S : Addr → Prop}
theorem RVs.atI {vs : List V} {ds : List PyData} {i : Int} {d : PyData} (r : RVs K S H vs ds) (e : L2.atI ds i = some d) : ∃ v, L2.atI vs i = some v ∧ RV K S H v d := by
  unfold L2.atI at e ⊢
  rw [r.length]
  cases h : ixN ds.length i with
  | none => rw [h] at e; cases e
  | some j => rw [h] at e; exact r.get e
def rIxK : R2 := fun x y H Q => ∃ a kvs k v, x = .ref a ∧ y = kV k ∧ Rd H a (.dK kvs) ∧ valV kvs k = some v ∧ Q v H
theorem ix_key (hu : X.A.units + 1 < cLine) : IxR X rIxK := by
  intro value slice pins s σ H x y v u Q I rx ry ⟨a, kvs, k, z, ex, ey, e, ev, q⟩ hs
  subst ex ey
  obtain rfl : v = Value.ref a := rx
  have g : DGet H a (kV k) (some z) := .inl ⟨kvs, k, e, rfl, ev.symm⟩
  exact tail_any (dict_typeIs I g) PySem.F.slot_dict_getitem.lookup (d_getItem hu I g ry fun w' s3 I3 rw' => ⟨z, H, I3, rw', q⟩) hs
theorem RMk.get (k : Key) {m : M} : ∀ {vs : List (Key × V)} {ms : List (Key × M)} {o : List Addr}, RMk K S H vs ms o → mdGet ms k = some m → ∃ v o', valV vs k = some v ∧ RM K S H v m o'
  | _, _, _, .nil, e => by cases e
  | _, (_, m0) :: ms0, _, .cons (k := k') h r, e => by
    by_cases ek : k' = k
    · have : mdGet ((k', m0) :: ms0) k = some m0 := by simp only [mdGet, List.find?_cons, ek, decide_true, Option.map_some]
      rw [this] at e; cases e
      exact ⟨_, _, valV_pos (show (k', _).1 = k from ek), h⟩
    · have : mdGet ((k', m0) :: ms0) k = mdGet ms0 k := by simp only [mdGet, List.find?_cons, ek, decide_false]
      rw [this] at e
      obtain ⟨v, o', h1, h2⟩ := RMk.get k r e
      exact ⟨v, o', by rw [valV_neg (show ¬ (k', _).1 = k from ek)]; exact h1, h2⟩
theorem RMs.getM : ∀ {vs : List V} {ms : List M} {os : List Addr} {i : Nat} {m : M}, RMs K S H vs ms os → ms[i]? = some m → ∃ v o, vs[i]? = some v ∧ RM K S H v m o
  | _, _, _, _, _, .nil, e => by simp at e
  | _, _, _, 0, m, .cons h r, e => by simp at e; subst e; exact ⟨_, _, rfl, h⟩
  | _, _, _, i + 1, m, .cons h r, e => by
    obtain ⟨v, o, h1, h2⟩ := RMs.getM (i := i) r (by simpa using e)
    exact ⟨v, o, by simpa using h1, h2⟩
theorem pr_idx (hu : X.A.units + 1 < cLine) : IxR X (fun x y => rP X.K (prF .idx) [x, y]) := by
  refine IxR.weak (ix_str.or ((ix_key hu).or (ix_list.or ix_tup))) fun x y H Q ⟨S, ms, m, hS, pk, ef, q⟩ => ?_
  obtain ⟨a, b, rfl, ⟨o1, ha⟩, o2, hb⟩ := pk.two'
  have ef : idxF a b = some m := ef
  unfold idxF at ef
  split at ef
  · obtain rfl := ha.toStr; obtain rfl := hb.toInt
    split at ef
    · next h =>
      rw [msi] at ef
      obtain ⟨c, h1, rfl⟩ := ef
      exact .inl ⟨_, _, c, rfl, rfl, h, h1, q _ _ (.refl _) (.im (.str _))⟩
    · cases ef
  · simp only [bsi] at ef
    obtain ⟨k, h1, m', h2, ef⟩ := ef
    cases hb with
    | im hv =>
      obtain rfl := key_of hv h1
      cases ha with
      | md e r =>
        obtain ⟨v, o', h3, h4⟩ := r.get k h2
        split at ef
        · cases ef
          cases h4 with
          | im hd => exact .inr (.inl ⟨_, _, k, v, rfl, rfl, .inl e, h3, q _ _ (.refl _) (.im hd)⟩)
        · cases ef
  · obtain rfl := hb.toInt
    rw [bsi] at ef
    obtain ⟨m', h1, ef⟩ := ef
    cases ha with
    | ml e r =>
      unfold L2.atI at h1
      rw [bsi] at h1
      obtain ⟨j, h2, h3⟩ := h1
      obtain ⟨v, o', h4, h5⟩ := RMs.getM r h3
      split at ef
      · cases ef
        cases h5 with
        | im hd =>
          refine .inr (.inr (.inl ⟨_, _, _, v, rfl, rfl, SqL.of e, ?_, q _ _ (.refl _) (.im hd)⟩))
          unfold L2.atI
          rw [r.length, h2]
          exact h4
      · cases ef
  · simp only [bsi, msi] at ef
    obtain ⟨k, h1, d, h2, rfl⟩ := ef
    cases hb with
    | im hv =>
      obtain rfl := key_of hv h1
      cases ha with
      | im hd => cases hd with
        | dct e _ r =>
          obtain ⟨v, h3, h4⟩ := r.get k h2
          exact .inr (.inl ⟨_, _, k, v, rfl, rfl, e, h3, q _ _ (.refl _) (.im h4)⟩)
  · obtain rfl := hb.toInt
    simp only [bsi, msi] at ef
    obtain ⟨ds, h1, d, h2, rfl⟩ := ef
    obtain ⟨p, xs, rfl, t, r⟩ := ha.toSeq h1
    obtain ⟨v, h3, h4⟩ := r.atI h2
    rcases t with t | t
    · exact .inr (.inr (.inl ⟨p, xs, _, v, rfl, rfl, t.seq, h3, q _ _ (.refl _) (.im h4)⟩))
    · exact .inr (.inr (.inr ⟨p, xs, _, v, rfl, rfl, t, h3, q _ _ (.refl _) (.im h4)⟩))
  · cases ef
/-! slices -/
theorem RVs.cut {vs : List V} {ds : List PyData} (r : RVs K S H vs ds) (lo hi : Option Int) : RVs K S H (cutV vs lo hi) (cut ds lo hi) := by
  unfold cutV D8.cut
  rw [r.length]
  exact (r.drop _).take _
theorem cut_whole {α : Type} (xs : List α) (lo hi : Option Int) (h : HT.sIx xs.length 0 lo = 0 ∧ HT.sIx xs.length xs.length hi = xs.length) : cut xs lo hi = xs := by
  unfold cut
  rw [h.1, h.2, List.drop_zero, Nat.sub_zero, List.take_length]
theorem SlR.weak {r r' : V → Option Int → Option Int → Hp → VK → Prop} (h : L2.SlR X r) (w : ∀ x lo hi H Q, r' x lo hi H Q → r x lo hi H Q) : L2.SlR X r' := fun pins s σ H x v vl vu lo hi sl Q I rx hs pl pu q => h pins s σ H x v vl vu lo hi sl Q I rx hs pl pu (w x lo hi H Q q)
theorem pr_sl : L2.SlR X (fun x lo hi => rP X.K (fun ms => match ms with | [m] => slF m lo hi | _ => none) [x]) := by
  refine SlR.weak (sl_tupF.or (sl_str.or sl_list)) fun x lo hi H Q ⟨S, ms, m, hS, pk, ef, q⟩ => ?_
  obtain ⟨a, rfl, o1, ha⟩ := pk.one'
  have ef : slF a lo hi = some m := ef
  unfold slF at ef
  split at ef
  · obtain ⟨p, xs, rfl, t, nd, r⟩ := ha.toTupN
    cases ef
    refine .inl ⟨p, xs, rfl, t, fun w => ?_, fun _ n o hn ho => q _ _ (Same.upd hn) (.tup hn ho (r.cut lo hi))⟩
    rw [cut_whole _ lo hi (by rw [← r.length]; exact w)] at q
    exact q _ _ (.refl _) (.im (.tup t nd r))
  · obtain rfl := ha.toStr
    split at ef
    · next h => cases ef; exact .inr (.inl ⟨_, rfl, h, q _ _ (.refl _) (.im (.str _))⟩)
    · cases ef
  · rw [msi] at ef
    obtain ⟨ds, h1, rfl⟩ := ef
    obtain ⟨p, xs, rfl, t, r⟩ := ha.toLst h1
    exact .inr (.inr ⟨p, xs, rfl, t.seq, fun n hn => q _ _ (Same.upd hn) (.lst hn (r.cut lo hi) hS)⟩)
/-! isinstance -/
def isiOk (t : String) : Bool := t == "int" || t == "bool" || t == "tuple" || t == "str" || t == "list"
theorem sqT_ty {a : Addr} {xs : List V} (h : SqT K H a xs) : TyX K H (.ref a) (.type "tuple") := by
  rcases h with (h | ⟨o, h⟩) | ⟨o, its, n, h, hc, _⟩
  · exact .base (.tup h)
  · exact .fTuple h
  · exact .kTuple h hc
theorem isi_ty {v : V} {m : M} {o : List Addr} {t : String} {b : Bool} (hok : isiOk t = true) (h : RM K S H v m o) (e : isiF t m = some b) : (∃ ty, TyX K H v (.type ty) ∧ PySem.W.kitOne K (.type ty) (.type t) = some b) := by
  simp only [isiOk, Bool.or_eq_true, beq_iff_eq] at hok
  cases h with
  | im h => cases h with
    | non => refine ⟨"NoneType", .base .non, kit_ty ?_⟩; cases e; rcases hok with (((rfl | rfl) | rfl) | rfl) | rfl <;> decide +kernel
    | bl i => refine ⟨"bool", .base (.bl i), kit_ty ?_⟩; cases e; rcases hok with (((rfl | rfl) | rfl) | rfl) | rfl <;> decide +kernel
    | int i => refine ⟨"int", .base (.int i), kit_ty ?_⟩; cases e; rcases hok with (((rfl | rfl) | rfl) | rfl) | rfl <;> decide +kernel
    | str i => refine ⟨"str", .base (.str i), kit_ty ?_⟩; cases e; rcases hok with (((rfl | rfl) | rfl) | rfl) | rfl <;> decide +kernel
    | tup h n r => refine ⟨"tuple", sqT_ty h, kit_ty ?_⟩; cases e; rcases hok with (((rfl | rfl) | rfl) | rfl) | rfl <;> decide +kernel
    | lst h r =>
      have kl : PySem.W.kitOne K (.type "list") (.type t) = some b := kit_ty (by cases e; rcases hok with (((rfl | rfl) | rfl) | rfl) | rfl <;> decide +kernel)
      rcases h with ⟨h | ⟨ob, h⟩, _⟩ | ⟨its, n, h, _⟩
      · exact ⟨"list", .base (.lst h), kl⟩
      · exact ⟨"list", .base (.frz h), kl⟩
      · exact ⟨"list", .kList h rfl, kl⟩
    | dct h _ _ =>
      have kl : PySem.W.kitOne K (.type "dict") (.type t) = some b := kit_ty (by cases e; rcases hok with (((rfl | rfl) | rfl) | rfl) | rfl <;> decide +kernel)
      rcases h with h | ⟨ob, h⟩
      · exact ⟨"dict", .base (.dK h), kl⟩
      · exact ⟨"dict", .fDict h, kl⟩
  | ml h r => exact ⟨"list", .base (.lst h), kit_ty (by cases e; rcases hok with (((rfl | rfl) | rfl) | rfl) | rfl <;> decide +kernel)⟩
  | md h r => exact ⟨"dict", .base (.dK h), kit_ty (by cases e; rcases hok with (((rfl | rfl) | rfl) | rfl) | rfl <;> decide +kernel)⟩
end
end D8

namespace D8
open PySem PySem.Spec PyProof.Rows L2
def keepV : List V → List (Option M) → List V
  | v :: vs, some _ :: bs => v :: keepV vs bs
  | _ :: vs, none :: bs => keepV vs bs
  | _, _ => []
def keepM : List (Option M) → List M
  | some m :: bs => m :: keepM bs
  | none :: bs => keepM bs
  | [] => []
theorem keep_len : ∀ {vs : List V} {bs : List (Option M)}, vs.length = bs.length → (keepV vs bs).length = (keepM bs).length
  | [], [], _ => rfl
  | _ :: vs, some _ :: bs, h => congrArg (· + 1) (keep_len (vs := vs) (bs := bs) (by simpa using h))
  | _ :: vs, none :: bs, h => keep_len (vs := vs) (bs := bs) (by simpa using h)
/-- what a def promises, by a function -/
def spG (K : PySem.W.Frag) (np : Nat) (f : List M → Option (M × List (Option M))) : List V → Hp → VK → Prop := fun vs H Q => vs.length = np ∧ ∃ F Xs ms r bs, Good K F Xs H [] [] vs ms ∧ f ms = some (r, bs) ∧ bs.length = ms.length ∧
  ∀ v H', Good K F Xs H' [] [] (v :: keepV vs bs) (r :: keepM bs) → Q v H'
section
variable {K : PySem.W.Frag} {F : Hp} {Xs : List Addr} {H H' : Hp} {σ : L2.St} {env : EnvM} {T U : List V} {Tm Um : List M} {O1 O2 : List Addr}
theorem RMs.dim {S : Addr → Prop} : ∀ {U : List V} {Um : List M} {O : List Addr} {v : V} {m : M} {ws : List V} {ns : List M}, U.length = Um.length → RMs K S H (v :: (U ++ ws)) (m :: (Um ++ ns)) O → ∃ O', O'.Perm O ∧ RMs K S H (U ++ v :: ws) (Um ++ m :: ns) O'
  | [], [], O, v, m, ws, ns, _, h => ⟨O, .refl _, h⟩
  | x :: U, y :: Um, _, v, m, ws, ns, hl, .cons (os := o) hv (.cons (os := o1) (os' := o2) hx r) => by
    obtain ⟨O', p, r'⟩ := RMs.dim (U := U) (Um := Um) (by simpa using hl) (.cons hv r)
    refine ⟨o1 ++ O', ?_, .cons hx r'⟩
    refine (List.Perm.append_left o1 p).trans ?_
    rw [← List.append_assoc, ← List.append_assoc]
    exact List.Perm.append_right _ List.perm_append_comm
theorem Good.dim {v : V} {m : M} (hl : U.length = Um.length) (g : Good K F Xs H σ env (v :: (U ++ T)) (m :: (Um ++ Tm))) : Good K F Xs H σ env (U ++ v :: T) (Um ++ m :: Tm) := by
  obtain ⟨O1, O2, g⟩ := g
  obtain ⟨O', p, r⟩ := RMs.dim hl g.rt
  exact ⟨_, _, g.permT p r⟩
theorem Good.pushSlot (g : Good K F Xs H σ env T Tm) {i : Nat} {d : PyData} {v : V} (h : slot env i = some (.im d)) (hv : σ[i]? = some (some v)) : Good K F Xs H σ env (v :: T) (.im d :: Tm) := by
  obtain ⟨O1, O2, g⟩ := g
  obtain ⟨v', o, h1, h2⟩ := g.slot h
  rw [hv] at h1; cases h1
  cases h2 with
  | im r => exact (g.push r).good
theorem Good.take : ∀ {ops : List Op} {xs U : List V} {Um : List M} {T : List V} {Tm : List M} {env : EnvM} {ms : List M} {env' : EnvM}, D8.OpR σ xs ops U Um → Good K F Xs H σ env (U ++ T) (Um ++ Tm) → D8.take env ops = some (ms, env') → xs.length = ms.length ∧ Good K F Xs H σ env' (xs ++ T) (ms ++ Tm)
  | _, _, _, _, T, Tm, env, ms, env', .nil, g, e => by
    simp only [D8.take, Option.some.injEq, Prod.mk.injEq] at e
    obtain ⟨rfl, rfl⟩ := e
    exact ⟨rfl, g⟩
  | _, _, _, _, T, Tm, env, ms, env', .tm r, g, e => by
    simp only [D8.take, msi] at e
    obtain ⟨⟨ns, e1⟩, h1, h2⟩ := e
    cases h2
    obtain ⟨hl, g2⟩ := Good.take r (Good.dim r.lenU g) h1
    exact ⟨congrArg (· + 1) hl, g2.mid hl⟩
  | _, _, _, _, T, Tm, env, ms, env', .sl (i := i) (v := v) (vs := vs) (os := os) hv r, g, e => by
    simp only [D8.take, bsi] at e
    obtain ⟨m, h1, e⟩ := e
    have own : ∀ (ns : List M) (e1 : EnvM), D8.take (env.set i none) os = some (ns, e1) → (v :: vs).length = (m :: ns).length ∧ Good K F Xs H σ e1 (v :: vs ++ T) (m :: ns ++ Tm) := fun ns e1 ht => by
      obtain ⟨v', hv', g1⟩ := g.move h1
      rw [hv] at hv'; cases hv'
      obtain ⟨hl, g2⟩ := Good.take r (Good.dim r.lenU g1) ht
      exact ⟨congrArg (· + 1) hl, g2.mid hl⟩
    cases m with
    | im d =>
      simp only [msi] at e
      obtain ⟨⟨ns, e1⟩, ht, hh⟩ := e
      cases hh
      obtain ⟨hl, g2⟩ := Good.take r (Good.dim r.lenU (g.pushSlot h1 hv)) ht
      exact ⟨congrArg (· + 1) hl, g2.mid hl⟩
    | ml xs =>
      simp only [msi] at e
      obtain ⟨⟨ns, e1⟩, ht, hh⟩ := e
      cases hh
      exact own ns e1 ht
    | md xs =>
      simp only [msi] at e
      obtain ⟨⟨ns, e1⟩, ht, hh⟩ := e
      cases hh
      exact own ns e1 ht
theorem take_env_len : ∀ {ops : List Op} {env env' : EnvM} {ms : List M}, take env ops = some (ms, env') → env'.length = env.length
  | [], _, _, _, e => by simp only [D8.take, Option.some.injEq, Prod.mk.injEq] at e; rw [e.2]
  | .tm _ :: os, _, _, _, e => by
    simp only [D8.take, msi] at e
    obtain ⟨⟨ns, e1⟩, h1, h2⟩ := e
    cases h2; exact take_env_len h1
  | .sl i :: os, env, _, _, e => by
    simp only [D8.take, bsi] at e
    obtain ⟨m, h1, e⟩ := e
    cases m <;> simp only [msi] at e <;> obtain ⟨⟨ns, e1⟩, h1, h2⟩ := e <;> cases h2 <;> simpa using take_env_len h1
/-- what was lent comes back -/
theorem Good.give : ∀ {ops : List Op} {xs U : List V} {Um : List M} {bs : List (Option M)} {T : List V} {Tm : List M} {env0 env : EnvM} {ms : List M} {env1 : EnvM}, D8.OpR σ xs ops U Um → D8.take env0 ops = some (ms, env1) → xs.length = ms.length → bs.length = ms.length →
    Good K F Xs H σ env (keepV xs bs ++ T) (keepM bs ++ Tm) → Good K F Xs H σ (D8.give env ops ms bs) T Tm
  | _, _, _, _, bs, T, Tm, env0, env, ms, env1, .nil, e, hx, hb, g => by
    cases ms with
    | nil =>
      cases bs with
      | nil => simpa [D8.give, keepV, keepM] using g
      | cons _ _ => cases hb
    | cons _ _ => cases hx
  | _, _, _, _, bs, T, Tm, env0, env, ms, env1, .tm r, e, hx, hb, g => by
    simp only [D8.take, msi] at e
    obtain ⟨⟨ns, e1⟩, h1, h2⟩ := e
    cases h2
    match bs, hb with
    | b :: bs, hb =>
      simp only [D8.give]
      refine Good.give r h1 (by simpa using hx) (by simpa using hb) ?_
      cases b with
      | none => exact g
      | some m => exact Good.pop g
  | _, _, _, _, bs, T, Tm, env0, env, ms, env1, .sl (i := i) (v := v) (vs := vs) (os := os) hv r, e, hx, hb, g => by
    simp only [D8.take, bsi] at e
    obtain ⟨m, h1, e⟩ := e
    have fin : ∀ (ns : List M) (e0 e1 : EnvM) (b : Option M) (bs' : List (Option M)), D8.take e0 os = some (ns, e1) → vs.length = ns.length → bs'.length = ns.length → Good K F Xs H σ env (keepV (v :: vs) (b :: bs') ++ T) (keepM (b :: bs') ++ Tm) → Good K F Xs H σ (D8.give (env.set i b) os ns bs') T Tm := fun ns e0 e1 b bs' ht hx' hb' g => by
      cases b with
      | none =>
        have g2 := Good.forget g i (some v)
        rw [set_self hv] at g2
        exact Good.give r ht hx' hb' g2
      | some m' =>
        have hlen : i < env.length := by
          have := g.len
          have h2 := (List.getElem?_eq_some_iff.mp hv).1
          omega
        have g2 := Good.set g hlen
        rw [set_self hv] at g2
        exact Good.give r ht hx' hb' g2
    match bs, hb with
    | [], hb => simp only [List.length_nil] at hb; rw [← hb] at hx; cases hx
    | b :: bs, hb =>
      cases m with
      | im d =>
        simp only [msi] at e
        obtain ⟨⟨ns, e1⟩, ht, hh⟩ := e
        cases hh
        simp only [D8.give]
        refine Good.give r ht (by simpa using hx) (by simpa using hb) ?_
        cases b with
        | none => exact g
        | some m => exact Good.pop g
      | ml ys =>
        simp only [msi] at e
        obtain ⟨⟨ns, e1⟩, ht, hh⟩ := e
        cases hh
        simp only [D8.give]
        exact fin ns _ _ b bs ht (by simpa using hx) (by simpa using hb) g
      | md ys =>
        simp only [msi] at e
        obtain ⟨⟨ns, e1⟩, ht, hh⟩ := e
        cases hh
        simp only [D8.give]
        exact fin ns _ _ b bs ht (by simpa using hx) (by simpa using hb) g
/-- a call, at the state -/
theorem Good.call {A : List V} {Am : List M} {f : List M → Option (M × List (Option M))} {r : M} {bs : List (Option M)} {Q : VK} (g : Good K F Xs H σ env (A ++ T) (Am ++ Tm)) (hl : A.length = Am.length) (ef : f Am = some (r, bs)) (hb : bs.length = Am.length)
    (h : ∀ v H', Good K F Xs H' σ env (v :: (keepV A bs ++ T)) (r :: (keepM bs ++ Tm)) → Q v H') : spG K A.length f A H Q := by
  obtain ⟨O1, O2, g⟩ := g
  have gm := g
  obtain ⟨oA, oT, rfl, rA, blk⟩ := g.blk hl
  have nd := g.nd
  have mu := g.mu
  refine ⟨rfl, fun a => if a ∈ oA then none else H a, Xs ++ (O1 ++ oT), Am, r, bs, ⟨[], oA, ?_, .nil, ?_, fun a o e => ?_, fun a ha => ?_, fun a ha => ?_⟩, ef, hb, fun v H' g' => h v H' ?_⟩
  · simp only [List.nodup_append, List.mem_append, List.nil_append] at nd ⊢
    exact nd.2.1.1
  · refine rA.kp (.same (.refl _) fun a s => ⟨fun z => s.1 (by simp only [List.nil_append] at z; simp [z]), fun z => ?_⟩) fun _ _ => rfl
    simp only [List.mem_append] at z
    rcases z with z | z | z
    · exact s.2 z
    · exact s.1 (by simp [z])
    · exact s.1 (by simp [z])
  · split at e
    · cases e
    · exact e
  · simp only [List.nil_append] at ha
    exact if_pos ha
  · simp only [List.mem_append] at ha
    have na : a ∉ oA := fun z => by
      rcases ha with y | y | y
      · exact g.notX a (by simp [z]) y
      · simp only [List.nodup_append, List.mem_append] at nd; exact nd.2.2 a y a (.inl z) rfl
      · simp only [List.nodup_append, List.mem_append] at nd; exact nd.2.1.2.2 a z a y rfl
    show ∃ o, (if a ∈ oA then none else H a) = some o
    rw [if_neg na]
    rcases ha with y | y | y
    · exact g.xsH a y
    · obtain ⟨u, e, _⟩ := mu a (by simp [y]); exact ⟨u, e⟩
    · obtain ⟨u, e, _⟩ := mu a (by simp [y]); exact ⟨u, e⟩
  · obtain ⟨P1, P2, g'⟩ := g'
    have hP1 : P1 = [] := by have := g'.re; cases this; rfl
    subst hP1
    have := blk H' (v :: keepV A bs) (r :: keepM bs) P2 (fun a x e na => g'.frame a x (by show (if a ∈ oA then none else H a) = some x; rw [if_neg na]; exact e)) (by simpa using g'.nd) (fun a ha => ?_) fun S' k fr ow => ?_
    · exact this
    · have := g'.dis a (by simpa using ha)
      by_cases z : a ∈ oA
      · exact .inl z
      · exact .inr (by rw [← this]; exact (if_neg z).symm)
    · refine g'.rt.kp (.same (.refl _) fun a s => ?_) fun _ _ => rfl
      have n1 : a ∉ P2 := fun z => s.1 (by simp [z])
      cases e : H a with
      | none => exact fr a e n1
      | some x =>
        by_cases z : a ∈ oA
        · exact ow a z n1
        · refine k.ok a x e ⟨fun y => ?_, fun y => s.2 (by simp [y])⟩
          simp only [List.mem_append] at y
          rcases y with y | y | y
          · exact s.2 (by simp [y])
          · exact z y
          · exact s.2 (by simp [y])
end
end D8

namespace D8
open PySem PySem.Spec PyProof.Rows L2

/-! ### sources of enumerate and zip -/
inductive Sr where
  | l (a : Addr) | t (a : Addr) | s (x : Str) (k : Tok)
def Sr.val : Sr → Value
  | .l a => .ref a
  | .t a => .ref a
  | .s x k => .str x k
def Sr.obj : Sr → Obj
  | .l a => { cls := .type "list_iterator", data := .fields #[.ref a, .int 0 0] }
  | .t a => { cls := .type "tuple_iterator", data := .fields #[.ref a, .int 0 0] }
  | .s x k => { cls := .type (strIterType x), data := .fields #[.str x k, .int 0 0] }
def Sr.at (r : Sr) (it : Addr) (i : Nat) (h : Heap) : Prop := match r with
  | .l a => h.IsListIter it a i
  | .t a => h.IsTupleIter it a i
  | .s x k => h.IsStrIter it (strIterType x) x k i
def Sr.has (K : PySem.W.Frag) (H : Hp) (r : Sr) (vs : List V) : Prop := match r with
  | .l a => SqL K H a vs
  | .t a => SqT K H a vs
  | .s x k => vs = x.cps.toList.map fun c => V.str ⟨#[c]⟩
theorem Sr.at_begin {r : Sr} {h : Heap} {it : Addr} (e : h.get? it = some r.obj) : r.at it 0 h := by
  cases r with
  | l a => exact ⟨_, e, rfl, rfl⟩
  | t a => exact ⟨_, e, rfl, rfl⟩
  | s x k => exact ⟨_, e, rfl, rfl⟩
theorem Sr.at_obj {r : Sr} {h : Heap} {it : Addr} {i : Nat} (e : r.at it i h) : ∃ o, h.get? it = some o ∧ ∀ v, o.data ≠ .cell v := by
  cases r with
  | l a => obtain ⟨o, ho, hc, hd⟩ := e; exact ⟨o, ho, fun v q => by rw [hd] at q; cases q⟩
  | t a => obtain ⟨o, ho, hc, hd⟩ := e; exact ⟨o, ho, fun v q => by rw [hd] at q; cases q⟩
  | s x k => obtain ⟨o, ho, hc, hd⟩ := e; exact ⟨o, ho, fun v q => by rw [hd] at q; cases q⟩
theorem Sr.at_keep {r : Sr} {h h' : Heap} {it : Addr} {i : Nat} (e : r.at it i h) (k : ∀ o, h.get? it = some o → h'.get? it = some o) : r.at it i h' := by
  cases r with
  | l a => obtain ⟨o, ho, q⟩ := e; exact ⟨o, k o ho, q⟩
  | t a => obtain ⟨o, ho, q⟩ := e; exact ⟨o, k o ho, q⟩
  | s x k' => obtain ⟨o, ho, q⟩ := e; exact ⟨o, k o ho, q⟩
section
variable {X : Cx} {pins : List (Addr × Obj)} {σ : L2.St} {H : Hp} {s : Shared}
/-- it begins, at the moment -/
theorem Sr.begins {r : Sr} {vs : List V} (I : Inv X pins σ H s) (h : r.has X.K H vs) : ∃ Hh : Heap → Prop, Begins r.val r.obj Hh ∧ Hh s.heap := by
  cases r with
  | l a => obtain ⟨its, rv, p, _⟩ := I.list h; exact ⟨_, begins_list a its.toArray, p.isList⟩
  | t a => obtain ⟨its, rv, p, _⟩ := I.tuple h; exact ⟨_, begins_tuple a its.toArray, p⟩
  | s x k => exact ⟨_, begins_text x k, trivial⟩
/-- what it draws, at the moment -/
theorem Sr.draws {r : Sr} {vs : List V} {it : Addr} {i : Nat} (A : Around) (hh : A.handled = none) (I : Inv X pins σ H s) (h : r.has X.K H vs) (e : r.at it i s.heap) :
    ∃ (fp : List Addr) (St : Nat → Heap → Prop), Draws X.prog X.w A it (it :: fp) vs.length (fun i v => ∃ x, vs[i]? = some x ∧ RelV x v) St ∧ (∀ j, r.at it j s.heap → St j s.heap) ∧ (∀ j h, St j h → r.at it j h) ∧ ∀ b ∈ fp, ∃ o, s.heap.get? b = some o ∧ (o.cls = .type "list" ∨ o.cls = .type "tuple") := by
  cases r with
  | l a =>
    obtain ⟨its, rv, p, _⟩ := I.list h
    have ne : a ≠ it := by
      rintro rfl
      obtain ⟨o, ho, hc, _⟩ := e
      obtain ⟨o', n, ho', hc', _⟩ := p
      rw [ho] at ho'; cases ho'; rw [hc] at hc'; exact absurd hc' (by simp)
    have D := Draws.list (prog := X.prog) (w := X.w) (A := A) hh it a ne its.toArray
    refine ⟨[a], _, ⟨D.live, D.frame, fun i s' Q E hi st hQ => D.item i s' Q E (by rw [List.size_toArray, ← rv.length]; exact hi) st fun x h' tk hx => hQ x h' tk ?_, fun s' Q E st hE => D.done s' Q E (by rw [List.size_toArray, ← rv.length]; exact st) hE⟩, fun j q => ⟨q, p.isList⟩, fun j h q => q.1, fun b hb => ?_⟩
    · have hi' : i < vs.length := hi
      obtain ⟨u, hu, ru⟩ := rv.get (List.getElem?_eq_getElem hi')
      have hx' : its[i]? = some x := by simpa using hx
      rw [hu] at hx'; cases hx'
      exact ⟨_, List.getElem?_eq_getElem hi', ru⟩
    · obtain ⟨o', n, ho', hc', _⟩ := p
      have : b = a := by simpa using hb
      subst this; exact ⟨o', ho', .inl hc'⟩
  | t a =>
    obtain ⟨its, rv, p, _⟩ := I.tuple h
    have ne : a ≠ it := by
      rintro rfl
      obtain ⟨o, ho, hc, _⟩ := e
      obtain ⟨o', ho', hc', _⟩ := p
      rw [ho] at ho'; cases ho'; rw [hc] at hc'; exact absurd hc' (by simp)
    have D := Draws.tuple (prog := X.prog) (w := X.w) (A := A) hh it a ne its.toArray
    refine ⟨[a], _, ⟨D.live, D.frame, fun i s' Q E hi st hQ => D.item i s' Q E (by rw [List.size_toArray, ← rv.length]; exact hi) st fun x h' tk hx => hQ x h' tk ?_, fun s' Q E st hE => D.done s' Q E (by rw [List.size_toArray, ← rv.length]; exact st) hE⟩, fun j q => ⟨q, p⟩, fun j h q => q.1, fun b hb => ?_⟩
    · have hi' : i < vs.length := hi
      obtain ⟨u, hu, ru⟩ := rv.get (List.getElem?_eq_getElem hi')
      have hx' : its[i]? = some x := by simpa using hx
      rw [hu] at hx'; cases hx'
      exact ⟨_, List.getElem?_eq_getElem hi', ru⟩
    · obtain ⟨o', ho', hc', _⟩ := p
      have : b = a := by simpa using hb
      subst this; exact ⟨o', ho', .inr hc'⟩
  | s x k =>
    have h : vs = x.cps.toList.map fun c => V.str ⟨#[c]⟩ := h
    subst h
    have D := Draws.text (prog := X.prog) (w := X.w) (A := A) hh it x k
    have hl : (x.cps.toList.map fun c => V.str ⟨#[c]⟩).length = x.cps.size := by simp
    refine ⟨[], _, ⟨D.live, D.frame, fun i s' Q E hi st hQ => D.item i s' Q E (by rw [← hl]; exact hi) st fun v h' tk hx => hQ v h' tk ?_, fun s' Q E st hE => D.done s' Q E (by rw [← hl]; exact st) hE⟩, fun j q => q, fun j h q => q, fun b hb => absurd hb List.not_mem_nil⟩
    obtain ⟨c, u, h1, rfl⟩ := hx
    exact ⟨.str ⟨#[c]⟩, by rw [List.getElem?_map, Array.getElem?_toList, h1]; rfl, ⟨u, rfl⟩⟩
theorem Sr.inj {r : Sr} {vs ws : List V} (I : Inv X pins σ H s) (h : r.has X.K H vs) (h' : r.has X.K H ws) : vs = ws := by
  cases r with
  | l a => exact I.list_inj h h'
  | t a => exact I.tuple_inj h h'
  | s x k => exact Eq.trans h (Eq.symm h')
/-- iterator records have turned -/
theorem Inv.turnedL {t' : Nat} {ch : List Addr} {h' : Heap} (I : Inv X pins σ H s) (k : ∀ b o, b ∉ ch → s.heap.get? b = some o → h'.get? b = some o) (hf : ∀ b ∈ ch, FpOk X pins H b) : Inv X pins σ H { s with heap := h', toks := t' } := by
  have nit : ∀ b u, H b = some u → b ∉ ch := fun b u e z => by rw [(hf b z).1] at e; cases e
  refine I.step (g' := s.gens) (d' := s.drawn) (ch := ch) (fun b hb => ?_) (fun b o _ _ hc e _ => k b o hc e) (fun b o _ _ hc e _ => ⟨o.slots, k b o hc e⟩) (fun _ _ _ _ n => n) (fun b o hc e => ⟨o, k b o hc e⟩) (fun _ _ e => e) (fun _ _ _ e => e) (fun b ps e => ⟨#[], by rw [e]; simp⟩) (fun m hm => ?_) (fun b u e => ?_) I.bare
  · have f := hf b hb
    exact ⟨f.2.2.2.1, f.2.1, f.2.2.2.2.1, f.2.2.2.2.2⟩
  · obtain ⟨o, es, ep, ho, r⟩ := hm
    exact ⟨o, es, ep, k _ o (fun z => (hf _ z).2.1 rfl) ho, r⟩
  · refine (I.hok b u e).stay (fun c v hc q => k c v ?_ q) (fun _ q => q) fun _ _ q => q
    rcases hc with z | z
    · rw [z]; exact nit b u e
    · exact nit c _ z
end
/-- pairs: at turn i a new tuple of what the sources give -/
def Jen (K : PySem.W.Frag) (r : Sr) : It :=
  ⟨fun i H => ∃ vs, r.has K H vs ∧ i < vs.length, fun i H v H' => ∃ T x, v = .ref T ∧ H T = none ∧ H' = upd H T (.tup [.int (i : Nat), x]) ∧ ∀ vs, r.has K H vs → vs[i]? = some x, fun i H => ∃ vs, r.has K H vs ∧ i = vs.length⟩
theorem turn_en {P : Program} {w : World} {K : PySem.W.Frag} {elts : List Expr} {kk : Nat} {tpos : Pos} (r : Sr) (e it : Addr) :
    Turn P w K (.Tuple elts kk tpos) (Jen K r) [e, it] e (fun i h => (∃ old, IsEnum h e it ((0 : Int) + (i : Nat)) old) ∧ r.at it i h ∧ e ≠ it) where
  mem := by simp
  obj := fun i h ⟨⟨old, he⟩, hr, _⟩ b hb => by
    rcases (show b = e ∨ b = it by simpa using hb) with z | z
    · rw [z]; exact ⟨_, he, fun v q => nomatch q⟩
    · rw [z]; exact Sr.at_obj hr
  keep := fun i h h' ⟨⟨old, he⟩, hr, ne⟩ k => ⟨⟨old, k e (by simp) _ he⟩, Sr.at_keep hr fun o q => k it (by simp) o q, ne⟩
  item := by
    intro X hP hw hK hc i pins s σ H E I hf ⟨⟨old, he⟩, hr, ne⟩ ⟨vs, hv, hi⟩
    subst hP hw hK
    obtain ⟨fp, St, D, d1, d2, d3⟩ := Sr.draws X.A.in1 (I.ok.hd hc) I hv hr
    have nef : e ∉ it :: fp := fun z => by
      rcases List.mem_cons.mp z with z | z
      · exact ne z
      · obtain ⟨o, ho, hcl⟩ := d3 e z
        have he2 : s.heap.get? e = some _ := he
        rw [ho] at he2; cases he2
        rcases hcl with q | q <;> exact absurd q (by simp)
    have G := GoesN.enumFrom (elts := elts) (x1 := kk) (pos := tpos) (A := X.A) 0 D e ne nef List.mem_cons_self
    refine G.goes i s _ E hi ⟨⟨old, he⟩, d1 i hr⟩ fun v h' tk ⟨T, t, x, ev, hT, ⟨xv, hx, rx⟩, htup⟩ st' kept _ => ?_
    have new : ObjOk X.prog X.w (upd H T (.tup [.int (i : Nat), xv])) h' T (.tup [.int (i : Nat), xv]) := ⟨by show 2 ≤ sizeLine; decide, [.int (0 + (i : Nat)) t, x], .cons ⟨t, by rw [Int.zero_add]⟩ (.cons rx .nil), htup⟩
    have I2 := I.turnedNew (t' := tk) (ch := [e, it]) kept hf hT new
    have hn : H T = none := I.hok.fresh hT
    refine ⟨.ref T, _, I2, ev.symm ▸ rfl, ⟨T, xv, rfl, hn, rfl, fun vs' hv' => by rw [Sr.inj I hv' hv]; exact hx⟩, ⟨?_, d2 _ _ st'.2, ne⟩, fun b hb => ?_⟩
    · obtain ⟨old2, q⟩ := st'.1
      exact ⟨old2, q⟩
    · rw [upd_ne]
      · exact (hf b hb).1
      · rintro rfl
        obtain ⟨o, ho⟩ : ∃ o, s.heap.get? b = some o := by
          rcases (show b = e ∨ b = it by simpa using hb) with z | z
          · rw [z]; exact ⟨_, he⟩
          · rw [z]; obtain ⟨o, ho, _⟩ := Sr.at_obj hr; exact ⟨o, ho⟩
        exact absurd (Nat.lt_of_lt_of_le (Heap.lt_size ho) hT) (Nat.lt_irrefl _)
  done := by
    intro X hP hw hK hc i pins s σ H E I hf ⟨⟨old, he⟩, hr, ne⟩ ⟨vs, hv, hi⟩
    subst hP hw hK hi
    obtain ⟨fp, St, D, d1, d2, d3⟩ := Sr.draws X.A.in1 (I.ok.hd hc) I hv hr
    have nef : e ∉ it :: fp := fun z => by
      rcases List.mem_cons.mp z with z | z
      · exact ne z
      · obtain ⟨o, ho, hcl⟩ := d3 e z
        have he2 : s.heap.get? e = some _ := he
        rw [ho] at he2; cases he2
        rcases hcl with q | q <;> exact absurd q (by simp)
    have G := GoesN.enumFrom (elts := elts) (x1 := kk) (pos := tpos) (A := X.A) 0 D e ne nef List.mem_cons_self
    exact G.stops s _ E ⟨⟨old, he⟩, d1 _ hr⟩ fun h' tk kept _ => Inv.turnedL I kept hf
  self := fun A i s Q E ⟨⟨old, he⟩, _, _⟩ hQ => wpAny_pyIter_enum he hQ
end D8

namespace D8
open PySem PySem.Spec PyProof.Rows L2
def Sr.lt (r : Sr) (N : Nat) : Prop := match r with
  | .l a => a < N
  | .t a => a < N
  | .s _ _ => True
section
variable {X : Cx} {pins : List (Addr × Obj)} {σ : L2.St} {H : Hp} {s : Shared}
theorem Sr.lt_of {r : Sr} {vs : List V} (I : Inv X pins σ H s) (h : r.has X.K H vs) : r.lt s.heap.objs.size := by
  cases r with
  | l a => obtain ⟨its, rv, ⟨o, n, ho, _⟩, _⟩ := I.list h; exact Heap.lt_size ho
  | t a => obtain ⟨its, rv, ⟨o, ho, _⟩, _⟩ := I.tuple h; exact Heap.lt_size ho
  | s x k => trivial
/-- what it draws, the address of the source told -/
theorem Sr.draws' {r : Sr} {vs : List V} {it : Addr} {i : Nat} {N : Nat} (A : Around) (hh : A.handled = none) (I : Inv X pins σ H s) (h : r.has X.K H vs) (e : r.at it i s.heap) (hl : r.lt N) (hN : N ≤ it) :
    ∃ (fp : List Addr) (St : Nat → Heap → Prop), Draws X.prog X.w A it (it :: fp) vs.length (fun i v => ∃ x, vs[i]? = some x ∧ RelV x v) St ∧ (∀ j, r.at it j s.heap → St j s.heap) ∧ (∀ j h, St j h → r.at it j h) ∧ ∀ b ∈ fp, b < N := by
  cases r with
  | l a =>
    obtain ⟨its, rv, p, _⟩ := I.list h
    have hl : a < N := hl
    have ne : a ≠ it := fun z => by rw [z] at hl; exact absurd (Nat.lt_of_lt_of_le hl hN) (Nat.lt_irrefl _)
    have D := Draws.list (prog := X.prog) (w := X.w) (A := A) hh it a ne its.toArray
    refine ⟨[a], _, ⟨D.live, D.frame, fun i s' Q E hi st hQ => D.item i s' Q E (by rw [List.size_toArray, ← rv.length]; exact hi) st fun x h' tk hx => hQ x h' tk ?_, fun s' Q E st hE => D.done s' Q E (by rw [List.size_toArray, ← rv.length]; exact st) hE⟩, fun j q => ⟨q, p.isList⟩, fun j h q => q.1, fun b hb => ?_⟩
    · have hi' : i < vs.length := hi
      obtain ⟨u, hu, ru⟩ := rv.get (List.getElem?_eq_getElem hi')
      have hx' : its[i]? = some x := by simpa using hx
      rw [hu] at hx'; cases hx'
      exact ⟨_, List.getElem?_eq_getElem hi', ru⟩
    · have : b = a := by simpa using hb
      subst this; exact hl
  | t a =>
    obtain ⟨its, rv, p, _⟩ := I.tuple h
    have hl : a < N := hl
    have ne : a ≠ it := fun z => by rw [z] at hl; exact absurd (Nat.lt_of_lt_of_le hl hN) (Nat.lt_irrefl _)
    have D := Draws.tuple (prog := X.prog) (w := X.w) (A := A) hh it a ne its.toArray
    refine ⟨[a], _, ⟨D.live, D.frame, fun i s' Q E hi st hQ => D.item i s' Q E (by rw [List.size_toArray, ← rv.length]; exact hi) st fun x h' tk hx => hQ x h' tk ?_, fun s' Q E st hE => D.done s' Q E (by rw [List.size_toArray, ← rv.length]; exact st) hE⟩, fun j q => ⟨q, p⟩, fun j h q => q.1, fun b hb => ?_⟩
    · have hi' : i < vs.length := hi
      obtain ⟨u, hu, ru⟩ := rv.get (List.getElem?_eq_getElem hi')
      have hx' : its[i]? = some x := by simpa using hx
      rw [hu] at hx'; cases hx'
      exact ⟨_, List.getElem?_eq_getElem hi', ru⟩
    · have : b = a := by simpa using hb
      subst this; exact hl
  | s x k =>
    obtain ⟨fp, St, D, d1, d2, d3⟩ := Sr.draws A hh I h e
    have h : vs = x.cps.toList.map fun c => V.str ⟨#[c]⟩ := h
    subst h
    have D := Draws.text (prog := X.prog) (w := X.w) (A := A) hh it x k
    have hl : (x.cps.toList.map fun c => V.str ⟨#[c]⟩).length = x.cps.size := by simp
    refine ⟨[], _, ⟨D.live, D.frame, fun i s' Q E hi st hQ => D.item i s' Q E (by rw [← hl]; exact hi) st fun v h' tk hx => hQ v h' tk ?_, fun s' Q E st hE => D.done s' Q E (by rw [← hl]; exact st) hE⟩, fun j q => q, fun j h q => q, fun b hb => absurd hb List.not_mem_nil⟩
    obtain ⟨c, u, h1, rfl⟩ := hx
    exact ⟨.str ⟨#[c]⟩, by rw [List.getElem?_map, Array.getElem?_toList, h1]; rfl, ⟨u, rfl⟩⟩
end
def Jzp (K : PySem.W.Frag) (r q : Sr) : It :=
  ⟨fun i H => ∃ vs ws, r.has K H vs ∧ q.has K H ws ∧ i < min vs.length ws.length, fun i H v H' => ∃ T x y, v = .ref T ∧ H T = none ∧ H' = upd H T (.tup [x, y]) ∧ (∀ vs, r.has K H vs → vs[i]? = some x) ∧ ∀ ws, q.has K H ws → ws[i]? = some y, fun i H => ∃ vs ws, r.has K H vs ∧ q.has K H ws ∧ i = min vs.length ws.length⟩
theorem turn_zp {P : Program} {w : World} {K : PySem.W.Frag} {elts : List Expr} {kk : Nat} {tpos : Pos} (r q : Sr) (N : Nat) :
    Turn P w K (.Tuple elts kk tpos) (Jzp K r q) [N + 4, N + 2, N + 3, N, N + 1] (N + 4) (fun i h => IsZip h (N + 4) (N + 2) (N + 3) .none ∧ IsTupOf2 h (N + 2) (.ref N) (.ref (N + 1)) ∧ (∃ a1 a2, IsTupOf2 h (N + 3) a1 a2) ∧ r.at N i h ∧ q.at (N + 1) i h ∧ r.lt N ∧ q.lt N) where
  mem := by simp
  obj := fun i h ⟨h1, h2, ⟨a1, a2, h3⟩, h4, h5, _⟩ b hb => by
    rcases (show b = N + 4 ∨ b = N + 2 ∨ b = N + 3 ∨ b = N ∨ b = N + 1 by simpa using hb) with z | z | z | z | z <;> subst z
    · obtain ⟨o, ho, hd⟩ : ∃ o, h.get? (N + 4) = some o ∧ ∀ v, o.data ≠ .cell v := ⟨_, h1, fun v q => nomatch q⟩
      exact ⟨o, ho, hd⟩
    · exact ⟨_, h2, fun v q => nomatch q⟩
    · exact ⟨_, h3, fun v q => nomatch q⟩
    · exact Sr.at_obj h4
    · exact Sr.at_obj h5
  keep := fun i h h' ⟨h1, h2, ⟨a1, a2, h3⟩, h4, h5, h6⟩ k => ⟨k _ (by simp) _ h1, k _ (by simp) _ h2, ⟨a1, a2, k _ (by simp) _ h3⟩, Sr.at_keep h4 fun o e => k _ (by simp) o e, Sr.at_keep h5 fun o e => k _ (by simp) o e, h6⟩
  item := by
    intro X hP hw hK hc i pins s σ H E I hf ⟨h1, h2, h3, h4, h5, l1, l2⟩ ⟨vs, ws, hv, hw', hi⟩
    subst hP hw hK
    obtain ⟨fp, St, D, d1, d2, d3⟩ := Sr.draws' X.A.in1 (I.ok.hd hc) I hv h4 l1 (Nat.le_refl _)
    obtain ⟨gp, St', D', d1', d2', d3'⟩ := Sr.draws' X.A.in1 (I.ok.hd hc) I hw' h5 l2 (Nat.le_succ _)
    have G := GoesN.zip2 (elts := elts) (x1 := kk) (pos := tpos) (A := X.A) (zip_sep2 d3 d3') D D'
    refine G.goes i s _ E hi ⟨h1, h2, h3, d1 i h4, d1' i h5⟩ fun v h' tk ⟨T, x, y, ev, hT, ⟨xv, hx, rx⟩, ⟨yv, hy, ry⟩, htup⟩ st' kept _ => ?_
    have new : ObjOk X.prog X.w (upd H T (.tup [xv, yv])) h' T (.tup [xv, yv]) := ⟨by show 2 ≤ sizeLine; decide, [x, y], .cons rx (.cons ry .nil), htup⟩
    have I2 := I.turnedNew (t' := tk) (ch := [N + 4, N + 3, N, N + 1]) kept (fun b hb => hf b (by simp at hb ⊢; rcases hb with z | z | z | z <;> simp [z])) hT new
    have hn : H T = none := I.hok.fresh hT
    refine ⟨.ref T, _, I2, ev.symm ▸ rfl, ⟨T, xv, yv, rfl, hn, rfl, fun vs' hv' => by rw [Sr.inj I hv' hv]; exact hx, fun ws' hv' => by rw [Sr.inj I hv' hw']; exact hy⟩, ⟨st'.1, st'.2.1, st'.2.2.1, d2 _ _ st'.2.2.2.1, d2' _ _ st'.2.2.2.2, l1, l2⟩, fun b hb => ?_⟩
    rw [upd_ne]
    · exact (hf b hb).1
    · rintro rfl
      obtain ⟨o, ho⟩ : ∃ o, s.heap.get? b = some o := by
        obtain ⟨a1, a2, h3⟩ := h3
        rcases (show b = N + 4 ∨ b = N + 2 ∨ b = N + 3 ∨ b = N ∨ b = N + 1 by simpa using hb) with z | z | z | z | z <;> rw [z]
        · exact ⟨_, h1⟩
        · exact ⟨_, h2⟩
        · exact ⟨_, h3⟩
        · obtain ⟨o, ho, _⟩ := Sr.at_obj h4; exact ⟨o, ho⟩
        · obtain ⟨o, ho, _⟩ := Sr.at_obj h5; exact ⟨o, ho⟩
      exact absurd (Nat.lt_of_lt_of_le (Heap.lt_size ho) hT) (Nat.lt_irrefl _)
  done := by
    intro X hP hw hK hc i pins s σ H E I hf ⟨h1, h2, h3, h4, h5, l1, l2⟩ ⟨vs, ws, hv, hw', hi⟩
    subst hP hw hK hi
    obtain ⟨fp, St, D, d1, d2, d3⟩ := Sr.draws' X.A.in1 (I.ok.hd hc) I hv h4 l1 (Nat.le_refl _)
    obtain ⟨gp, St', D', d1', d2', d3'⟩ := Sr.draws' X.A.in1 (I.ok.hd hc) I hw' h5 l2 (Nat.le_succ _)
    have G := GoesN.zip2 (elts := elts) (x1 := kk) (pos := tpos) (A := X.A) (zip_sep2 d3 d3') D D'
    exact G.stops s _ E ⟨h1, h2, h3, d1 _ h4, d1' _ h5⟩ fun h' tk kept _ => Inv.turnedL I kept fun b hb => hf b (by simp at hb ⊢; rcases hb with z | z | z | z <;> simp [z])
  self := fun A i s Q E ⟨h1, _⟩ hQ => wpAny_pyIter_zip h1 hQ
end D8

namespace D8
open PySem PySem.Spec PyProof.Rows L2
/-- as data; a pair may be a tuple of which less is known -/
def RVt (K : PySem.W.Frag) (S : Addr → Prop) (H : Hp) (w : Wk) (v : V) (d : PyData) : Prop := RV K S H v d ∨ ((w = .en ∨ w = .zp) ∧ ∃ a xs ds, v = .ref a ∧ d = .tuple ds ∧ SqT K H a xs ∧ RVs K S H xs ds)
def WalkOk (K : PySem.W.Frag) (J : It) (w : Wk) (xs : List V) (ks : List Nat) : Prop := ∀ (S : Addr → Prop) (H : Hp) (ms : List M) (k : Nat), PKs K S H xs ms → ms.map kdM = ks →
  (∀ d, nextI w ms k = some (some d) → J.go k H ∧ ∀ x H', J.yld k H x H' → Same H H' ∧ RVt K S H' w x d) ∧ (nextI w ms k = some none → J.stop k H)
def Sr.v (r : Sr) : V := match r with
  | .l a => .ref a
  | .t a => .ref a
  | .s x _ => .str x
def Sr.kd (r : Sr) : Nat := match r with
  | .l _ => 0
  | .t _ => 1
  | .s _ _ => 2
section
variable {K : PySem.W.Frag} {S : Addr → Prop} {H : Hp} {X : Cx}
theorem RVs.chars : ∀ cs : List Nat, RVs K S H (cs.map fun c => V.str ⟨#[c]⟩) (cs.map fun c => PyData.str ⟨#[c]⟩)
  | [] => .nil
  | c :: cs => .cons (.str _) (RVs.chars cs)
theorem sr_at {r : Sr} {m : M} {o : List Addr} {ds : List PyData} (h : RM K S H r.v m o) (hk : kdM m = r.kd) (e : items? m = some ds) : ∃ vs, r.has K H vs ∧ RVs K S H vs ds := by
  unfold items? at e
  split at e
  · cases e
    cases r with
    | l a => cases hk
    | s x k => cases hk
    | t a => cases h with
      | im h => cases h with
        | tup h n r => exact ⟨_, h, r⟩
  · cases e
    cases r with
    | t a => cases hk
    | s x k => cases hk
    | l a => cases h with
      | im h => cases h with
        | lst h r => exact ⟨_, h.seq, r⟩
  · cases e
    cases r with
    | t a => cases hk
    | l a => cases hk
    | s x k => cases h with
      | im h => cases h; exact ⟨_, rfl, RVs.chars _⟩
  · cases r with
    | t a => cases hk
    | s x k => cases hk
    | l a => cases h with
      | ml h r => obtain ⟨r', _⟩ := r.ims e; exact ⟨_, .inl (.inl h), r'⟩
  · cases e
theorem sr_of {x : V} {u : Value} {m : M} {o : List Addr} {ds : List PyData} (h : RM K S H x m o) (ru : RelV x u) (e : items? m = some ds) : ∃ r : Sr, r.v = x ∧ r.val = u ∧ kdM m = r.kd := by
  unfold items? at e
  split at e
  · cases h with
    | im h => cases h with
      | tup h r => cases ru; exact ⟨.t _, rfl, rfl, rfl⟩
  · cases h with
    | im h => cases h with
      | lst h r => cases ru; exact ⟨.l _, rfl, rfl, rfl⟩
  · cases h with
    | im h => cases h; obtain ⟨t, rfl⟩ := ru; exact ⟨.s _ t, rfl, rfl, rfl⟩
  · cases h with
    | ml h r => cases ru; exact ⟨.l _, rfl, rfl, rfl⟩
  · cases e
theorem nth_some {α : Type} {n k : Nat} {x : Option α} {y : α} (h : nth n k x = some (some y)) : k < n ∧ x = some y := by
  unfold nth at h
  split at h
  · next hk => rw [msi] at h; obtain ⟨z, h1, h2⟩ := h; cases h2; exact ⟨hk, h1⟩
  · split at h <;> cases h
theorem nth_none {α : Type} {n k : Nat} {x : Option α} (h : nth n k x = some none) : k = n := by
  unfold nth at h
  split at h
  · rw [msi] at h; obtain ⟨z, h1, h2⟩ := h; cases h2
  · split at h
    · next h2 => exact h2
    · cases h
/-- the walk of one thing -/
def Jone (K : PySem.W.Frag) (r : Sr) : It := match r with
  | .l a => Itl K a
  | .t a => Itt K a
  | .s x _ => Its x
theorem walk_one (r : Sr) : WalkOk K (Jone K r) .one [r.v] [r.kd] := by
  intro S H ms k pk hk
  obtain ⟨m, rfl, o, h⟩ := pk.one'
  have hkd : kdM m = r.kd := by simpa using hk
  refine ⟨fun d e => ?_, fun e => ?_⟩
  all_goals
    simp only [nextI, bsi] at e
    obtain ⟨ds, h1, e⟩ := e
    obtain ⟨vs, hv, rv⟩ := sr_at h hkd h1
  · obtain ⟨hl, hd⟩ := nth_some e
    obtain ⟨v, h3, h4⟩ := rv.get hd
    cases r with
    | l a => exact ⟨⟨vs, v, hv, h3⟩, fun x H' ⟨e1, e2⟩ => by subst e1; have := e2 vs hv; rw [h3] at this; cases this; exact ⟨.refl _, .inl h4⟩⟩
    | t a => exact ⟨⟨vs, v, hv, h3⟩, fun x H' ⟨e1, e2⟩ => by subst e1; have := e2 vs hv; rw [h3] at this; cases this; exact ⟨.refl _, .inl h4⟩⟩
    | s x t =>
      have hv : vs = x.cps.toList.map fun c => V.str ⟨#[c]⟩ := hv
      subst hv
      rw [← rv.length] at hl
      refine ⟨?_, fun y H' hy => ?_⟩
      · simpa [Jone, Its] using hl
      · obtain ⟨e1, c, hc, rfl⟩ := hy
        subst e1
        rw [List.getElem?_map, Array.getElem?_toList, hc] at h3
        cases h3
        exact ⟨.refl _, .inl h4⟩
  · have hl := nth_none e
    rw [← rv.length] at hl
    cases r with
    | l a => exact ⟨vs, hv, by omega⟩
    | t a => exact ⟨vs, hv, by omega⟩
    | s x t =>
      have hv : vs = x.cps.toList.map fun c => V.str ⟨#[c]⟩ := hv
      subst hv
      simp [Jone, Its] at hl ⊢
      omega
theorem walk_en (r : Sr) : WalkOk K (Jen K r) .en [r.v] [r.kd] := by
  intro S H ms k pk hk
  obtain ⟨m, rfl, o, h⟩ := pk.one'
  have hkd : kdM m = r.kd := by simpa using hk
  refine ⟨fun d e => ?_, fun e => ?_⟩
  all_goals
    simp only [nextI, bsi] at e
    obtain ⟨ds, h1, e⟩ := e
    obtain ⟨vs, hv, rv⟩ := sr_at h hkd h1
  · obtain ⟨hl, hd⟩ := nth_some e
    rw [msi] at hd
    obtain ⟨d', hd, rfl⟩ := hd
    obtain ⟨v, h3, h4⟩ := rv.get hd
    rw [← rv.length] at hl
    refine ⟨⟨vs, hv, hl⟩, fun x H' ⟨T, y, e1, e2, e3, e4⟩ => ?_⟩
    subst e1 e3
    have := e4 vs hv; rw [h3] at this; cases this
    refine ⟨Same.upd e2, .inr ⟨.inl rfl, _, _, _, rfl, rfl, (.inl (.inl upd_same)), (.cons (.int _) (.cons (h4.kp ⟨fun a o e _ => Same.upd e2 a o e, fun a o e _ => Same.upd e2 a o e, fun _ _ _ s => s⟩) .nil))⟩⟩
  · have hl := nth_none e
    rw [← rv.length] at hl
    exact ⟨vs, hv, hl⟩
theorem walk_zp (r q : Sr) : WalkOk K (Jzp K r q) .zp [r.v, q.v] [r.kd, q.kd] := by
  intro S H ms k pk hk
  obtain ⟨m, n, rfl, ⟨o, h⟩, o', h'⟩ := pk.two'
  obtain ⟨hkd, hkd'⟩ : kdM m = r.kd ∧ kdM n = q.kd := by simpa using hk
  refine ⟨fun d e => ?_, fun e => ?_⟩
  all_goals
    simp only [nextI, bsi] at e
    obtain ⟨ds, h1, es, h2, e⟩ := e
    obtain ⟨vs, hv, rv⟩ := sr_at h hkd h1
    obtain ⟨ws, hw, rw'⟩ := sr_at h' hkd' h2
  · obtain ⟨hl, hd⟩ := nth_some e
    simp only [bsi, msi] at hd
    obtain ⟨d1, hd1, d2, hd2, rfl⟩ := hd
    obtain ⟨v, h3, h4⟩ := rv.get hd1
    obtain ⟨v', h3', h4'⟩ := rw'.get hd2
    rw [← rv.length, ← rw'.length] at hl
    refine ⟨⟨vs, ws, hv, hw, hl⟩, fun x H' ⟨T, y, z, e1, e2, e3, e4, e5⟩ => ?_⟩
    subst e1 e3
    have := e4 vs hv; rw [h3] at this; cases this
    have := e5 ws hw; rw [h3'] at this; cases this
    have kp : Kp S S H (upd H T (.tup [v, v'])) := ⟨fun a o e _ => Same.upd e2 a o e, fun a o e _ => Same.upd e2 a o e, fun _ _ _ s => s⟩
    exact ⟨Same.upd e2, .inr ⟨.inr rfl, _, _, _, rfl, rfl, .inl (.inl upd_same), .cons (h4.kp kp) (.cons (h4'.kp kp) .nil)⟩⟩
  · have hl := nth_none e
    rw [← rv.length, ← rw'.length] at hl
    exact ⟨vs, ws, hv, hw, hl⟩
theorem int_eq {v : V} {m : M} {i : Int} {o : List Addr} (h : RM K S H v m o) (e : int? m = some i) : v = .int i := by
  unfold int? at e
  split at e
  · cases e; exact h.toInt
  · cases e
theorem walk_rg1 (n : Int) : WalkOk K (Itr 0 n.toNat) .rg1 [.int n] [3] := by
  intro S H ms k pk hk
  obtain ⟨m, rfl, o, h⟩ := pk.one'
  refine ⟨fun d e => ?_, fun e => ?_⟩
  all_goals
    simp only [nextI, bsi] at e
    obtain ⟨n', h1, e⟩ := e
    obtain he := int_eq h h1
    cases he
    split at e
    case isFalse => cases e
  · obtain ⟨hl, hd⟩ := nth_some e
    cases hd
    exact ⟨hl, fun x H' ⟨e1, e2⟩ => by subst e1 e2; exact ⟨.refl _, by rw [Int.zero_add]; exact .inl (.int _)⟩⟩
  · have hl := nth_none e
    exact Nat.le_of_eq hl.symm
theorem walk_rg2 (a n : Int) : WalkOk K (Itr a (n - a).toNat) .rg2 [.int a, .int n] [3, 3] := by
  intro S H ms k pk hk
  obtain ⟨m, m', rfl, ⟨o, h⟩, o', h'⟩ := pk.two'
  refine ⟨fun d e => ?_, fun e => ?_⟩
  all_goals
    simp only [nextI, bsi] at e
    obtain ⟨n', h1, n2, h2, e⟩ := e
    obtain he := int_eq h h1
    cases he
    obtain he := int_eq h' h2
    cases he
    split at e
    case isFalse => cases e
  · obtain ⟨hl, hd⟩ := nth_some e
    cases hd
    exact ⟨hl, fun x H' ⟨e1, e2⟩ => by subst e1 e2; exact ⟨.refl _, .inl (.int _)⟩⟩
  · have hl := nth_none e
    exact Nat.le_of_eq hl.symm
end
end D8

namespace D8
open PySem PySem.Spec PyProof.Rows L2
section
variable {K : PySem.W.Frag} {F : Hp} {Xs : List Addr} {H H' : Hp} {σ : L2.St} {env : EnvM} {T U : List V} {Tm Um : List M}
theorem Good.pks {xs : List V} {ops : List Op} {ms : List M} (g : Good K F Xs H σ env (U ++ T) (Um ++ Tm)) (r : D8.OpR σ xs ops U Um) (e : peek env ops = some ms) : ∃ S : Addr → Prop, (∀ p, H p = none → S p) ∧ PKs K S H xs ms := by
  obtain ⟨O1, O2, g⟩ := g
  obtain ⟨v1, v2, o1, o2, e1, rfl, r1, r2⟩ := g.rt.split
  obtain ⟨rfl, rfl⟩ := List.append_inj e1 (r.lenU.trans r1.length.symm)
  exact ⟨_, fun p hp => g.freshS hp, g.peek r r1 e⟩
end
def TIo (K : PySem.W.Frag) (Γ : Gam) (w : Wk) (es : Es) : TI := fun σ H R => ∃ F Xs T Tm env ops env' ms0, Good K F Xs H σ env T Tm ∧ evalOs Γ es env = some (ops, env') ∧ peek env' ops = some ms0 ∧ nextI w ms0 0 ≠ none ∧
  ∀ xs H' U Um J, D8.OpR σ xs ops U Um → Good K F Xs H' σ env' (U ++ T) (Um ++ Tm) → WalkOk K J w xs (ms0.map kdM) → R J H'
theorem evalOs_one (Γ : Gam) (e : E) (env : EnvM) : evalOs Γ (.cons e .nil) env = (evalO Γ e env).map fun r => ([r.1], r.2) := by
  rw [evalOs_cons]
  cases evalO Γ e env <;> rfl
section
variable {X : Cx} {Γ : Gam} {tg e : Expr} {E' : E} {Es' : Es} {p pos tpos : Pos} {elts : List Expr} {kk : Nat}
theorem items_of_one {ms0 : List M} {k : Nat} (h : nextI .one ms0 k ≠ none) : ∃ m ds, ms0 = [m] ∧ items? m = some ds := by
  unfold nextI at h
  split at h <;> first | exact absurd rfl h | skip
  all_goals first
    | (rename_i x hw; cases hw; done)
    | skip
  · rename_i x _
    cases e : items? x with
    | none => rw [e] at h; exact absurd rfl h
    | some ds => exact ⟨x, ds, rfl, e⟩
theorem pi1 (he : PE X e (TOe X.K Γ E')) : PI X tg e (TIo X.K Γ .one (.cons E' .nil)) := by
  refine ⟨fun pins s σ H R I ⟨F, Xs, T, Tm, env, ops, env', ms0, g, ev, pk, hn, q⟩ => ?_⟩
  rw [evalOs_one, msi] at ev
  obtain ⟨⟨o, env1⟩, h1, h2⟩ := ev
  cases h2
  refine thn (he.run pins s σ H (fun v H1 => ∃ U Um, D8.OpR σ [v] [o] U Um ∧ Good X.K F Xs H1 σ env1 (U ++ T) (Um ++ Tm)) I ⟨F, Xs, T, Tm, env, o, env1, g, h1, fun v H' U Um r g' => ⟨U, Um, r, g'⟩⟩) fun u s1 ⟨x, H1, I1, ru, U, Um, r, g1⟩ => ?_
  obtain ⟨S, hS, pks⟩ := g1.pks r pk
  obtain ⟨m, ds, rfl, hi⟩ := items_of_one hn
  obtain ⟨_, hm, o', hr⟩ := pks.one'
  cases hm
  obtain ⟨sr, rfl, rfl, hk⟩ := sr_of hr ru hi
  obtain ⟨vs, hv, rv⟩ := sr_at hr hk hi
  have fin : R (Jone X.K sr) H1 := q [sr.v] H1 U Um _ r g1 (by rw [List.map_cons, hk]; exact walk_one sr)
  have N : ∀ (o : Obj) (tk : Nat), Inv X pins σ H1 { s1 with heap := s1.heap.push o, toks := tk } := fun o tk => I1.kept fun b o' e' => Heap.get?_push_of_some _ e'
  have fp : ∀ (o : Obj), ∀ b ∈ [s1.heap.objs.size], FpOk X pins H1 b := fun o b hb => by
    have e' : b = s1.heap.objs.size := by simpa using hb
    subst e'
    exact I1.fpOk (Nat.le_refl _) (I1.hok.fresh (Nat.le_refl _))
  cases sr with
  | l a =>
    obtain ⟨its, _, pl, _⟩ := I1.list hv
    exact wpAny_pyIter_list pl.isList ⟨_, [s1.heap.objs.size], _, _, H1, rfl, N _ _, turn_list a _, ⟨_, Heap.get?_push_size _ rfl, rfl, rfl⟩, fp (Sr.obj (.l a)), fin⟩
  | t a =>
    obtain ⟨its, _, pl, _⟩ := I1.tuple hv
    exact wpAny_pyIter_tuple (show s1.heap.IsTuple a its.toArray from pl) ⟨_, [s1.heap.objs.size], _, _, H1, rfl, N _ _, turn_tuple a _, ⟨_, Heap.get?_push_size _ rfl, rfl, rfl⟩, fp (Sr.obj (.t a)), fin⟩
  | s x k =>
    refine wpAny_pyIter_strU ⟨_, [s1.heap.objs.size], _, _, H1, rfl, N _ _, turn_str _ x k (strIterType x) ?_, ⟨_, Heap.get?_push_size _ rfl, rfl, rfl⟩, fp (Sr.obj (.s x k)), fin⟩
    unfold strIterType
    split
    · exact .inl rfl
    · exact .inr rfl
/-! enumerate -/
set_option maxHeartbeats 4000000 in
theorem meets_enum1 {v : Value} {o : Obj} {Hh : Heap → Prop} (B : Begins v o Hh) :
    Meets (Builtin.«enumerate.__new__» ⟨[.type "enumerate", v], []⟩) (fun _ R s => Hh s.heap ∧ R (.ok (.ret (.ref (s.heap.push o).objs.size))) { s with heap := (s.heap.push o).push { cls := .type "enumerate", data := .fields #[.none, .bool false, .ref s.heap.objs.size, rawInt 0, .none, .none] } }) :=
  .of_wp fun prog w A R s h => by
    obtain ⟨hp, g, d, tk, os⟩ := s
    obtain ⟨h1, h⟩ := h
    have hsub := sub_enumerate
    have begin' : ∀ {A' : Around} {Ex : Value → Shared → Prop} {Q : Value → Shared → Prop}, Q (.ref hp.objs.size) ⟨hp.push o, g, d, tk, os⟩ → wpAny (model prog w) A' (pyIter v) Q Ex ⟨hp, g, d, tk, os⟩ := fun q => B.iter prog w _ _ ⟨hp, g, d, tk, os⟩ _ h1 q
    wp_walk using begin'
    refine wpAny_stack_any fun st => wpAny_pure ?_
    split
    · rename_i c _ _ _ _ _
      cases (c == Value.type "enumerate") <;> (wp_walk using begin'; exact ⟨_, rfl, h⟩)
    · wp_walk using begin'
      exact ⟨_, rfl, h⟩
theorem call_enum1 {prog : Program} {w : World} {A : Around} {Ex : Value → Shared → Prop} {s : Shared} {v : Value} {o : Obj} {Hh : Heap → Prop} {Q : Value → Shared → Prop} (B : Begins v o Hh) (h1 : Hh s.heap)
    (h : ∀ h', IsEnum h' (s.heap.objs.size + 1) s.heap.objs.size 0 .none → h'.get? s.heap.objs.size = some o → (∀ b o, s.heap.get? b = some o → h'.get? b = some o) → Q (.ref (s.heap.objs.size + 1)) { s with heap := h' }) :
    wpAny (model prog w) A (call (.type "enumerate") [v]) Q Ex s := by
  refine callType_new F.called_enumerate (by decide) (F.typeCall_enumerate_1 _) (F.newCall_enumerate_1 _) (fun obj => F.args_object_init_2 obj _) F.entry_enumerate_new
    (meets_enum1 B) ⟨h1, ?_⟩
  have hz : (s.heap.push o).objs.size = s.heap.objs.size + 1 := Heap.size_push ..
  show _ ∧ _
  rw [hz]
  have he : IsEnum ((s.heap.push o).push { cls := .type "enumerate", data := .fields #[.none, .bool false, .ref s.heap.objs.size, rawInt 0, .none, .none] }) (s.heap.objs.size + 1) s.heap.objs.size 0 .none := by
    have q2 := Heap.get?_push_size (s.heap.push o) (o := { cls := .type "enumerate", data := .fields #[.none, .bool false, .ref s.heap.objs.size, rawInt 0, .none, .none] }) rfl
    rw [hz] at q2
    exact q2
  exact ⟨⟨_, he, rfl⟩, h _ he (Heap.get?_push_of_some _ (Heap.get?_push_size _ B.free)) fun b o x => Heap.get?_push_of_some _ (Heap.get?_push_of_some _ x)⟩
end
end D8

namespace D8
open PySem PySem.Spec PyProof.Rows L2
section
variable {X : Cx} {Γ : Gam} {tg e : Expr} {E' : E} {Es' : Es} {p pos tpos : Pos} {elts : List Expr} {kk : Nat}
theorem items_of_en {ms0 : List M} {k : Nat} (h : nextI .en ms0 k ≠ none) : ∃ m ds, ms0 = [m] ∧ items? m = some ds := by
  unfold nextI at h
  split at h <;> first | exact absurd rfl h | skip
  all_goals first
    | (rename_i x hw; cases hw; done)
    | skip
  · rename_i x _
    cases e : items? x with
    | none => rw [e] at h; exact absurd rfl h
    | some ds => exact ⟨x, ds, rfl, e⟩
theorem en_ready {pins : List (Addr × Obj)} {σ : L2.St} {H1 : Hp} {s1 : Shared} {R : It → Hp → Prop} (sr : Sr) (I1 : Inv X pins σ H1 s1) (fin : R (Jen X.K sr) H1) (h' : Heap) (he : IsEnum h' (s1.heap.objs.size + 1) s1.heap.objs.size 0 .none) (ho : h'.get? s1.heap.objs.size = some sr.obj) (kept : ∀ b o, s1.heap.get? b = some o → h'.get? b = some o) :
    PIE X pins σ (.Tuple elts kk tpos) R (.ref (s1.heap.objs.size + 1)) { s1 with heap := h' } := by
  have hb : ∀ b ∈ [s1.heap.objs.size + 1, s1.heap.objs.size], FpOk X pins H1 b := fun b hb => by
    have hle : s1.heap.objs.size ≤ b := by
      rcases (show b = s1.heap.objs.size + 1 ∨ b = s1.heap.objs.size by simpa using hb) with z | z
      · rw [z]; exact Nat.le_succ _
      · rw [z]; exact Nat.le_refl _
    exact I1.fpOk hle (I1.hok.fresh hle)
  have he0 : IsEnum h' (s1.heap.objs.size + 1) s1.heap.objs.size ((0 : Int) + ((0 : Nat) : Int)) .none := he
  exact ⟨s1.heap.objs.size + 1, [s1.heap.objs.size + 1, s1.heap.objs.size], _, Jen X.K sr, H1, rfl, I1.kept (t' := s1.toks) kept, turn_en sr (s1.heap.objs.size + 1) s1.heap.objs.size, ⟨⟨.none, he0⟩, Sr.at_begin ho, Nat.succ_ne_self _⟩, hb, fin⟩
theorem en_call {pins : List (Addr × Obj)} {σ : L2.St} {H1 : Hp} {s1 : Shared} {R : It → Hp → Prop} {vs : List V} (sr : Sr) (I1 : Inv X pins σ H1 s1) (hv : sr.has X.K H1 vs) (fin : R (Jen X.K sr) H1) :
    wpAny (model X.prog X.w) X.A (call (.type "enumerate") [sr.val]) (fun v s1 => wpAny (model X.prog X.w) X.A (pyIter v) (PIE X pins σ (.Tuple elts kk tpos) R) X.xe s1) X.xe s1 := by
  obtain ⟨Hh, B, hB⟩ := Sr.begins I1 hv
  generalize hv0 : sr.val = v0 at B
  generalize ho0 : sr.obj = o0 at B
  refine call_enum1 B hB fun h' he ho kept => ?_
  subst ho0
  have hr := en_ready (tpos := tpos) (elts := elts) (kk := kk) sr I1 fin h' he ho kept
  exact wpAny_pyIter_enum (s := { s1 with heap := h' }) he hr
theorem piEn (hg : Gl X "enumerate") (hm : X.mg "enumerate" = none) (ha : PA X [e] (TOs X.K Γ Es')) (hs : starEach [e] X.env = [(false, eval e X.env)]) : PI X (.Tuple elts kk tpos) (.Call (.Name "enumerate" p) [e] [] pos) (TIo X.K Γ .en Es') := by
  refine ⟨fun pins s σ H R I ⟨F, Xs, T, Tm, env, ops, env', ms0, g, ev, pk, hn, q⟩ => ?_⟩
  refine Call_ (ld_blt I hg hm boot_enumerate (PyProof.Rows.callWith_type1 (thn (ha.run pos pins s σ H (fun xs H1 => ∃ U Um, D8.OpR σ xs ops U Um ∧ Good X.K F Xs H1 σ env' (U ++ T) (Um ++ Tm)) I ⟨F, Xs, T, Tm, env, ops, env', g, ev, fun xs H' U Um r g' => ⟨U, Um, r, g'⟩⟩) fun us s1 ⟨xs, H1, I1, ru, U, Um, r, g1⟩ => ?_) hs rfl))
  obtain ⟨S, hS, pks⟩ := g1.pks r pk
  obtain ⟨m, ds, rfl, hi⟩ := items_of_en hn
  obtain ⟨x, u, rfl, rfl, ru1⟩ : ∃ x u, xs = [x] ∧ us = [u] ∧ RelV x u := by
    have hl := pks.length
    cases ru with
    | nil => cases hl
    | cons a b => cases b with
      | nil => exact ⟨_, _, rfl, rfl, a⟩
      | cons _ _ => cases hl
  obtain ⟨_, hm', o', hr⟩ := pks.one'
  cases hm'
  obtain ⟨sr, rfl, rfl, hk⟩ := sr_of hr ru1 hi
  obtain ⟨vs, hv, rv⟩ := sr_at hr hk hi
  have fin : R (Jen X.K sr) H1 := q [sr.v] H1 U Um _ r g1 (by rw [List.map_cons, hk]; exact walk_en sr)
  exact en_call sr I1 hv fin
end
end D8

namespace D8
open PySem PySem.Spec PyProof.Rows L2
section
variable {X : Cx} {Γ : Gam} {tg e e2 : Expr} {E' : E} {Es' : Es} {p pos tpos : Pos} {elts : List Expr} {kk : Nat}
theorem zp_ready {pins : List (Addr × Obj)} {σ : L2.St} {H1 : Hp} {s1 : Shared} {R : It → Hp → Prop} {vs ws : List V} (sr sq : Sr) (I1 : Inv X pins σ H1 s1) (fin : R (Jzp X.K sr sq) H1) (h' : Heap) (hv : sr.has X.K H1 vs) (hw : sq.has X.K H1 ws) (hz : IsZip h' (s1.heap.objs.size + 4) (s1.heap.objs.size + 2) (s1.heap.objs.size + 3) .none)
    (h2 : IsTupOf2 h' (s1.heap.objs.size + 2) (.ref s1.heap.objs.size) (.ref (s1.heap.objs.size + 1))) (h3 : IsTupOf2 h' (s1.heap.objs.size + 3) .none .none) (g1 : h'.get? s1.heap.objs.size = some sr.obj) (g2 : h'.get? (s1.heap.objs.size + 1) = some sq.obj) (kept : ∀ b o, s1.heap.get? b = some o → h'.get? b = some o) :
    PIE X pins σ (.Tuple elts kk tpos) R (.ref (s1.heap.objs.size + 4)) { s1 with heap := h' } := by
  have hb : ∀ b ∈ [s1.heap.objs.size + 4, s1.heap.objs.size + 2, s1.heap.objs.size + 3, s1.heap.objs.size, s1.heap.objs.size + 1], FpOk X pins H1 b := fun b hb => by
    have hle : s1.heap.objs.size ≤ b := by
      rcases (show b = s1.heap.objs.size + 4 ∨ b = s1.heap.objs.size + 2 ∨ b = s1.heap.objs.size + 3 ∨ b = s1.heap.objs.size ∨ b = s1.heap.objs.size + 1 by simpa using hb) with z | z | z | z | z
      · rw [z]; exact Nat.le_add_right _ _
      · rw [z]; exact Nat.le_add_right _ _
      · rw [z]; exact Nat.le_add_right _ _
      · rw [z]; exact Nat.le_refl _
      · rw [z]; exact Nat.le_add_right _ _
    exact I1.fpOk hle (I1.hok.fresh hle)
  exact ⟨s1.heap.objs.size + 4, _, _, Jzp X.K sr sq, H1, rfl, I1.kept (t' := s1.toks) kept, turn_zp sr sq s1.heap.objs.size, ⟨hz, h2, ⟨_, _, h3⟩, Sr.at_begin g1, Sr.at_begin g2, Sr.lt_of I1 hv, Sr.lt_of I1 hw⟩, hb, fin⟩
theorem zp_call {pins : List (Addr × Obj)} {σ : L2.St} {H1 : Hp} {s1 : Shared} {R : It → Hp → Prop} {vs ws : List V} (sr sq : Sr) (I1 : Inv X pins σ H1 s1) (hv : sr.has X.K H1 vs) (hw : sq.has X.K H1 ws) (fin : R (Jzp X.K sr sq) H1) :
    wpAny (model X.prog X.w) X.A (call (.type "zip") [sr.val, sq.val]) (fun v s1 => wpAny (model X.prog X.w) X.A (pyIter v) (PIE X pins σ (.Tuple elts kk tpos) R) X.xe s1) X.xe s1 := by
  obtain ⟨Hh, B, hB⟩ := Sr.begins I1 hv
  obtain ⟨Hh2, B2, hB2⟩ := Sr.begins I1 hw
  generalize hv0 : sr.val = v0 at B
  generalize ho0 : sr.obj = o0 at B
  generalize hv1 : sq.val = v1 at B2
  generalize ho1 : sq.obj = o1 at B2
  refine zip_begins2 B B2 hB hB2 fun h' hz hTI hTO h1 h2 hsz hk => ?_
  subst ho0 ho1
  have hr := zp_ready (tpos := tpos) (elts := elts) (kk := kk) sr sq I1 fin h' hv hw hz hTI hTO h1 h2 hk
  exact wpAny_pyIter_zip (s := { s1 with heap := h' }) hz hr
theorem items_of_zp {ms0 : List M} {k : Nat} (h : nextI .zp ms0 k ≠ none) : ∃ m n ds es, ms0 = [m, n] ∧ items? m = some ds ∧ items? n = some es := by
  unfold nextI at h
  split at h <;> first | exact absurd rfl h | skip
  all_goals first
    | (rename_i x y hw; cases hw; done)
    | (rename_i x hw; cases hw; done)
    | skip
  · rename_i x y _
    cases e : items? x with
    | none => rw [e] at h; exact absurd rfl h
    | some ds =>
      cases e2 : items? y with
      | none => rw [e, e2] at h; exact absurd rfl h
      | some es => exact ⟨x, y, ds, es, rfl, e, e2⟩
theorem piZp (hg : Gl X "zip") (hm : X.mg "zip" = none) (ha : PA X [e, e2] (TOs X.K Γ Es')) (hs : starEach [e, e2] X.env = (false, eval e X.env) :: starEach [e2] X.env) (hpl : (backTo pos (starEach [e2] X.env)).any (·.1) = false) : PI X (.Tuple elts kk tpos) (.Call (.Name "zip" p) [e, e2] [] pos) (TIo X.K Γ .zp Es') := by
  refine ⟨fun pins s σ H R I ⟨F, Xs, T, Tm, env, ops, env', ms0, g, ev, pk, hn, q⟩ => ?_⟩
  refine Call_ (ld_blt I hg hm PyProof.Rows.boot_zip (PyProof.Rows.callWith_type1 (thn (ha.run pos pins s σ H (fun xs H1 => ∃ U Um, D8.OpR σ xs ops U Um ∧ Good X.K F Xs H1 σ env' (U ++ T) (Um ++ Tm)) I ⟨F, Xs, T, Tm, env, ops, env', g, ev, fun xs H' U Um r g' => ⟨U, Um, r, g'⟩⟩) fun us s1 ⟨xs, H1, I1, ru, U, Um, r, g1⟩ => ?_) hs hpl))
  obtain ⟨S, hS, pks⟩ := g1.pks r pk
  obtain ⟨m, n, ds, es, rfl, hi, hj⟩ := items_of_zp hn
  obtain ⟨x, u, y, v, rfl, rfl, ru1, ru2⟩ : ∃ x u y v, xs = [x, y] ∧ us = [u, v] ∧ RelV x u ∧ RelV y v := by
    have hl := pks.length
    cases ru with
    | nil => cases hl
    | cons a b => cases b with
      | nil => cases hl
      | cons c d => cases d with
        | nil => exact ⟨_, _, _, _, rfl, rfl, a, c⟩
        | cons _ _ => cases hl
  obtain ⟨⟨o', hr⟩, o2, hr2⟩ := pks.two
  obtain ⟨sr, rfl, rfl, hk⟩ := sr_of hr ru1 hi
  obtain ⟨sq, rfl, rfl, hk2⟩ := sr_of hr2 ru2 hj
  obtain ⟨vs, hv, rv⟩ := sr_at hr hk hi
  obtain ⟨ws, hw, rw'⟩ := sr_at hr2 hk2 hj
  have fin : R (Jzp X.K sr sq) H1 := q [sr.v, sq.v] H1 U Um _ r g1 (by rw [List.map_cons, List.map_cons, hk, hk2]; exact walk_zp sr sq)
  exact zp_call sr sq I1 hv hw fin
theorem ints_of_rg1 {ms0 : List M} {k : Nat} (h : nextI .rg1 ms0 k ≠ none) : ∃ m n, ms0 = [m] ∧ int? m = some n ∧ -4611686018427387904 ≤ n ∧ n < 4611686018427387904 := by
  unfold nextI at h
  split at h <;> first | exact absurd rfl h | skip
  all_goals first
    | (rename_i x y hw; cases hw; done)
    | (rename_i x hw; cases hw; done)
    | skip
  · rename_i x _
    cases e : int? x with
    | none => rw [e] at h; exact absurd rfl h
    | some n =>
      rw [e, Option.bind_some] at h
      split at h
      · next hc => exact ⟨x, n, rfl, e, hc⟩
      · exact absurd rfl h
theorem ints_of_rg2 {ms0 : List M} {k : Nat} (h : nextI .rg2 ms0 k ≠ none) : ∃ m m2 a n, ms0 = [m, m2] ∧ int? m = some a ∧ int? m2 = some n ∧ (-4611686018427387904 ≤ a ∧ a < 4611686018427387904) ∧ -4611686018427387904 ≤ n ∧ n < 4611686018427387904 := by
  unfold nextI at h
  split at h <;> first | exact absurd rfl h | skip
  all_goals first
    | (rename_i x y hw; cases hw; done)
    | (rename_i x hw; cases hw; done)
    | skip
  · rename_i x y _
    cases e : int? x with
    | none => rw [e] at h; exact absurd rfl h
    | some a =>
      cases e2 : int? y with
      | none => rw [e, e2] at h; exact absurd rfl h
      | some n =>
        rw [e, e2, Option.bind_some, Option.bind_some] at h
        split at h
        · next hc => exact ⟨x, y, a, n, rfl, e, e2, hc⟩
        · exact absurd rfl h
theorem piRg1 (hg : Gl X "range") (hm : X.mg "range" = none) (ha : PA X [e] (TOs X.K Γ Es')) (hs : starEach [e] X.env = [(false, eval e X.env)]) : PI X tg (.Call (.Name "range" p) [e] [] pos) (TIo X.K Γ .rg1 Es') := by
  refine ⟨fun pins s σ H R I ⟨F, Xs, T, Tm, env, ops, env', ms0, g, ev, pk, hn, q⟩ => ?_⟩
  refine Call_ (ld_blt I hg hm boot_range (PyProof.Rows.callWith_type1 (thn (ha.run pos pins s σ H (fun xs H1 => ∃ U Um, D8.OpR σ xs ops U Um ∧ Good X.K F Xs H1 σ env' (U ++ T) (Um ++ Tm)) I ⟨F, Xs, T, Tm, env, ops, env', g, ev, fun xs H' U Um r g' => ⟨U, Um, r, g'⟩⟩) fun us s1 ⟨xs, H1, I1, ru, U, Um, r, g1⟩ => ?_) hs rfl))
  obtain ⟨S, hS, pks⟩ := g1.pks r pk
  obtain ⟨m, n, rfl, hi, c1, c2⟩ := ints_of_rg1 hn
  obtain ⟨x, u, rfl, rfl, ru1⟩ : ∃ x u, xs = [x] ∧ us = [u] ∧ RelV x u := by
    have hl := pks.length
    cases ru with
    | nil => cases hl
    | cons a b => cases b with
      | nil => exact ⟨_, _, rfl, rfl, a⟩
      | cons _ _ => cases hl
  obtain ⟨_, hm', o', hr⟩ := pks.one'
  cases hm'
  obtain rfl := int_eq hr hi
  obtain ⟨t, rfl⟩ := ru1
  have hk : kdM m = 3 := by
    unfold int? at hi
    split at hi
    · rfl
    · cases hi
  have fin : R (Itr 0 n.toNat) H1 := q [.int n] H1 U Um _ r g1 (by rw [List.map_cons, hk]; exact walk_rg1 n)
  exact call_range_1 (range_it I1 (by omega) (by omega) (by omega) (by omega) (by simpa using fin))
theorem piRg2 (hg : Gl X "range") (hm : X.mg "range" = none) (ha : PA X [e, e2] (TOs X.K Γ Es')) (hs : starEach [e, e2] X.env = (false, eval e X.env) :: starEach [e2] X.env) (hpl : (backTo pos (starEach [e2] X.env)).any (·.1) = false) : PI X tg (.Call (.Name "range" p) [e, e2] [] pos) (TIo X.K Γ .rg2 Es') := by
  refine ⟨fun pins s σ H R I ⟨F, Xs, T, Tm, env, ops, env', ms0, g, ev, pk, hn, q⟩ => ?_⟩
  refine Call_ (ld_blt I hg hm boot_range (PyProof.Rows.callWith_type1 (thn (ha.run pos pins s σ H (fun xs H1 => ∃ U Um, D8.OpR σ xs ops U Um ∧ Good X.K F Xs H1 σ env' (U ++ T) (Um ++ Tm)) I ⟨F, Xs, T, Tm, env, ops, env', g, ev, fun xs H' U Um r g' => ⟨U, Um, r, g'⟩⟩) fun us s1 ⟨xs, H1, I1, ru, U, Um, r, g1⟩ => ?_) hs hpl))
  obtain ⟨S, hS, pks⟩ := g1.pks r pk
  obtain ⟨m, m2, a, n, rfl, hi, hj, ⟨c1, c2⟩, c3, c4⟩ := ints_of_rg2 hn
  obtain ⟨x, u, y, v, rfl, rfl, ru1, ru2⟩ : ∃ x u y v, xs = [x, y] ∧ us = [u, v] ∧ RelV x u ∧ RelV y v := by
    have hl := pks.length
    cases ru with
    | nil => cases hl
    | cons a b => cases b with
      | nil => cases hl
      | cons c d => cases d with
        | nil => exact ⟨_, _, _, _, rfl, rfl, a, c⟩
        | cons _ _ => cases hl
  obtain ⟨⟨o', hr⟩, o2, hr2⟩ := pks.two
  obtain rfl := int_eq hr hi
  obtain rfl := int_eq hr2 hj
  obtain ⟨t, rfl⟩ := ru1
  obtain ⟨t2, rfl⟩ := ru2
  have hk : ∀ {m : M} {n : Int}, int? m = some n → kdM m = 3 := fun {m n} hi => by
    unfold int? at hi
    split at hi
    · rfl
    · cases hi
  have fin : R (Itr a (n - a).toNat) H1 := q [.int a, .int n] H1 U Um _ r g1 (by rw [List.map_cons, List.map_cons, hk hi, hk hj]; exact walk_rg2 a n)
  exact call_range_2 (range_it I1 (by omega) (by omega) (by omega) (by omega) fin)
end
end D8

namespace D8
open PySem PySem.Spec PyProof.Rows L2

/-! ### the surroundings hold -/
def bltNs : List Str := ["len", "abs", "int", "sum", "sorted", "tuple", "list", "repr", "all", "any", "min", "max", "isinstance", "enumerate", "zip", "range", "bool", "str"]
structure Ok (X : Cx) (U : Sur) (Γ : Gam) (sc : Scope) : Prop where
  scp : X.env.scope = sc
  hN : X.N = U.N
  nd : X.N.Nodup
  calm : X.calm = true
  pass : PassesOwn (model X.prog X.w) X.A X.env X.xe
  gd : X.A.guards = some []
  un : X.A.units + 150 < cLine
  blt : ∀ x ∈ bltNs, U.G.findIdx? (fun p => p.1 == x) = none → X.mg x = none
  cst : ∀ x d, U.C.lookup x = some d → ∃ v u, X.mg x = some u ∧ RelV v u ∧ ∀ S H, RV X.K S H v d
  fns : ∀ g x ps, U.G[g]? = some (x, ps) → ∃ k f fd, FnG X.prog X.w X.K X.mg X.base k f fd ps (spG X.K ps.length (Γ g)) ∧ Room k X.A ∧ X.mg x = some (.ref f) ∧ PySem.W.keepIn X.K (.ref f) = true ∧
    (∀ (s : Shared) (us : List Value), us.length = ps.length → BindsTo s fd ⟨us, []⟩ (ps.zip us)) ∧ (∀ ms r, Γ g ms = some r → ms.length = ps.length) ∧
    ∀ n ks ix, (g, n, ks) ∈ U.P → kwIx ps n ks = some ix → ∀ (s : Shared) (us ws zs : List Value), us.length = n → ws.length = ks.length → perm ix (us ++ ws) = some zs → BindsTo s fd ⟨us, ks.zip ws⟩ (ps.zip zs)
theorem Ok.blk {X : Cx} {U : Sur} {Γ : Gam} {sc bs : Scope} (o : Ok X U Γ sc) (s : Shared) (H : Hp) (cl : List (Str × Addr)) (C : Addr) (fp : List Addr) : Ok (X.blk s H bs (compEnvC bs cl C X.env) fp) U Γ (relS bs sc) :=
  ⟨by rw [← o.scp]; rfl, o.hN, o.nd, o.calm, .never, o.gd, o.un, o.blt, o.cst, o.fns⟩
/-- targets may be set -/
def Tok (X : Cx) (ts : Scope) : Prop := ∀ x, isOwn ts x = true → Loc X.env.scope x ∧ (X.fn x = true ∨ X.env.scope.names.lookup x = some .local)
theorem dbg_no {x : Str} (h : dbg x = false) : (x == ("__debug__" : Str)) = false ∧ (x == ("__classdict__" : Str)) = false ∧ x ≠ "__name__" := by
  unfold dbg at h
  simp only [Bool.or_eq_false_iff] at h
  exact ⟨h.1.1, h.1.2, fun e => by rw [e] at h; exact absurd h.2 (by decide)⟩
theorem loc_vis {sc : Scope} {x : Str} (h : isLoc sc x = true) : Vis sc x ∧ dbg x = false := by
  unfold isLoc at h
  simp only [Bool.and_eq_true, Bool.not_eq_true'] at h
  refine ⟨?_, h.1⟩
  have h2 := h.2
  split at h2
  · next e => exact .inl e
  · next e => exact .inr (.inl e)
  · next e => exact .inr (.inr e)
  · cases h2
theorem glo_is {sc : Scope} {x : Str} (h : isGlo sc x = true) : sc.names.lookup x = some .globalImplicit ∧ dbg x = false := by
  unfold isGlo at h
  simp only [Bool.and_eq_true, Bool.not_eq_true'] at h
  refine ⟨?_, h.1⟩
  have h2 := h.2
  split at h2
  · next e => exact e
  · cases h2
theorem own_is {sc : Scope} {x : Str} (h : isOwn sc x = true) : sc.names.lookup x = some .local ∨ sc.names.lookup x = some .cell := by
  unfold isOwn at h
  split at h
  · next e => exact .inl e
  · next e => exact .inr e
  · cases h
theorem Tok.dfn {X : Cx} {sc : Scope} (h : X.env.scope = sc) (hf : ∀ x, X.fn x = true) : Tok X sc := fun x hx => ⟨by rw [h]; exact own_is hx, .inl (hf x)⟩
theorem lookup_map {g : Str × NameKind → Str × NameKind} (h1 : ∀ p, (g p).1 = p.1) (h2 : ∀ p, p.2 ≠ .free → g p = p) {x : Str} {k : NameKind} (hk : k ≠ .free) : ∀ {ns : List (Str × NameKind)}, ns.lookup x = some k → (ns.map g).lookup x = some k
  | [], h => nomatch h
  | p :: ns, h => by
    obtain ⟨n, j⟩ := p
    rw [List.map_cons]
    by_cases e : (x == n) = true
    · have e1 : j = k := by simpa [List.lookup_cons, e] using h
      subst e1
      rw [h2 (n, j) hk]
      simp [List.lookup_cons, e]
    · have e0 : (x == n) = false := by simpa using e
      have e1 : ns.lookup x = some k := by simpa [List.lookup_cons, e0] using h
      have e2 := lookup_map h1 h2 hk e1
      have e3 := h1 (n, j)
      generalize g (n, j) = q at e3
      obtain ⟨n', j'⟩ := q
      simp only at e3
      subst e3
      simp only [List.lookup_cons, e0]
      exact e2
theorem relS_lookup {bs sc : Scope} {x : Str} {k : NameKind} (hk : k ≠ .free) (h : bs.names.lookup x = some k) : (relS bs sc).names.lookup x = some k := by
  refine lookup_map (g := fun (n, k) => if (k == .free && sc.kind == .function && sc.names.lookup n == some .cell) then (n, .cell) else (n, k)) (fun p => ?_) (fun p hp => ?_) hk h
  · obtain ⟨n, j⟩ := p
    show (if _ then _ else _ : Str × NameKind).1 = n
    split <;> rfl
  · obtain ⟨n, j⟩ := p
    have e : (j == NameKind.free) = false := by simpa using hp
    show (if _ then _ else _ : Str × NameKind) = (n, j)
    rw [e]; rfl
theorem Tok.blk {X : Cx} {bs : Scope} (s : Shared) (H : Hp) (cl : List (Str × Addr)) (C : Addr) (fp : List Addr) : Tok (X.blk s H bs (compEnvC bs cl C X.env) fp) bs := fun x hx => by
  rcases own_is hx with e | e
  · have e2 : (relS bs X.env.scope).names.lookup x = some .local := relS_lookup (by decide) e
    exact ⟨.inl e2, .inr e2⟩
  · have e2 : (relS bs X.env.scope).names.lookup x = some .cell := relS_lookup (by decide) e
    exact ⟨.inr e2, .inl (by show (bs.names.lookup x == some .cell) = true; rw [e]; rfl)⟩
theorem findIdx_get {α : Type} {p : α → Bool} {xs : List α} {i : Nat} (h : xs.findIdx? p = some i) : ∃ x, xs[i]? = some x ∧ p x = true := by
  rw [List.findIdx?_eq_some_iff_getElem] at h
  obtain ⟨hl, hp, _⟩ := h
  exact ⟨xs[i], List.getElem?_eq_getElem hl, hp⟩
theorem slot_name {N : List Str} {x : Str} {i : Nat} (h : N.findIdx? (· == x) = some i) : N[i]? = some x := by
  obtain ⟨y, h1, h2⟩ := findIdx_get h
  rw [h1, eq_of_beq h2]
section
variable {X : Cx} {U : Sur} {Γ : Gam} {sc ts : Scope}
/-! ### targets -/
/-- a thing for a target: a value, or a tuple of which less is known -/
def GoodT (K : PySem.W.Frag) (F : Hp) (Xs : List Addr) (H : Hp) (σ : L2.St) (env : EnvM) (v : V) (d : PyData) (T : List V) (Tm : List M) (t : Tg) : Prop :=
  Good K F Xs H σ env (v :: T) (.im d :: Tm) ∨ (∃ ts a xs ds, t = Tg.tp ts ∧ d = .tuple ds ∧ v = .ref a ∧ SqT K H a xs ∧ xs.length = ds.length ∧ Good K F Xs H σ env (xs ++ T) (ds.map .im ++ Tm)) ∨ ∃ ts a xs ds, t = Tg.tp ts ∧ d = .list ds ∧ v = .ref a ∧ SqL K H a xs ∧ xs.length = ds.length ∧ Good K F Xs H σ env (xs ++ T) (ds.map .im ++ Tm)
def TGt (K : PySem.W.Frag) (t : Tg) : TG := fun v σ H Q => ∃ F Xs T Tm env d env', GoodT K F Xs H σ env v d T Tm t ∧ setT t d env = some env' ∧ ∀ σ', Good K F Xs H σ' env' T Tm → (∀ i, i ∉ t.slots → σ'[i]? = σ[i]?) → Q σ' H
theorem tup_tp {N : List Str} {sc : Scope} {w : Wk} {tg : Expr} {t : Tg} (h : tupW w tg = true) (ht : cT N sc tg = some t) (hw : w = .en ∨ w = .zp) : ∃ ts, t = .tp ts := by
  rcases hw with rfl | rfl
  all_goals
    cases tg with
    | Tuple es k p =>
      simp only [cT, msi] at ht
      obtain ⟨ts, _, rfl⟩ := ht
      exact ⟨_, rfl⟩
    | _ => cases h
def TGts (K : PySem.W.Frag) (t : Tgs) : TGs := fun vs σ H Q => ∃ F Xs T Tm env ds env', Good K F Xs H σ env (vs ++ T) (ds.map .im ++ Tm) ∧ vs.length = ds.length ∧ setTs t ds env = some env' ∧ ∀ σ', Good K F Xs H σ' env' T Tm → (∀ i, i ∉ t.slots → σ'[i]? = σ[i]?) → Q σ' H
theorem PG.weak {e : Expr} {t t' : TG} (h : PG X e t) (w : ∀ v σ H Q, t' v σ H Q → t v σ H Q) : PG X e t' := ⟨fun pins s σ H v u Q I r q => h.run pins s σ H v u Q I r (w v σ H Q q)⟩
theorem PGs.weak {e : List Expr} {t t' : TGs} (h : PGs X e t) (w : ∀ v σ H Q, t' v σ H Q → t v σ H Q) : PGs X e t' := ⟨fun pins s σ H v u Q I r q => h.run pins s σ H v u Q I r (w v σ H Q q)⟩
theorem pg_nm {x : Str} {i : Nat} {pos : Pos} (nd : X.N.Nodup) (hi : X.N[i]? = some x) (tk : Tok X ts) (ho : isOwn ts x = true) : PG X (.Name x pos) (TGt X.K (.nm i)) := by
  refine PG.weak (pg_name nd hi (tk x ho).1 (tk x ho).2) fun v σ H Q ⟨F, Xs, T, Tm, env, d, env', g, e, q⟩ => ?_
  have g : Good X.K F Xs H σ env (v :: T) (.im d :: Tm) := by
    rcases g with g | ⟨_, _, _, _, z, _⟩ | ⟨_, _, _, _, z, _⟩
    · exact g
    · cases z
    · cases z
  simp only [setT] at e
  split at e
  · next hl =>
    cases e
    exact q _ (g.set hl) fun j hj => by
      have : i ≠ j := fun z => hj (by simp [Tg.slots, z])
      rw [List.getElem?_set_ne this]
  · cases e
/-- the items of a tuple, as temporaries -/
theorem Good.untup {K : PySem.W.Frag} {F : Hp} {Xs : List Addr} {H : Hp} {σ : L2.St} {env : EnvM} {T : List V} {Tm : List M} {v : V} {ds : List PyData} (g : Good K F Xs H σ env (v :: T) (.im (.tuple ds) :: Tm)) :
    ∃ a xs, v = .ref a ∧ SqT K H a xs ∧ xs.length = ds.length ∧ Good K F Xs H σ env (xs ++ T) (ds.map .im ++ Tm) := by
  obtain ⟨O1, O2, g⟩ := g
  have gt := g.rt
  cases gt with
  | @cons _ _ _ _ o o2 hv hr =>
    obtain ⟨a, xs, rfl, hs, r⟩ := hv.toTup
    have ho : o = [] := by cases hv; rfl
    subst ho
    refine ⟨a, xs, rfl, hs, r.length, O1, [] ++ o2, g.nd, g.re, (RMs.of_ims r).append hr, g.frame, g.dis, g.xs⟩
theorem Good.unlst {K : PySem.W.Frag} {F : Hp} {Xs : List Addr} {H : Hp} {σ : L2.St} {env : EnvM} {T : List V} {Tm : List M} {v : V} {ds : List PyData} (g : Good K F Xs H σ env (v :: T) (.im (.list ds) :: Tm)) :
    ∃ a xs, v = .ref a ∧ SqL K H a xs ∧ xs.length = ds.length ∧ Good K F Xs H σ env (xs ++ T) (ds.map .im ++ Tm) := by
  obtain ⟨O1, O2, g⟩ := g
  have gt := g.rt
  cases gt with
  | @cons _ _ _ _ o o2 hv hr =>
    cases hv with
    | im hv =>
      cases hv with
      | @lst a xs _ hs r => exact ⟨a, xs, rfl, hs.seq, r.length, O1, [] ++ o2, g.nd, g.re, (RMs.of_ims r).append hr, g.frame, g.dis, g.xs⟩
theorem Good.unml {K : PySem.W.Frag} {F : Hp} {Xs : List Addr} {H : Hp} {σ : L2.St} {env : EnvM} {T : List V} {Tm ms : List M} {v : V} {ts : Tgs} (g : Good K F Xs H σ env (v :: T) (.ml ms :: Tm)) :
    ∃ ts' a xs ds, Tg.tp ts = .tp ts' ∧ PyData.list (fzs ms) = .list ds ∧ v = .ref a ∧ SqL K H a xs ∧ xs.length = ds.length ∧ Good K F Xs H σ env (xs ++ T) (ds.map .im ++ Tm) := by
  obtain ⟨O1, O2, g⟩ := g
  have g' : Gd K F Xs H σ env ([v] ++ T) ([.ml ms] ++ Tm) O1 O2 := g
  obtain ⟨o, o2, rfl, r, blk⟩ := g'.blk rfl
  have nd := g.nd
  simp only [List.nodup_append] at nd
  cases r with
  | cons h1 h2 =>
    cases h2
    cases h1 with
    | ml e r =>
      rename_i a vs os
      have nda : (a :: os).Nodup := by simpa using nd.2.1.1
      refine ⟨_, a, vs, _, rfl, rfl, rfl, (LsA.seq (.inl (.of e))), ?_, ?_⟩
      · rw [fzs_map, List.length_map]; exact r.length
      · exact blk H vs ((fzs ms).map .im) [] (fun _ _ e _ => e) (by simp) (fun b hb => absurd hb List.not_mem_nil) fun S' k fr ow => .of_ims (r.fz (fun b x e s => k.ok b x e s) fun b hb => ow b (by simp [hb]) List.not_mem_nil)
/-- a tuple or a list is taken apart -/
theorem pg_tul {X : Cx} {pos : Pos} {es : List Expr} {k : Nat} {t : TGs} {n : Nat} (hc : X.calm = true) (h : PGs X es t)
    (hn : (assignEach es X.env).length = n) (hst : (assignEach es X.env).findIdx? (·.1) = none) : PG X (.Tuple es k pos) (fun v σ H Q => gTup X.K n t v σ H Q ∨ gUnl X.K n t v σ H Q) :=
  ⟨fun pins s σ H v u Q I r q => q.elim ((pg_tup hc h hn hst).run pins s σ H v u Q I r) ((pg_unl hc h hn hst).run pins s σ H v u Q I r)⟩
def Tgs.len : Tgs → Nat
  | .nil => 0
  | .cons _ ts => ts.len + 1
theorem setTs_len : ∀ {t : Tgs} {ds : List PyData} {env env' : EnvM}, setTs t ds env = some env' → ds.length = t.len
  | .nil, [], _, _, _ => rfl
  | .nil, _ :: _, _, _, h => by simp [setTs] at h
  | .cons _ _, [], _, _, h => by simp [setTs] at h
  | .cons t ts, d :: ds, _, _, h => by
    simp only [setTs, bsi] at h
    obtain ⟨e1, _, h2⟩ := h
    exact congrArg (· + 1) (setTs_len h2)
mutual
theorem pgT (nd : X.N.Nodup) (hN : X.N = U.N) (hc : X.calm = true) (tk : Tok X ts) (e : Expr) (t : Tg) (h : cT U.N ts e = some t) : PG X e (TGt X.K t) := by
  cases e with
  | Name x pos =>
    simp only [cT] at h
    split at h
    · next ho =>
      rw [msi] at h
      obtain ⟨i, hi, rfl⟩ := h
      exact pg_nm nd (by rw [hN]; exact slot_name hi) tk ho
    · cases h
  | Tuple es k pos =>
    simp only [cT, msi] at h
    obtain ⟨t2, h2, rfl⟩ := h
    obtain ⟨h3, hl, hf, hn⟩ := pgTs nd hN hc tk es t2 h2
    refine PG.weak (pg_tul (n := es.length) hc h3 hl hf) fun v σ H Q ⟨F, Xs, T, Tm, env, d, env', g, e, q⟩ => ?_
    cases d with
    | tuple ds =>
      simp only [setT] at e
      obtain ⟨a, xs, rfl, hs, hlen, g2⟩ : ∃ a xs, v = .ref a ∧ SqT X.K H a xs ∧ xs.length = ds.length ∧ Good X.K F Xs H σ env (xs ++ T) (ds.map .im ++ Tm) := by
        rcases g with g | ⟨_, a, xs, ds', _, z, rfl, hs, hl, g⟩ | ⟨_, a, xs, ds', _, z, rfl, hs, hl, g⟩
        · exact g.untup
        · cases z; exact ⟨a, xs, rfl, hs, hl, g⟩
        · cases z
      exact .inl ⟨a, xs, rfl, hs, by rw [hlen, setTs_len e, hn], F, Xs, T, Tm, env, ds, env', g2, hlen, e, fun σ' g' k => q σ' g' k⟩
    | list ds =>
      simp only [setT] at e
      obtain ⟨a, xs, rfl, hs, hlen, g2⟩ : ∃ a xs, v = .ref a ∧ SqL X.K H a xs ∧ xs.length = ds.length ∧ Good X.K F Xs H σ env (xs ++ T) (ds.map .im ++ Tm) := by
        rcases g with g | ⟨_, a, xs, ds', _, z, rfl, hs, hl, g⟩ | ⟨_, a, xs, ds', _, z, rfl, hs, hl, g⟩
        · exact g.unlst
        · cases z
        · cases z; exact ⟨a, xs, rfl, hs, hl, g⟩
      exact .inr ⟨a, xs, rfl, hs, by rw [hlen, setTs_len e, hn], F, Xs, T, Tm, env, ds, env', g2, hlen, e, fun σ' g' k => q σ' g' k⟩
    | _ => simp [setT] at e
  | _ => cases h
theorem pgTs (nd : X.N.Nodup) (hN : X.N = U.N) (hc : X.calm = true) (tk : Tok X ts) (es : List Expr) (t : Tgs) (h : cTs U.N ts es = some t) : PGs X es (TGts X.K t) ∧ (assignEach es X.env).length = es.length ∧ (assignEach es X.env).findIdx? (·.1) = none ∧ t.len = es.length := by
  cases es with
  | nil =>
    cases h
    refine ⟨PGs.weak pgs_nil fun vs σ H Q ⟨F, Xs, T, Tm, env, ds, env', g, hl, e, q⟩ => ?_, rfl, rfl, rfl⟩
    cases ds with
    | nil =>
      simp only [setTs, Option.some.injEq] at e
      subst e
      obtain rfl := List.length_eq_zero_iff.mp hl
      exact ⟨rfl, q σ g fun _ _ => rfl⟩
    | cons d ds => simp [setTs] at e
  | cons e es =>
    simp only [cTs, bsi, msi] at h
    obtain ⟨t1, h1, t2, h2, rfl⟩ := h
    have p1 := pgT nd hN hc tk e t1 h1
    obtain ⟨p2, hl, hf, hn⟩ := pgTs nd hN hc tk es t2 h2
    have hst : assignEach (e :: es) X.env = (false, assign e X.env) :: assignEach es X.env := by
      cases e <;> first | rfl | cases h1
    refine ⟨PGs.weak (pgs_cons p1 p2 (by rw [hst]; rfl)) fun vs σ H Q ⟨F, Xs, T, Tm, env, ds, env', g, hlv, e, q⟩ => ?_, by rw [hst, List.length_cons, hl, List.length_cons], by rw [hst, List.findIdx?_cons]; simp [hf], by show t2.len + 1 = _; rw [hn]; rfl⟩
    cases ds with
    | nil => simp [setTs] at e
    | cons d ds =>
      simp only [setTs, bsi] at e
      obtain ⟨env1, e1, e2⟩ := e
      match vs, hlv with
      | v :: vs, hlv =>
        refine ⟨v, vs, rfl, F, Xs, vs ++ T, ds.map M.im ++ Tm, env, d, env1, .inl g, e1, fun σ' g' k => ⟨F, Xs, T, Tm, env1, ds, env', g', by simpa using hlv, e2, fun σ'' g'' k2 => q σ'' g'' fun i hi => ?_⟩⟩
        simp only [Tgs.slots, List.mem_append, not_or] at hi
        rw [k2 i hi.2, k i hi.1]
end
end
end D8

namespace D8
open PySem PySem.Spec PyProof.Rows L2
theorem bool_eq {m : M} {b : Bool} (h : bool? m = some b) : m = mbl b := by
  unfold bool? at h
  split at h
  · cases h; rfl
  · cases h
theorem bool_mbl (b : Bool) : bool? (mbl b) = some b := rfl
theorem slot_val {Γ : Gam} {i : Nat} {env : EnvM} {b : Bool} (h : slot env i = some (mbl b)) : evalE Γ (.nm i) env = some (mbl b, env) := by
  simp only [evalE, h, Option.bind_some]
theorem evalT_val {Γ : Gam} : ∀ {e : E} {env : EnvM} {b : Bool} {env' : EnvM}, evalT Γ e env = some (b, env') → evalE Γ e env = some (mbl b, env')
  | .nm i, env, b, env', h => by
    simp only [evalT, bsi, msi] at h
    obtain ⟨m, h1, c, h2, h3⟩ := h
    cases h3
    rw [bool_eq h2] at h1
    exact slot_val h1
  | .cs d, env, b, env', h => by
    cases d with
    | bool c => simp only [evalT, Option.some.injEq, Prod.mk.injEq] at h; obtain ⟨rfl, rfl⟩ := h; rfl
    | _ => simp [evalT] at h
  | .pr p es, env, b, env', h => by
    simp only [evalT, bsi, msi] at h
    obtain ⟨r, h1, ms, h2, m, h3, c, h4, h5⟩ := h
    cases h5
    simp only [evalE, h1, h2, h3, Option.bind_some, Option.map_some, bool_eq h4]
  | .qt e, env, b, env', h => by
    simp only [evalT, bsi, msi] at h
    obtain ⟨r, h1, c, h2, h3⟩ := h
    cases h3
    have e2 := bool_eq h2
    simp only [evalE, h1, Option.bind_some]
    rw [e2]
    rfl
  | .and x y, env, b, env', h => by
    simp only [evalT, bsi] at h
    obtain ⟨⟨c, e1⟩, h1, h2⟩ := h
    simp only [evalE, evalT_val h1, Option.bind_some, bool_mbl]
    cases c with
    | true => simp only [if_true] at h2 ⊢; exact evalT_val h2
    | false => simp only [Bool.false_eq_true, if_false, Option.some.injEq, Prod.mk.injEq] at h2 ⊢; obtain ⟨rfl, rfl⟩ := h2; exact ⟨rfl, rfl⟩
  | .or x y, env, b, env', h => by
    simp only [evalT, bsi] at h
    obtain ⟨⟨c, e1⟩, h1, h2⟩ := h
    simp only [evalE, evalT_val h1, Option.bind_some, bool_mbl]
    cases c with
    | false => simp only [Bool.false_eq_true, if_false] at h2 ⊢; exact evalT_val h2
    | true => simp only [if_true, Option.some.injEq, Prod.mk.injEq] at h2 ⊢; obtain ⟨rfl, rfl⟩ := h2; exact ⟨rfl, rfl⟩
  | .not x, env, b, env', h => by
    simp only [evalT, msi] at h
    obtain ⟨⟨c, e1⟩, h1, h2⟩ := h
    cases h2
    simp only [evalE, evalT_val h1, Option.bind_some, bool_mbl, Option.map_some]
  | .ch p q x y z, env, b, env', h => by
    simp only [evalT, bsi] at h
    obtain ⟨ra, h1, rb, h2, m, h3, t, h4, h5⟩ := h
    simp only [evalE, h1, h2, h3, h4, Option.bind_some]
    cases t with
    | false => simp only [Bool.false_eq_true, if_false, Option.some.injEq, Prod.mk.injEq] at h5 ⊢; obtain ⟨rfl, rfl⟩ := h5; exact ⟨rfl, rfl⟩
    | true =>
      simp only [if_true, bsi, msi] at h5 ⊢
      obtain ⟨rc, h6, y2, h7, u, h8, h9⟩ := h5
      cases h9
      exact ⟨rc, h6, y2, h7, b, h8, rfl⟩
  | .call g es, env, b, env', h => by
    simp only [evalT, bsi] at h
    obtain ⟨r, h1, a, h2, q, h3, h4⟩ := h
    simp only [evalE, h1, h2, h3, Option.bind_some]
    split at h4
    · next hl =>
      rw [msi] at h4
      obtain ⟨c, h5, h6⟩ := h4
      cases h6
      rw [if_pos hl, bool_eq h5]
    · cases h4
  | .callK g ix es, env, b, env', h => by
    simp only [evalT, bsi] at h
    obtain ⟨r, h1, ds, h2, ds', h3, q, h4, h5⟩ := h
    simp only [evalE, h1, h2, h3, h4, Option.bind_some]
    split at h5
    · next hl =>
      rw [msi] at h5
      obtain ⟨c, h6, h7⟩ := h5
      cases h7
      rw [if_pos hl, bool_eq h6]
    · cases h5
  | .ite _ _ _, _, _, _, h => by simp [evalT] at h
  | .tup _, _, _, _, h => by simp [evalT] at h
  | .lst _, _, _, _, h => by simp [evalT] at h
  | .dct _, _, _, _, h => by simp [evalT] at h
  | .mv _, _, _, _, h => by simp [evalT] at h
  | .cnt _ _, _, _, _, h => by simp [evalT] at h
  | .get _ _ _, _, _, _, h => by simp [evalT] at h
  | .mt _ _ _, _, _, _, h => by simp [evalT] at h
  | .mp _ _ _ _, _, _, _, h => by simp [evalT] at h
  | .lc _ _ _ _ _ _, _, _, _, h => by simp [evalT] at h
section
variable {K : PySem.W.Frag} {Γ : Gam} {F : Hp} {Xs : List Addr} {H H' : Hp} {σ : L2.St} {env : EnvM} {T U : List V} {Tm Um : List M}
theorem Good.topBl {v : V} {b : Bool} (g : Good K F Xs H σ env (v :: T) (mbl b :: Tm)) : v = .bl b := by
  obtain ⟨O1, O2, g⟩ := g
  cases g.rt with
  | cons h _ => exact h.toBl
theorem TT_of {e : E} (σ : L2.St) (H : Hp) (Q : Bool → Hp → Prop) (h : TTe K Γ e σ H Q) : tB (TEe K Γ e) σ H Q := by
  obtain ⟨F, Xs, T, Tm, env, b, env', g, ev, q⟩ := h
  exact ⟨F, Xs, T, Tm, env, mbl b, env', g, evalT_val ev, fun v H' g' => ⟨b, g'.topBl, q H' g'.pop⟩⟩
/-- data that stand anywhere -/
theorem Good.pushC {v : V} {d : PyData} (g : Good K F Xs H σ env T Tm) (h : ∀ S : Addr → Prop, RV K S H v d) : Good K F Xs H σ env (v :: T) (.im d :: Tm) := by
  obtain ⟨O1, O2, g⟩ := g
  exact (g.push (h _)).good
end
section
variable {X : Cx} {U : Sur} {Γ : Gam} {sc : Scope}
structure OkE (X : Cx) (Γ : Gam) (e : Expr) (c : E) : Prop where
  v : PE X e (TEe X.K Γ c)
  o : PE X e (TOe X.K Γ c)
  t : PT X e (TTe X.K Γ c)
theorem OkE.plain {e : Expr} {c : E} (ne : ∀ i, c ≠ .nm i) (he : ∀ whole, isTrue e X.env whole = (do let v ← whole; standAt e.pos; holding [v] (truthy v))) (v : PE X e (TEe X.K Γ c)) : OkE X Γ e c :=
  ⟨v, PE.weak v (TOe_of ne), PT.weak (pt_val v he) TT_of⟩
theorem OkE.noT {e : Expr} {c : E} (ne : ∀ i, c ≠ .nm i) (hT : ∀ env, evalT Γ c env = none) (v : PE X e (TEe X.K Γ c)) : OkE X Γ e c :=
  ⟨v, PE.weak v (TOe_of ne), ⟨fun pins s σ H Q I ⟨F, Xs, T, Tm, env, b, env', g, ev, q⟩ => by rw [hT] at ev; cases ev⟩⟩
theorem okC {e : Expr} {d : PyData} {v : V} (he : ∀ whole, isTrue e X.env whole = (do let v ← whole; standAt e.pos; holding [v] (truthy v))) (h : PE X e (tC v)) (r : ∀ S H, RV X.K S H v d) : OkE X Γ e (.cs d) :=
  .plain (fun _ z => nomatch z) he (PE.weak h fun σ H Q ⟨F, Xs, T, Tm, env, m, env', g, ev, q⟩ => by
    simp only [evalE, Option.some.injEq, Prod.mk.injEq] at ev
    obtain ⟨rfl, rfl⟩ := ev
    exact q v H (g.pushC fun S => r S H))
theorem okNm {x : Str} {i : Nat} {pos : Pos} (hi : X.N[i]? = some x) (hv : Vis X.env.scope x) (hd : dbg x = false) : OkE X Γ (.Name x pos) (.nm i) := by
  have pv := pe_var (pos := pos) hi hv (dbg_no hd).1 (dbg_no hd).2.1
  have v : PE X (.Name x pos) (TEe X.K Γ (.nm i)) := PE.weak pv fun σ H Q ⟨F, Xs, T, Tm, env, m, env', g, ev, q⟩ => by
    simp only [evalE, bsi] at ev
    obtain ⟨m0, h1, h2⟩ := ev
    cases m0 with
    | im d =>
      simp only [Option.some.injEq, Prod.mk.injEq] at h2
      obtain ⟨rfl, rfl⟩ := h2
      obtain ⟨O1, O2, g0⟩ := id g
      obtain ⟨w, o, e1, _⟩ := g0.slot h1
      exact ⟨w, e1, q w H (g.pushSlot h1 e1)⟩
    | ml xs =>
      simp only [Option.some.injEq, Prod.mk.injEq] at h2
      obtain ⟨rfl, rfl⟩ := h2
      obtain ⟨w, e1, g2⟩ := g.freeze h1
      exact ⟨w, e1, q w H g2⟩
    | md xs =>
      simp only [Option.some.injEq, Prod.mk.injEq] at h2
      obtain ⟨rfl, rfl⟩ := h2
      obtain ⟨w, e1, g2⟩ := g.freeze h1
      exact ⟨w, e1, q w H g2⟩
  refine ⟨v, PE.weak pv fun σ H Q ⟨F, Xs, T, Tm, env, o, env', g, ev, q⟩ => ?_, PT.weak (pt_val v fun _ => rfl) TT_of⟩
  simp only [evalO, msi] at ev
  obtain ⟨m0, h1, h2⟩ := ev
  cases h2
  obtain ⟨O1, O2, g0⟩ := id g
  obtain ⟨w, o, e1, _⟩ := g0.slot h1
  exact ⟨w, e1, q w H [] [] (.sl e1 .nil) g⟩
/-! ### primitives -/
theorem TE_pr {K : PySem.W.Frag} {p : Pr} {es : Es} (σ : L2.St) (H : Hp) (Q : VK) (h : TEe K Γ (.pr p es) σ H Q) : tCB (rP K (prF p)) (TOs K Γ es) σ H Q := by
  obtain ⟨F, Xs, T, Tm, env, m, env', g, ev, q⟩ := h
  simp only [evalE, bsi, msi] at ev
  obtain ⟨⟨ops, env1⟩, h1, ms, h2, m', h3, h4⟩ := ev
  cases h4
  exact ⟨F, Xs, T, Tm, env, ops, env1, g, h1, fun xs H1 U Um r g1 => g1.prim r h2 h3 fun v H2 g2 => q v H2 g2⟩
theorem TO_one {K : PySem.W.Frag} {a : E} {r : List V → Hp → VK → Prop} (σ : L2.St) (H : Hp) (Q : VK) (h : tCB r (TOs K Γ (.cons a .nil)) σ H Q) : tUn (fun x => r [x]) (TOe K Γ a) σ H Q := by
  obtain ⟨F, Xs, T, Tm, env, ops, env', g, ev, q⟩ := h
  rw [evalOs_one, msi] at ev
  obtain ⟨⟨o, env1⟩, h1, h2⟩ := ev
  cases h2
  exact ⟨F, Xs, T, Tm, env, o, env1, g, h1, fun v H1 U Um r1 g1 => q [v] H1 U Um r1 g1⟩
theorem TO_two {K : PySem.W.Frag} {a b : E} {r : List V → Hp → VK → Prop} (σ : L2.St) (H : Hp) (Q : VK) (h : tCB r (TOs K Γ (.cons a (.cons b .nil))) σ H Q) : tOp (fun x y => r [x, y]) (TOe K Γ a) (TOe K Γ b) σ H Q := by
  obtain ⟨F, Xs, T, Tm, env, ops, env', g, ev, q⟩ := h
  rw [evalOs_cons] at ev
  simp only [evalOs_one, bsi, msi] at ev
  obtain ⟨⟨o, env1⟩, h1, ⟨os, env2⟩, ⟨⟨o2, env3⟩, h3, h4⟩, h2⟩ := ev
  cases h4
  cases h2
  refine ⟨F, Xs, T, Tm, env, o, env1, g, h1, fun v H1 U Um r1 g1 => ⟨F, Xs, U ++ T, Um ++ Tm, env1, o2, _, g1, h3, fun w H2 U2 Um2 r2 g2 => ?_⟩⟩
  refine q [v, w] H2 (U ++ U2) (Um ++ Um2) (r1.append1 r2) ?_
  cases r1 with
  | sl h1 h2 => cases h2; exact g2
  | tm h2 => cases h2; exact g2.mid r2.lenU
theorem clean_im {m : M} (h : clean m.fz = true) : ∃ d, m = .im d ∧ clean d = true := by
  cases m with
  | im d => exact ⟨d, rfl, h⟩
  | ml xs => simp [M.fz, clean] at h
  | md xs => simp [M.fz, clean] at h
theorem TE_qt {K : PySem.W.Frag} {e : E} (σ : L2.St) (H : Hp) (Q : VK) (h : TEe K Γ (.qt e) σ H Q) : TEe K Γ e σ H Q := by
  obtain ⟨F, Xs, T, Tm, env, m, env', g, ev, q⟩ := h
  simp only [evalE, bsi] at ev
  obtain ⟨⟨m0, e0⟩, h1, h2⟩ := ev
  split at h2
  · next hc =>
    cases h2
    obtain ⟨d, hm, hd⟩ := clean_im hc
    simp only at hm
    subst hm
    refine TEe_quiet _ _ _ ⟨F, Xs, T, Tm, env, .im d, e0, g, h1, fun v H' sm g' rv => q v H' ?_⟩
    exact g'.pushC fun S => RV.clean (fun _ _ e _ => e) hd rv
  · cases h2
theorem mkPr_ne {p : Pr} {es : List E} (i : Nat) : mkPr p es ≠ .nm i := by
  unfold mkPr
  simp only
  split <;> exact fun z => nomatch z
theorem mk_pr {e : Expr} {p : Pr} {es : List E} (h : PE X e (TEe X.K Γ (.pr p (Es.ofL es)))) : PE X e (TEe X.K Γ (mkPr p es)) := by
  unfold mkPr
  simp only
  split
  · exact PE.weak h TE_qt
  · exact h
end
end D8

namespace D8
open PySem PySem.Spec PyProof.Rows L2
section
variable {X : Cx} {U : Sur} {Γ : Gam} {sc : Scope}
theorem rP_never {K : PySem.W.Frag} {f : List M → Option M} (hf : ∀ ms, f ms = none) {xs : List V} {H : Hp} {Q : VK} (h : rP K f xs H Q) : False := by
  obtain ⟨S, ms, m, _, _, e, _⟩ := h
  rw [hf] at e; cases e
theorem never_call {f : Value} {g : List M → Option M} (hf : ∀ ms, g ms = none) : CallR X f (rP X.K g) := fun pins s σ H xs us Q I r h => (rP_never hf h).elim
theorem binP_ok {op : Operator} {p : Pr} (h : binP op = some p) : L2.OpR X (binaryOp op) (fun x y => rP X.K (prF p) [x, y]) := by
  cases op <;> simp only [binP, Option.some.injEq, reduceCtorEq] at h <;> subst h
  · exact pr_add
  · exact pr_sub
  · exact pr_mul
  · exact pr_mod
  · exact pr_pow
  · exact pr_fdiv
theorem cmpP_ok (hu : X.A.units + 150 < cLine) {op : CmpOp} {p : Pr} (h : cmpP op = some p) : L2.OpR X (compareOp op) (fun x y => rP X.K (prF p) [x, y]) := by
  cases op <;> simp only [cmpP, Option.some.injEq, reduceCtorEq] at h <;> subst h
  · exact pr_eq (by omega)
  · exact pr_ne (by omega)
  · exact pr_lt
  · exact pr_le
  · exact pr_gt
  · exact pr_ge
  · exact pr_isN
  · exact pr_noN
  · exact pr_in (by omega)
  · exact pr_nin (by omega)
theorem bltP_ok (o : Ok X U Γ sc) {x : Str} {n : Nat} {p : Pr} (h : bltP x n = some p) : x ∈ bltNs ∧ ((∃ id, bootBuiltins x = some (.builtin id) ∧ CallR X (.builtin id) (rP X.K (prF p))) ∨ ∃ T, bootBuiltins x = some (.type T) ∧ CallR X (.type T) (rP X.K (prF p))) := by
  have hu := o.un
  have hc := o.calm
  unfold bltP at h
  split at h
  · have hm := PySem.mem_of_lookup h
    simp only [blt1, List.mem_cons, Prod.mk.injEq, List.not_mem_nil, or_false] at hm
    rcases hm with ⟨rfl, rfl⟩ | ⟨rfl, rfl⟩ | ⟨rfl, rfl⟩ | ⟨rfl, rfl⟩ | ⟨rfl, rfl⟩ | ⟨rfl, rfl⟩ | ⟨rfl, rfl⟩ | ⟨rfl, rfl⟩ | ⟨rfl, rfl⟩ | ⟨rfl, rfl⟩ | ⟨rfl, rfl⟩ | ⟨rfl, rfl⟩
    · exact ⟨by decide, .inl ⟨_, rfl, pr_len⟩⟩
    · exact ⟨by decide, .inl ⟨_, rfl, pr_abs⟩⟩
    · exact ⟨by decide, .inr ⟨_, rfl, pr_int⟩⟩
    · exact ⟨by decide, .inl ⟨_, rfl, pr_sum hc⟩⟩
    · exact ⟨by decide, .inl ⟨_, rfl, pr_sorted (by omega)⟩⟩
    · exact ⟨by decide, .inr ⟨_, rfl, pr_tup⟩⟩
    · exact ⟨by decide, .inr ⟨_, rfl, pr_lst⟩⟩
    · exact ⟨by decide, .inl ⟨_, rfl, pr_rpr o.gd (by omega)⟩⟩
    · exact ⟨by decide, .inl ⟨_, rfl, pr_all hc⟩⟩
    · exact ⟨by decide, .inl ⟨_, rfl, pr_any hc⟩⟩
    · exact ⟨by decide, .inl ⟨_, rfl, pr_min1 (by omega) hc⟩⟩
    · exact ⟨by decide, .inl ⟨_, rfl, pr_max1 (by omega) hc⟩⟩
  · split at h
    · have hm := PySem.mem_of_lookup h
      simp only [blt2, List.mem_cons, Prod.mk.injEq, List.not_mem_nil, or_false] at hm
      rcases hm with ⟨rfl, rfl⟩ | ⟨rfl, rfl⟩
      · exact ⟨by decide, .inl ⟨_, rfl, pr_min2 hc⟩⟩
      · exact ⟨by decide, .inl ⟨_, rfl, pr_max2 hc⟩⟩
    · cases h
inductive Fa2 {α β : Type} (R : α → β → Prop) : List α → List β → Prop
  | nil : Fa2 R [] []
  | cons {a : α} {b : β} {l₁ : List α} {l₂ : List β} : R a b → Fa2 R l₁ l₂ → Fa2 R (a :: l₁) (b :: l₂)
/-! ### forms -/
theorem okBin {a b : Expr} {A B : E} {op : Operator} {p : Pr} {pos : Pos} (hp : binP op = some p) (ha : OkE X Γ a A) (hb : OkE X Γ b B) : OkE X Γ (.BinOp a op b pos) (mkPr p [A, B]) :=
  .plain mkPr_ne (fun _ => rfl) (mk_pr (PE.weak (pe_op (binP_ok hp) ha.o hb.o) fun σ H Q h => TO_two σ H Q (TE_pr σ H Q h)))
theorem PE.mono_mk {e : Expr} {t : TE} {p : Pr} {es : List E} (w : ∀ σ H Q, TEe X.K Γ (.pr p (Es.ofL es)) σ H Q → t σ H Q) : ∀ σ H Q, TEe X.K Γ (mkPr p es) σ H Q → t σ H Q := fun σ H Q h => by
  unfold mkPr at h
  simp only at h
  split at h
  · exact w _ _ _ (TE_qt _ _ _ h)
  · exact w _ _ _ h
theorem okCmp {a b : Expr} {A B : E} {op : CmpOp} {p : Pr} {pos : Pos} (hu : X.A.units + 150 < cLine) (hp : cmpP op = some p) (ha : OkE X Γ a A) (hb : OkE X Γ b B) (hm : behindInMarks op b = false) : OkE X Γ (.Compare a [op] [b] pos) (mkPr p [A, B]) := by
  have w := PE.mono_mk (X := X) (e := .Compare a [op] [b] pos) (p := p) (es := [A, B]) fun σ H Q h => TO_two σ H Q (TE_pr (Γ := Γ) σ H Q h)
  have v : PE X (.Compare a [op] [b] pos) (TEe X.K Γ (mkPr p [A, B])) := PE.weak (pe_cmpR (cmpP_ok hu hp) ha.o hb.o hm) w
  exact ⟨v, PE.weak v (TOe_of mkPr_ne), PT.weak (pt_cmpR (cmpP_ok hu hp) ha.o hb.o hm) fun σ H Q h => w _ _ _ (TT_of σ H Q h)⟩
theorem okNeg {a : Expr} {A : E} {pos : Pos} (ha : OkE X Γ a A) : OkE X Γ (.UnaryOp .USub a pos) (mkPr .neg [A]) :=
  .plain mkPr_ne (fun _ => rfl) (mk_pr (PE.weak (pe_un pr_neg ha.o) fun σ H Q h => TO_one σ H Q (TE_pr σ H Q h)))
theorem okNot {a : Expr} {A : E} {pos : Pos} (ha : OkE X Γ a A) : OkE X Γ (.UnaryOp .Not a pos) (.not A) := by
  have v : PE X (.UnaryOp .Not a pos) (TEe X.K Γ (.not A)) := PE.weak (pe_not ha.v) fun σ H Q ⟨F, Xs, T, Tm, env, m, env', g, ev, q⟩ => by
    simp only [evalE, bsi, msi] at ev
    obtain ⟨⟨m1, e1⟩, h1, b, h2, h3⟩ := ev
    cases h3
    have := bool_eq h2
    simp only at this
    subst this
    refine ⟨F, Xs, T, Tm, env, _, _, g, h1, fun v H' g' => ⟨b, g'.topBl, q _ H' (g'.pop.pushC fun S => .bl _)⟩⟩
  refine ⟨v, PE.weak v (TOe_of fun _ z => nomatch z), PT.weak (pt_not ha.t) fun σ H Q ⟨F, Xs, T, Tm, env, b, env', g, ev, q⟩ => ?_⟩
  simp only [evalT, msi] at ev
  obtain ⟨⟨c, e1⟩, h1, h2⟩ := ev
  cases h2
  exact ⟨F, Xs, T, Tm, env, c, _, g, h1, fun H' g' => q H' g'⟩
theorem okIf {c a b : Expr} {C A B : E} {pos : Pos} (hc : OkE X Γ c C) (ha : OkE X Γ a A) (hb : OkE X Γ b B) : OkE X Γ (.IfExp c a b pos) (.ite C A B) := by
  refine .noT (fun _ z => nomatch z) (fun _ => rfl) (PE.weak (pe_ifExp hc.t ha.v hb.v) fun σ H Q ⟨F, Xs, T, Tm, env, m, env', g, ev, q⟩ => ?_)
  simp only [evalE, bsi] at ev
  obtain ⟨⟨t, e1⟩, h1, h2⟩ := ev
  refine ⟨F, Xs, T, Tm, env, t, e1, g, h1, fun H1 g1 => ?_⟩
  cases t with
  | true => simp only [if_true] at h2 ⊢; exact ⟨F, Xs, T, Tm, e1, m, env', g1, h2, fun v H' g' => q v H' g'⟩
  | false => simp only [Bool.false_eq_true, if_false] at h2 ⊢; exact ⟨F, Xs, T, Tm, e1, m, env', g1, h2, fun v H' g' => q v H' g'⟩
/-- and, or: the tail of the list -/
theorem okBool {op : BoolOp} {pos : Pos} : ∀ {es : List Expr} {Es : List E} {R : E}, Fa2 (OkE X Γ) es Es → cBool op Es = some R → PE X (.BoolOp op es pos) (TEe X.K Γ R) ∧ PE X (.BoolOp op es pos) (TOe X.K Γ R) ∧ PW X (.BoolOp op es pos) (TTe X.K Γ R)
  | _, _, R, .nil, h => nomatch h
  | _, _, R, .cons (a := e) (b := c) h1 .nil, h => by
    simp only [cBool, Option.some.injEq] at h
    subst h
    refine ⟨pe_one h1.v, pe_one h1.o, ?_⟩
    cases op with
    | And => exact pw_and1 h1.t
    | Or => exact pw_or1 h1.t
  | _, _, R, .cons (a := e) (b := c) h1 (.cons (a := e2) (b := c2) (l₁ := es) (l₂ := cs) h2 hs), h => by
    simp only [cBool, msi] at h
    obtain ⟨R2, h3, h4⟩ := h
    obtain ⟨v2, _, w2⟩ := okBool (pos := pos) (.cons h2 hs) h3
    cases op with
    | And =>
      simp only at h4
      subst h4
      have v : PE X (.BoolOp .And (e :: e2 :: es) pos) (TEe X.K Γ (.and c R2)) := PE.weak (pe_and h1.v v2) fun σ H Q ⟨F, Xs, T, Tm, env, m, env', g, ev, q⟩ => by
        simp only [evalE, bsi] at ev
        obtain ⟨⟨m1, e1⟩, k1, b, k2, k3⟩ := ev
        have := bool_eq k2
        simp only at this
        subst this
        refine ⟨F, Xs, T, Tm, env, _, _, g, k1, fun v H1 g1 => ⟨b, g1.topBl, ?_⟩⟩
        cases b with
        | true => simp only [if_true] at k3 ⊢; exact ⟨F, Xs, T, Tm, e1, m, env', g1.pop, k3, fun v H' g' => q v H' g'⟩
        | false =>
          simp only [Bool.false_eq_true, if_false, Option.some.injEq, Prod.mk.injEq] at k3 ⊢
          obtain ⟨rfl, rfl⟩ := k3
          exact q _ H1 (g1.pop.pushC fun S => .bl _)
      refine ⟨v, PE.weak v (TOe_of fun _ z => nomatch z), ⟨fun wh pins s σ H Q I hw => (pw_and h1.t w2).run wh pins s σ H Q I ?_⟩⟩
      obtain ⟨F, Xs, T, Tm, env, b, env', g, ev, q⟩ := hw
      simp only [evalT, bsi] at ev
      obtain ⟨⟨t, e1⟩, k1, k2⟩ := ev
      refine ⟨F, Xs, T, Tm, env, t, e1, g, k1, fun H1 g1 => ?_⟩
      cases t with
      | true => simp only [if_true] at k2 ⊢; exact ⟨F, Xs, T, Tm, e1, b, env', g1, k2, fun H' g' => q H' g'⟩
      | false =>
        simp only [Bool.false_eq_true, if_false, Option.some.injEq, Prod.mk.injEq] at k2 ⊢
        obtain ⟨rfl, rfl⟩ := k2
        exact q H1 g1
    | Or =>
      simp only at h4
      subst h4
      have v : PE X (.BoolOp .Or (e :: e2 :: es) pos) (TEe X.K Γ (.or c R2)) := PE.weak (pe_or h1.v v2) fun σ H Q ⟨F, Xs, T, Tm, env, m, env', g, ev, q⟩ => by
        simp only [evalE, bsi] at ev
        obtain ⟨⟨m1, e1⟩, k1, b, k2, k3⟩ := ev
        have := bool_eq k2
        simp only at this
        subst this
        refine ⟨F, Xs, T, Tm, env, _, _, g, k1, fun v H1 g1 => ⟨b, g1.topBl, ?_⟩⟩
        cases b with
        | false => simp only [Bool.false_eq_true, if_false] at k3 ⊢; exact ⟨F, Xs, T, Tm, e1, m, env', g1.pop, k3, fun v H' g' => q v H' g'⟩
        | true =>
          simp only [if_true, Option.some.injEq, Prod.mk.injEq] at k3 ⊢
          obtain ⟨rfl, rfl⟩ := k3
          exact q _ H1 (g1.pop.pushC fun S => .bl _)
      refine ⟨v, PE.weak v (TOe_of fun _ z => nomatch z), ⟨fun wh pins s σ H Q I hw => (pw_or h1.t w2).run wh pins s σ H Q I ?_⟩⟩
      obtain ⟨F, Xs, T, Tm, env, b, env', g, ev, q⟩ := hw
      simp only [evalT, bsi] at ev
      obtain ⟨⟨t, e1⟩, k1, k2⟩ := ev
      refine ⟨F, Xs, T, Tm, env, t, e1, g, k1, fun H1 g1 => ?_⟩
      cases t with
      | false => simp only [Bool.false_eq_true, if_false] at k2 ⊢; exact ⟨F, Xs, T, Tm, e1, b, env', g1, k2, fun H' g' => q H' g'⟩
      | true =>
        simp only [if_true, Option.some.injEq, Prod.mk.injEq] at k2 ⊢
        obtain ⟨rfl, rfl⟩ := k2
        exact q H1 g1
theorem rP.keep {F : Hp} {Xs : List Addr} {H : Hp} {σ : L2.St} {env : EnvM} {T : List V} {Tm : List M} {f : List M → Option M} {x y : V} {m n : M} {b : M} {c : Bool} {Q : VK} (g : ∃ S : Addr → Prop, (∀ p, H p = none → S p) ∧ PKs X.K S H [x, y] [m, n]) (ef : f [m, n] = some b) (hb : bool? b = some c)
    (h : ∀ H', Same H H' → Q (.bl c) H') : rP X.K f [x, y] H Q := by
  obtain ⟨S, hS, pk⟩ := g
  refine ⟨S, [m, n], b, hS, pk, ef, fun v H' sm nr => ?_⟩
  have := bool_eq hb
  subst this
  rcases nr with ⟨d, hd, r⟩ | ⟨os, r, _, hf⟩
  · cases hd; cases r; exact h H' sm
  · have := r (fun a => a ∉ os) (fun a _ z => z) (fun a _ z => z)
    cases this with
    | im r => cases r; exact h H' sm
theorem okChain {a b c : Expr} {A B C : E} {op op' : CmpOp} {p p' : Pr} {pos : Pos} (hu : X.A.units + 150 < cLine) (hp : cmpP op = some p) (hp' : cmpP op' = some p') (ha : OkE X Γ a A) (hb : OkE X Γ b B) (hc : OkE X Γ c C) (hm : lastMarks [op, op'] [b, c] = false) :
    OkE X Γ (.Compare a [op, op'] [b, c] pos) (.ch p p' A B C) := by
  have w : ∀ σ H Q, TEe X.K Γ (.ch p p' A B C) σ H Q → tChain (fun x y => rP X.K (prF p) [x, y]) (fun x y => rP X.K (prF p') [x, y]) (TEe X.K Γ A) (TEe X.K Γ B) (TEe X.K Γ C) σ H Q := fun σ H Q ⟨F, Xs, T, Tm, env, m, env', g, ev, q⟩ => by
    simp only [evalE, bsi] at ev
    obtain ⟨⟨ma, e1⟩, h1, ⟨mb, e2⟩, h2, m3, h3, t, h4, h5⟩ := ev
    refine ⟨F, Xs, T, Tm, env, ma, e1, g, h1, fun x H1 g1 => ⟨F, Xs, x :: T, ma :: Tm, e1, mb, e2, g1, h2, fun y H2 g2 => ?_⟩⟩
    have g2' : Good X.K F Xs H2 σ e2 ([y] ++ x :: T) ([mb] ++ ma :: Tm) := g2
    have g3 := Good.mid rfl g2'
    refine rP.keep (F := F) (Xs := Xs) (σ := σ) (env := e2) (T := T) (Tm := Tm) (g3.pks (xs := [x, y]) (ops := [.tm ma, .tm mb]) (U := [x, y]) (Um := [ma, mb]) (.tm (.tm .nil)) rfl) h3 h4 fun H3 sm => ⟨t, rfl, ?_⟩
    have g4 := g2.same sm
    cases t with
    | false =>
      simp only [Bool.false_eq_true, if_false, Option.some.injEq, Prod.mk.injEq] at h5 ⊢
      obtain ⟨rfl, rfl⟩ := h5
      exact q _ H3 (g4.pop.pop.pushC fun S => .bl _)
    | true =>
      simp only [if_true, bsi, msi] at h5 ⊢
      obtain ⟨⟨mc, e3⟩, h6, m4, h7, u, h8, h9⟩ := h5
      cases h9
      refine ⟨F, Xs, y :: x :: T, mb :: ma :: Tm, e2, mc, e3, g4, h6, fun z H4 g5 => ?_⟩
      have g5' : Good X.K F Xs H4 σ e3 ([z] ++ y :: x :: T) ([mc] ++ mb :: ma :: Tm) := g5
      have g6 := Good.mid rfl g5'
      refine rP.keep (F := F) (Xs := Xs) (σ := σ) (env := e3) (T := T) (Tm := Tm) (g6.pks (xs := [y, z]) (ops := [.tm mb, .tm mc]) (U := [y, z]) (Um := [mb, mc]) (.tm (.tm .nil)) rfl) h7 h8 fun H5 sm2 => q _ H5 ?_
      exact (g5.same sm2).pop.pop.pop.pushC fun S => .bl _
  have v : PE X (.Compare a [op, op'] [b, c] pos) (TEe X.K Γ (.ch p p' A B C)) := PE.weak (pe_chain (cmpP_ok hu hp) (cmpP_ok hu hp') ha.v hb.v hc.v hm) w
  exact ⟨v, PE.weak v (TOe_of fun _ z => nomatch z), PT.weak (pt_chain (cmpP_ok hu hp) (cmpP_ok hu hp') ha.v hb.v hc.v hm) fun σ H Q h => w _ _ _ (TT_of σ H Q h)⟩
end
end D8

namespace D8
open PySem PySem.Spec PyProof.Rows L2
/-- arguments without stars -/
def Plain (env : Env) (es : List Expr) : Prop := starEach es env = es.map fun e => (false, eval e env)
theorem Plain.cons {env : Env} {e : Expr} {es : List Expr} (h : Plain env (e :: es)) (h2 : Plain env es) : starEach (e :: es) env = (false, eval e env) :: starEach es env := by
  unfold Plain at h h2
  rw [h, h2]; rfl
theorem Plain.any {env : Env} {es : List Expr} (h : Plain env es) (pos : Pos) : (backTo pos (starEach es env)).any (·.1) = false := by
  unfold Plain at h
  rw [h]
  unfold backTo
  rw [List.map_map, List.any_map]
  simp
theorem Plain.all {env : Env} {es : List Expr} (h : Plain env es) (pos : Pos) : (backTo pos (starEach es env)).all (fun x => !x.1) = true := by
  unfold Plain at h
  rw [h]
  unfold backTo
  rw [List.map_map, List.all_map]
  simp
section
variable {X : Cx} {U : Sur} {Γ : Gam} {sc : Scope}
structure OkEs (X : Cx) (Γ : Gam) (es : List Expr) (cs : List E) : Prop where
  v : PA X es (TVs X.K Γ (Es.ofL cs))
  o : PA X es (TOs X.K Γ (Es.ofL cs))
  pl : Plain X.env es
  each : Fa2 (OkE X Γ) es cs
theorem okEs_nil : OkEs X Γ [] [] := ⟨pa_V_nil, pa_O_nil, rfl, .nil⟩
theorem okEs_cons {e : Expr} {c : E} {es : List Expr} {cs : List E} (hs : ∀ es, starEach (e :: es) X.env = (false, eval e X.env) :: starEach es X.env) (h : OkE X Γ e c) (r : OkEs X Γ es cs) : OkEs X Γ (e :: es) (c :: cs) :=
  ⟨pa_V_cons h.v r.v (hs es), pa_O_cons h.o r.o (hs es), by show starEach (e :: es) X.env = _; rw [hs es, r.pl]; rfl, .cons h r.each⟩
theorem Fa2.length {α β : Type} {R : α → β → Prop} : ∀ {xs : List α} {ys : List β}, Fa2 R xs ys → xs.length = ys.length
  | _, _, .nil => rfl
  | _, _, .cons _ r => congrArg (· + 1) (Fa2.length r)
theorem evalVs_len {Γ : Gam} : ∀ {es : List E} {env env' : EnvM} {ms : List M}, evalVs Γ (Es.ofL es) env = some (ms, env') → ms.length = es.length
  | [], _, _, _, h => by simp only [Es.ofL, evalVs, Option.some.injEq, Prod.mk.injEq] at h; rw [← h.1]; rfl
  | e :: es, _, _, _, h => by
    simp only [Es.ofL, evalVs, bsi, msi] at h
    obtain ⟨r, _, q, h2, h3⟩ := h
    cases h3
    exact congrArg (· + 1) (evalVs_len (es := es) (ms := q.1) (env' := q.2) (by simpa using h2))
/-! ### displays -/
theorem RMs.fz_any {K : PySem.W.Frag} {S S' : Addr → Prop} {H : Hp} (hs : ∀ a o, H a = some o → S a → S' a) {vs : List V} {ms : List M} {os : List Addr} (r : RMs K S H vs ms os) (hn : ∀ a ∈ os, S' a) : RVs K S' H vs (fzs ms) := r.fz hs hn
/-- temporaries become a frozen tuple -/
theorem Good.mkTup {K : PySem.W.Frag} {F : Hp} {Xs : List Addr} {H : Hp} {σ : L2.St} {env : EnvM} {vs T : List V} {ms Tm : List M} {p : Addr} {od : Obj} (g : Good K F Xs H σ env (vs ++ T) (ms ++ Tm)) (hl : vs.length = ms.length) (hp : H p = none) (ho : od.dict = none) :
    Good K F Xs (upd H p (tupO od vs)) σ env (.ref p :: T) (.im (.tuple (fzs ms)) :: Tm) := by
  obtain ⟨O1, O2, g⟩ := g
  obtain ⟨o, o2, rfl, r, blk⟩ := g.blk hl
  have sm : Same H (upd H p (tupO od vs)) := Same.upd hp
  refine blk (upd H p (tupO od vs)) [.ref p] [.im (.tuple (fzs ms))] [] (fun a x e _ => sm a x e) List.nodup_nil (fun _ h => absurd h List.not_mem_nil) fun S' k fr ow => ?_
  refine .cons (os := []) (os' := []) (.im (.tup (tupO_sq upd_same) (tupO_no upd_same ho) ?_)) .nil
  have r1 : RVs K S' H vs (fzs ms) := r.fz (fun a x e s => k.ok a x e s) fun a ha => ow a ha List.not_mem_nil
  exact r1.kp (.same sm fun _ s => s)
/-- .. an owned list -/
theorem Good.mkLst {K : PySem.W.Frag} {F : Hp} {Xs : List Addr} {H : Hp} {σ : L2.St} {env : EnvM} {vs T : List V} {ms Tm : List M} {p : Addr} (g : Good K F Xs H σ env (vs ++ T) (ms ++ Tm)) (hl : vs.length = ms.length) (hp : H p = none) :
    Good K F Xs (upd H p (.lst vs)) σ env (.ref p :: T) (.ml ms :: Tm) := by
  obtain ⟨O1, O2, g⟩ := g
  obtain ⟨o, o2, rfl, r, blk⟩ := g.blk hl
  have sm : Same H (upd H p (.lst vs)) := Same.upd hp
  have mu := g.mu
  have np : p ∉ o := fun z => by obtain ⟨u, e, _⟩ := mu p (by simp [z]); rw [hp] at e; cases e
  have nd := g.nd
  simp only [List.nodup_append] at nd
  refine blk (upd H p (.lst vs)) [.ref p] [.ml ms] (p :: o) (fun a x e _ => sm a x e) (List.nodup_cons.mpr ⟨np, nd.2.1.1⟩) (fun a ha => ?_) fun S' k fr ow => ?_
  · rcases List.mem_cons.mp ha with z | z
    · exact .inr (z ▸ hp)
    · exact .inl z
  · have r1 : RMs K S' (upd H p (.lst vs)) vs ms o := r.kp k fun a ha => upd_ne (fun z => np (z ▸ ha))
    have := RMs.cons (K := K) (RM.ml upd_same r1) (RMs.nil (S := S') (H := upd H p (.lst vs)) (K := K))
    rw [List.append_nil] at this
    exact this
theorem okTup {es : List Expr} {cs : List E} {k : Nat} {pos : Pos} (h : OkEs X Γ es cs) : OkE X Γ (.Tuple es k pos) (.tup (Es.ofL cs)) := by
  refine .noT (fun _ z => nomatch z) (fun _ => rfl) (PE.weak (pe_tupF h.v) fun σ H Q ⟨F, Xs, T, Tm, env, m, env', g, ev, q⟩ => ?_)
  simp only [evalE, bsi] at ev
  obtain ⟨⟨ms, e1⟩, h1, h2⟩ := ev
  split at h2
  · next hz =>
    cases h2
    exact ⟨F, Xs, T, Tm, env, ms, _, g, h1, fun vs H1 hl g1 => ⟨by rw [hl]; exact hz, fun p o hp ho => q _ _ (g1.mkTup hl hp ho)⟩⟩
  · cases h2
theorem okLst {es : List Expr} {cs : List E} {pos : Pos} (h : OkEs X Γ es cs) : OkE X Γ (.List es pos) (.lst (Es.ofL cs)) := by
  refine .noT (fun _ z => nomatch z) (fun _ => rfl) (PE.weak (pe_lst h.v) fun σ H Q ⟨F, Xs, T, Tm, env, m, env', g, ev, q⟩ => ?_)
  simp only [evalE, bsi] at ev
  obtain ⟨⟨ms, e1⟩, h1, h2⟩ := ev
  split at h2
  · next hz =>
    cases h2
    exact ⟨F, Xs, T, Tm, env, ms, _, g, h1, fun vs H1 hl g1 => ⟨by rw [hl]; exact hz, fun p hp => q _ _ (g1.mkLst hl hp)⟩⟩
  · cases h2
/-- a list's parts are frozen -/
theorem Good.frzTop {K : PySem.W.Frag} {F : Hp} {Xs : List Addr} {H : Hp} {σ : L2.St} {env : EnvM} {v : V} {T : List V} {ms Tm : List M} (g : Good K F Xs H σ env (v :: T) (.ml ms :: Tm)) :
    Good K F Xs H σ env (v :: T) (mList (fzs ms) :: Tm) := by
  obtain ⟨O1, O2, g⟩ := g
  have g' : Gd K F Xs H σ env ([v] ++ T) ([.ml ms] ++ Tm) O1 O2 := g
  obtain ⟨o, o2, rfl, r, blk⟩ := g'.blk rfl
  have nd := g.nd
  simp only [List.nodup_append] at nd
  cases r with
  | cons h1 h2 =>
    cases h2
    cases h1 with
    | ml e r =>
      rename_i a vs os
      have nda : (a :: os).Nodup := by simpa using nd.2.1.1
      refine blk H [.ref a] [mList (fzs ms)] [a] (fun _ _ e _ => e) (by simp) (fun b hb => .inl (by simp at hb; simp [hb])) fun S' k fr ow => ?_
      refine .cons (os := [a]) (os' := []) (.ml (os := []) e (.of_ims (r.fz (fun b x e s => k.ok b x e s) fun b hb => ow b (by simp [hb]) fun z => ?_))) .nil
      simp at z; subst z
      exact (List.nodup_cons.mp nda).1 hb
theorem okFrz {e : Expr} {es : Es} (h : OkE X Γ e (.lst es)) : OkE X Γ e (.lsf es) := by
  refine .noT (fun _ z => nomatch z) (fun _ => rfl) (PE.weak h.v fun σ H Q ⟨F, Xs, T, Tm, env, m, env', g, ev, q⟩ => ?_)
  simp only [evalE, bsi] at ev
  obtain ⟨⟨ms, e1⟩, h1, h2⟩ := ev
  split at h2
  · next hz =>
    cases h2
    exact ⟨F, Xs, T, Tm, env, .ml ms, e1, g, by simp only [evalE, bsi]; exact ⟨(ms, e1), h1, if_pos hz⟩, fun v H' g1 => q v H' g1.frzTop⟩
  · cases h2
theorem okUn {e : Expr} {c : E} (h : OkE X Γ e c) : OkE X Γ e c.unown := by
  cases c <;> first | exact h | exact okFrz h
theorem okMkLst {es : List Expr} {cs : List E} {pos : Pos} {b : Bool} (h : OkEs X Γ es cs) : OkE X Γ (.List es pos) (mkLst b cs) := by
  unfold mkLst
  split
  · exact okLst h
  · exact okFrz (okLst h)
/-- a new dict -/
def flatP (ps : List (V × V)) : List V := ps.flatMap fun p => [p.1, p.2]
def trsE (K : PySem.W.Frag) (Γ : Gam) : List E → List E → List (TE × TE)
  | k :: ks, v :: vs => (TEe K Γ k, TEe K Γ v) :: trsE K Γ ks vs
  | _, _ => []
theorem pps_of {pos : Pos} : ∀ {ks : List (Option Expr)} {vs : List Expr} {cks cvs : List E}, Fa2 (fun k c => ∃ e, k = some e ∧ OkE X Γ e c) ks cks → Fa2 (OkE X Γ) vs cvs → ks.length = vs.length → PPs X pos ks vs (trsE X.K Γ cks cvs)
  | _, _, _, _, .nil, .nil, _ => pps_nil
  | _, _, _, _, .cons ⟨e, rfl, h⟩ r, .cons h2 r2, hl => pps_cons h.v h2.v (pps_of r r2 (by simpa using hl))
theorem tPairs_of {K : PySem.W.Frag} {F : Hp} {Xs : List Addr} {σ : L2.St} : ∀ {cks cvs : List E} {H : Hp} {T : List V} {Tm ms : List M} {env env' : EnvM} {Q : List (V × V) → Hp → Prop}, cks.length = cvs.length → Good K F Xs H σ env T Tm → evalVs Γ (Es.ofL (mixL cks cvs)) env = some (ms, env') →
    (∀ ps H', (flatP ps).length = ms.length → Good K F Xs H' σ env' (flatP ps ++ T) (ms ++ Tm) → Q ps H') → tPairs (trsE K Γ cks cvs) σ H Q
  | [], [], H, T, Tm, ms, env, env', Q, _, g, ev, q => by
    simp only [mixL, Es.ofL, evalVs, Option.some.injEq, Prod.mk.injEq] at ev
    obtain ⟨rfl, rfl⟩ := ev
    exact q [] H rfl g
  | k :: ks, v :: vs, H, T, Tm, ms, env, env', Q, hl, g, ev, q => by
    simp only [mixL, Es.ofL, evalVs, bsi, msi] at ev
    obtain ⟨⟨m1, e1⟩, h1, ⟨n1, e3⟩, ⟨⟨m2, e2⟩, h2, ⟨n2, e4⟩, h3, h4⟩, h5⟩ := ev
    cases h4
    cases h5
    refine ⟨F, Xs, T, Tm, env, m1, e1, g, h1, fun x H1 g1 => ⟨F, Xs, x :: T, m1 :: Tm, e1, m2, e2, g1, h2, fun y H2 g2 => ?_⟩⟩
    refine tPairs_of (by simpa using hl) g2 h3 fun ps H3 hn g3 => q ((x, y) :: ps) H3 (by simp only [flatP, List.flatMap_cons, List.cons_append, List.nil_append, List.length_cons] at hn ⊢; rw [hn]) ?_
    have g4 := Good.mid hn g3
    have g4 : Good K F Xs H3 σ e4 ((y :: flatP ps) ++ x :: T) ((m2 :: n2) ++ m1 :: Tm) := g4
    exact Good.mid (U := y :: flatP ps) (Um := m2 :: n2) (by rw [List.length_cons, List.length_cons, hn]) g4
theorem kvs_rel {K : PySem.W.Frag} {S : Addr → Prop} {H : Hp} : ∀ {ps : List (V × V)} {ms : List M} {kms : List (Key × M)} {os : List Addr}, kvsOf ms = some kms → RMs K S H (flatP ps) ms os → ∃ kvs : List (Key × V), ps = kvs.map (fun kv => (kV kv.1, kv.2)) ∧ RMk K S H kvs kms os
  | [], ms, kms, os, e, r => by
    cases r
    cases e
    exact ⟨[], rfl, .nil⟩
  | (x, y) :: ps, ms, kms, os, e, r => by
    have r : RMs K S H (x :: y :: flatP ps) ms os := r
    match ms, r, e with
    | m1 :: ms', r, e =>
      obtain ⟨v1, v2, o1, o2, e3, rfl, r1, r2⟩ := RMs.split (ms := [m1]) r
      obtain ⟨rfl, rfl⟩ : v1 = [x] ∧ v2 = y :: flatP ps := by
        have := r1.length
        match v1, this, e3 with
        | [_], _, e3 => simp at e3; exact ⟨by rw [e3.1], e3.2.symm⟩
      match ms', r2, e with
      | m2 :: ms', r2, e =>
        match m1, r1, e with
        | .im d, r1, e =>
          have e : (keyOf d).bind (fun k => (kvsOf ms').map ((k, m2) :: ·)) = some kms := e
          rw [bsi] at e
          obtain ⟨k, e1, e⟩ := e
          rw [msi] at e
          obtain ⟨kr, e2, rfl⟩ := e
          obtain ⟨v1, v2, o3, o4, e3, rfl, r3, r4⟩ := RMs.split (ms := [m2]) r2
          obtain ⟨rfl, rfl⟩ : v1 = [y] ∧ v2 = flatP ps := by
            have := r3.length
            match v1, this, e3 with
            | [_], _, e3 => simp at e3; exact ⟨by rw [e3.1], e3.2.symm⟩
          obtain ⟨kvs, rfl, rk⟩ := kvs_rel e2 r4
          have hx : RV K S H x d ∧ o1 = [] := by
            cases r1 with
            | cons h1 h2 => cases h2; cases h1 with | im hv => exact ⟨hv, rfl⟩
          obtain ⟨hx, rfl⟩ := hx
          obtain rfl := key_of hx e1
          have hy : RM K S H y m2 o3 := by
            cases r3 with
            | cons h1 h2 => cases h2; rw [List.append_nil]; exact h1
          exact ⟨(k, y) :: kvs, rfl, (show RMk K S H ((k, y) :: kvs) ((k, m2) :: kr) (o3 ++ o4) from .cons hy rk)⟩
theorem RMk.keys {K : PySem.W.Frag} {S : Addr → Prop} {H : Hp} : ∀ {kvs : List (Key × V)} {kms : List (Key × M)} {os : List Addr}, RMk K S H kvs kms os → kvs.map (·.1) = kms.map (·.1)
  | _, _, _, .nil => rfl
  | _, _, _, .cons _ r => by simp [RMk.keys r]
theorem mergeK_nd : ∀ {kvs acc : List (Key × V)}, ((acc ++ kvs).map (·.1)).Nodup → mergeK acc kvs = acc ++ kvs
  | [], acc, _ => by simp [mergeK]
  | p :: r, acc, h => by
    have hn : (acc.any fun kv => decide (kv.1 = p.1)) = false := by
      rw [List.any_eq_false]
      intro kv hkv
      simp only [decide_eq_true_eq]
      intro e
      rw [List.map_append, List.nodup_append] at h
      exact h.2.2 kv.1 (List.mem_map_of_mem hkv) p.1 (by simp) e
    have e : putK acc p.1 p.2 = acc ++ [p] := by
      unfold putK
      rw [hn]
      rfl
    show mergeK (putK acc p.1 p.2) r = _
    rw [e, mergeK_nd (by simpa using h)]
    simp
theorem okDct {ks : List (Option Expr)} {vs : List Expr} {cks cvs : List E} {pos : Pos} (hk : Fa2 (fun k c => ∃ e, k = some e ∧ OkE X Γ e c) ks cks) (hv : Fa2 (OkE X Γ) vs cvs) (hl : ks.length = vs.length) (h15 : ks.length ≤ 15) : OkE X Γ (.Dict ks vs pos) (.dct (Es.ofL (mixL cks cvs))) := by
  have l1 := Fa2.length hk
  have l2 := Fa2.length hv
  have fresh : ∀ {F : Hp} {Xs : List Addr} {T : List V} {Tm : List M} {env : EnvM} {σ : L2.St} {H : Hp} {p : Addr}, Good X.K F Xs H σ env T Tm → H p = none → Good X.K F Xs (upd H p (.dK [])) σ env (.ref p :: T) (.md [] :: Tm) := fun g hp => by
    obtain ⟨O1, O2, g⟩ := g
    exact (g.pushO (os := [_]) (Same.upd hp) (fun S h1 h2 => .md (os := []) upd_same .nil) (by simp) (fun a ha => by simp at ha; subst ha; exact hp)).good
  cases ks with
  | nil =>
    have : vs = [] := by cases vs with | nil => rfl | cons _ _ => simp at hl
    subst this
    cases hk
    cases hv
    refine .noT (fun _ z => nomatch z) (fun _ => rfl) (PE.weak pe_dnewK fun σ H Q ⟨F, Xs, T, Tm, env, m, env', g, ev, q⟩ => ?_)
    have ev : some (M.md [], env) = some (m, env') := ev
    cases ev
    exact fun p hp => q (.ref p) _ (fresh g hp)
  | cons k0 ks =>
    have hall : (k0 :: ks).all (·.isSome) = true := by
      have : ∀ {ks : List (Option Expr)} {cks : List E}, Fa2 (fun k c => ∃ e, k = some e ∧ OkE X Γ e c) ks cks → ks.all (·.isSome) = true := fun h => by
        induction h with
        | nil => rfl
        | cons h _ ih => obtain ⟨e, rfl, _⟩ := h; simp [ih]
      exact this hk
    refine .noT (fun _ z => nomatch z) (fun _ => rfl) (PE.weak (pe_disp (pps_of hk hv hl) hall hl (by simp) h15) fun σ H Q ⟨F, Xs, T, Tm, env, m, env', g, ev, q⟩ p hp => ?_)
    simp only [evalE, bsi] at ev
    obtain ⟨⟨ms, env2⟩, h1, kms, h2, ev⟩ := ev
    split at ev
    case isFalse => cases ev
    next hh =>
    cases ev
    refine tPairs_of (by omega) (fresh g hp) h1 fun ps H2 hn g2 => ?_
    obtain ⟨O1, O2, g2⟩ := g2
    have g2 : Gd X.K F Xs H2 σ env2 ((flatP ps ++ [.ref p]) ++ T) ((ms ++ [.md []]) ++ Tm) O1 O2 := by simpa using g2
    obtain ⟨o, o2, rfl, rb, blk⟩ := g2.blk (by simp [hn])
    have nd := g2.nd
    obtain ⟨v1, v2, o1, o3, e3, rfl, r1, r2⟩ := rb.split
    obtain ⟨rfl, rfl⟩ := List.append_inj e3 (hn.trans r1.length.symm)
    cases r2 with
    | @cons _ _ _ _ op _ hpm r3 =>
      cases r3
      cases hpm with
      | @md _ _ _ os hD rk =>
        cases rk
        obtain ⟨kvs, rfl, rkv⟩ := kvs_rel h2 r1
        have nd1 : (o1 ++ [p]).Nodup := by
          simp only [List.nodup_append] at nd
          simpa [List.nodup_append] using nd.2.1.1
        have np : p ∉ o1 := fun z => by
          rw [List.nodup_append] at nd1
          exact nd1.2.2 p z p (by simp) rfl
        have hln := RMk.length rkv
        refine ⟨hD, kvs, rfl, by omega, ?_⟩
        rw [mergeK_nd (by rw [List.nil_append, rkv.keys]; exact hh.2), List.nil_append]
        refine q (.ref p) _ ?_
        refine blk (upd H2 p (.dK kvs)) [.ref p] [.md kms] (p :: o1) (fun b u eb nb => ?_) (List.nodup_cons.mpr ⟨np, by rw [List.nodup_append] at nd1; exact nd1.1⟩) (fun b hb => .inl ?_) fun S' k fr ow => ?_
        · rw [upd_ne]; · exact eb
          rintro rfl; exact nb (by simp)
        · rcases List.mem_cons.mp hb with rfl | hb
          · simp
          · simp [hb]
        · have r4 := rkv.kp k fun b hb => upd_ne (fun z => np (z ▸ hb))
          have := RMs.cons (K := X.K) (RM.md (S := S') upd_same r4) (RMs.nil (S := S') (H := upd H2 p (.dK kvs)) (K := X.K))
          rw [List.append_nil] at this
          exact this
/-! ### calls of what is built in -/
theorem okBlt {x : Str} {p pos : Pos} {e : Expr} {es : List Expr} {cs : List E} {pr : Pr} (o : Ok X U Γ sc) (hg : isGlo sc x = true) (hU : U.G.findIdx? (fun p => p.1 == x) = none) (hp : bltP x cs.length = some pr) (h : OkEs X Γ (e :: es) cs) (h2 : Plain X.env es) : OkE X Γ (.Call (.Name x p) (e :: es) [] pos) (mkPr pr cs) := by
  obtain ⟨hb, hc⟩ := bltP_ok o hp
  obtain ⟨hgl, hd⟩ := glo_is hg
  obtain ⟨d1, _, d3⟩ := dbg_no hd
  have gl : Gl X x := by show X.env.scope.names.lookup x = _; rw [o.scp]; exact hgl
  have hm := o.blt x hb hU
  have w : ∀ σ H Q, TEe X.K Γ (.pr pr (Es.ofL cs)) σ H Q → tCB (rP X.K (prF pr)) (TOs X.K Γ (Es.ofL cs)) σ H Q := fun σ H Q h => TE_pr σ H Q h
  refine .plain mkPr_ne (fun _ => rfl) (mk_pr ?_)
  rcases hc with ⟨id, hv, hc⟩ | ⟨T, hv, hc⟩
  · exact PE.weak (pe_callB hc gl hm hv h.o d3 d1 (h.pl.cons h2) (h2.any pos)) w
  · exact PE.weak (pe_callTy hc gl hm hv h.o d3 d1 (h.pl.cons h2) (h2.any pos)) w
/-! ### subscripts -/
theorem okIdx {a b : Expr} {A B : E} {pos : Pos} (hu : X.A.units + 150 < cLine) (hs : PlainIx b) (ha : OkE X Γ a A) (hb : OkE X Γ b B) : OkE X Γ (.Subscript a b pos) (.pr .idx (.cons A (.cons B .nil))) :=
  .plain (fun _ z => nomatch z) (fun _ => rfl) (PE.weak (pe_ix (pr_idx (by omega)) ha.o hb.o hs) fun σ H Q h => TO_two σ H Q (TE_pr σ H Q h))
end
end D8

namespace D8
open PySem PySem.Spec PyProof.Rows L2
section
variable {X : Cx} {U : Sur} {Γ : Gam} {sc : Scope}
theorem keep_lenV : ∀ {vs : List V} {bs : List (Option M)}, vs.length = bs.length → (keepV vs bs).length = (keepM bs).length := keep_len
/-- a def's call, by values -/
theorem fn_call {pins : List (Addr × Obj)} {σ : L2.St} {H1 : Hp} {s1 : Shared} {Q : VK} {k : Nat} {f : Addr} {fd : FuncData} {ps : List Str} {fn : List M → Option (M × List (Option M))} {us : List Value} {kw : List (Str × Value)} {zs : List Value} {vs : List V}
    (hF : FnG X.prog X.w X.K X.mg X.base k f fd ps (spG X.K ps.length fn)) (hr : Room k X.A) (hgd : X.A.guards = some []) (hb : BindsTo s1 fd ⟨us, kw⟩ (ps.zip zs)) (I : Inv X pins σ H1 s1) (r : Vals vs zs) (hsp : spG X.K ps.length fn vs H1 Q) :
    wpAny (model X.prog X.w) X.A (call (.ref f) us kw) (EP X pins σ Q) X.xe s1 :=
  wp_of_code (α := Unit) (run_g hF hr hgd hb I r hsp)
theorem sp_len {K : PySem.W.Frag} {n : Nat} {fn : List M → Option (M × List (Option M))} {vs : List V} {H : Hp} {Q : VK} (h : spG K n fn vs H Q) : vs.length = n := h.1
theorem Good.callG {F : Hp} {Xs : List Addr} {H : Hp} {σ : L2.St} {env1 env2 : EnvM} {U T xs : List V} {Um Tm ams : List M} {ops : List Op} {n : Nat} {fn : List M → Option (M × List (Option M))} {r : M} {bs : List (Option M)} {Q : VK} {K : PySem.W.Frag}
    (g : Good K F Xs H σ env1 (U ++ T) (Um ++ Tm)) (ho : D8.OpR σ xs ops U Um) (ht : D8.take env1 ops = some (ams, env2)) (ef : fn ams = some (r, bs)) (hb : bs.length = ams.length)
    (q : ∀ v H', Good K F Xs H' σ (D8.give env2 ops ams bs) (v :: T) (r :: Tm) → Q v H') : spG K xs.length fn xs H Q := by
  obtain ⟨hl, g2⟩ := Good.take ho g ht
  refine g2.call hl ef hb fun v H' g3 => q v H' ?_
  have g4 := Good.dim (keep_len (hl.trans hb.symm)) g3
  exact Good.give ho ht hl hb g4
theorem okCall {x : Str} {p pos : Pos} {es : List Expr} {cs : List E} {gi : Nat} {ps : List Str} (o : Ok X U Γ sc) (hg : isGlo sc x = true) (hU : U.G[gi]? = some (x, ps)) (h : OkEs X Γ es cs) (h2 : ∀ e r, es = e :: r → Plain X.env r) : OkE X Γ (.Call (.Name x p) es [] pos) (.call gi (Es.ofL cs)) := by
  obtain ⟨hgl, hd⟩ := glo_is hg
  obtain ⟨d1, _, d3⟩ := dbg_no hd
  have gl : Gl X x := by show X.env.scope.names.lookup x = _; rw [o.scp]; exact hgl
  obtain ⟨k, f, fd, hF, hr, hm, hk, hb, hlen, _⟩ := o.fns gi x ps hU
  refine .plain (fun _ z => nomatch z) (fun _ => rfl) ⟨fun pins s σ H Q I ⟨F, Xs, T, Tm, env, m, env', g, ev, q⟩ => ?_⟩
  simp only [evalE, bsi] at ev
  obtain ⟨⟨ops, env1⟩, h1, ⟨ams, env2⟩, h3, ⟨r, bs⟩, h4, h5⟩ := ev
  split at h5
  · next hbl =>
    cases h5
    have ln := hlen _ _ h4
    refine wpAny_Call_Name_kw (ld_glob I gl hm ?_ d1)
    have run := h.o.run pos pins s σ H (fun xs H1 => ∃ U Um, D8.OpR σ xs ops U Um ∧ Good X.K F Xs H1 σ env1 (U ++ T) (Um ++ Tm)) I ⟨F, Xs, T, Tm, env, ops, env1, g, h1, fun xs H' U Um r g' => ⟨U, Um, r, g'⟩⟩
    have fin : ∀ (us : List Value) (s1 : Shared) (vs : List V) (H1 : Hp), Inv X pins σ H1 s1 → Vals vs us → (∃ U Um, D8.OpR σ vs ops U Um ∧ Good X.K F Xs H1 σ env1 (U ++ T) (Um ++ Tm)) → wpAny (model X.prog X.w) X.A (call (.ref f) us) (EP X pins σ Q) X.xe s1 := fun us s1 vs H1 I1 rv ⟨U1, Um1, opr, g1⟩ => by
      have hvl := (Good.take opr g1 h3).1
      have hsp := Good.callG (n := 0) g1 opr h3 h4 hbl q
      rw [hvl, ln] at hsp
      exact fn_call hF hr o.gd (hb s1 us (by rw [← rv.length, hvl, ln])) I1 rv hsp
    cases es with
    | nil =>
      have hcs : cs = [] := by cases h.each; rfl
      subst hcs
      simp only [Es.ofL, evalOs, Option.some.injEq, Prod.mk.injEq] at h1
      obtain ⟨rfl, rfl⟩ := h1
      exact PySem.W.callWith_K0 I.kIn hk (fin [] s [] H I .nil ⟨[], [], .nil, g⟩)
    | cons e r =>
      exact PySem.W.callWith_K (h₀ := X.base) I.ok.mod.kin hk (thn run fun us s1 ⟨vs, H1, I1, rv, hq⟩ => ⟨I1.kIn, fin us s1 vs H1 I1 rv hq⟩) (h.pl.cons (h2 e r rfl)) ((h2 e r rfl).any pos)
  · cases h5
/-! ### keywords -/
theorem evalVs_app {Γ : Gam} : ∀ {es ks : List E} {env : EnvM}, evalVs Γ (Es.ofL (es ++ ks)) env = (evalVs Γ (Es.ofL es) env).bind fun r => (evalVs Γ (Es.ofL ks) r.2).map fun q => (r.1 ++ q.1, q.2)
  | [], ks, env => by
    simp only [List.nil_append, Es.ofL, evalVs, Option.bind_some]
    cases evalVs Γ (Es.ofL ks) env <;> rfl
  | e :: es, ks, env => by
    simp only [List.cons_append, Es.ofL, evalVs]
    cases evalE Γ e env with
    | none => rfl
    | some r =>
      simp only [Option.bind_some, evalVs_app (es := es)]
      cases evalVs Γ (Es.ofL es) r.2 with
      | none => rfl
      | some q =>
        simp only [Option.bind_some, Option.map_some, List.cons_append]
        cases evalVs Γ (Es.ofL ks) q.2 <;> rfl
structure OkKs (X : Cx) (Γ : Gam) (kws : List Keyword) (ks : List (Str × E)) : Prop where
  v : PK X kws (TVs X.K Γ (Es.ofL (ks.map (·.2))))
  all : ∀ pos, (backToKw pos (keywordEach kws X.env)).all (·.1.isSome) = true
  nm : ∀ pos, (backToKw pos (keywordEach kws X.env)).filterMap (·.1) = ks.map (·.1)
theorem pk_weak {kws : List Keyword} {t t' : TA} (h : PK X kws t) (w : ∀ σ H Q, t' σ H Q → t σ H Q) : PK X kws t' := ⟨fun pos pins s σ H Q I q => h.run pos pins s σ H Q I (w σ H Q q)⟩
theorem okKs_nil : OkKs X Γ [] [] := ⟨pk_weak pk_nil fun σ H Q ⟨F, Xs, T, Tm, env, ms, env', g, ev, q⟩ => by
  simp only [Es.ofL, List.map_nil, evalVs, Option.some.injEq, Prod.mk.injEq] at ev
  obtain ⟨rfl, rfl⟩ := ev
  exact q [] H rfl g, fun _ => rfl, fun _ => rfl⟩
theorem okKs_cons {n : Str} {e : Expr} {c : E} {p : Pos} {kws : List Keyword} {ks : List (Str × E)} (h : OkE X Γ e c) (r : OkKs X Γ kws ks) : OkKs X Γ (⟨some n, e, p⟩ :: kws) ((n, c) :: ks) := by
  refine ⟨pk_weak (pk_cons h.v r.v) fun σ H Q ⟨F, Xs, T, Tm, env, ms, env', g, ev, q⟩ => ?_, fun pos => ?_, fun pos => ?_⟩
  · simp only [List.map_cons, Es.ofL, evalVs, bsi, msi] at ev
    obtain ⟨⟨m, env1⟩, h1, ⟨ns, env2⟩, h2, h3⟩ := ev
    cases h3
    refine ⟨F, Xs, T, Tm, env, m, env1, g, h1, fun v H1 g1 => ⟨F, Xs, v :: T, m :: Tm, env1, ns, env2, g1, h2, fun vs H2 hl g2 => ?_⟩⟩
    exact q (v :: vs) H2 (by simp [hl]) (g2.mid hl)
  · have := r.all pos
    simpa [keywordEach, backToKw] using this
  · have := r.nm pos
    simp only [keywordEach, backToKw, List.map_cons, List.filterMap_cons] at this ⊢
    rw [this]
theorem perm_ex {α β : Type} {R : α → β → Prop} : ∀ {ix : List Nat} {xs : List α} {ys zs : List β}, (∀ (i : Nat) (y : β), ys[i]? = some y → ∃ x, xs[i]? = some x ∧ R x y) → perm ix ys = some zs → ∃ ws, perm ix xs = some ws ∧ Fa2 R ws zs
  | [], xs, ys, zs, h, e => by simp only [perm, Option.some.injEq] at e; subst e; exact ⟨[], rfl, .nil⟩
  | i :: ix, xs, ys, zs, h, e => by
    simp only [perm, bsi, msi] at e
    obtain ⟨y, h1, zs', h2, rfl⟩ := e
    obtain ⟨x, h3, h4⟩ := h i y h1
    obtain ⟨ws, h5, h6⟩ := perm_ex h h2
    exact ⟨x :: ws, by simp [perm, h3, h5], .cons h4 h6⟩
theorem RVs.of_fa {K : PySem.W.Frag} {S : Addr → Prop} {H : Hp} : ∀ {vs : List V} {ds : List PyData}, Fa2 (RV K S H) vs ds → RVs K S H vs ds
  | _, _, .nil => .nil
  | _, _, .cons h r => .cons h (RVs.of_fa r)
theorem vals_get : ∀ {vs : List V} {us : List Value}, Vals vs us → ∀ (i : Nat) (v : V), vs[i]? = some v → ∃ u, us[i]? = some u ∧ RelV v u
  | _, _, .nil, i, v, h => by simp at h
  | _, _, .cons r t, 0, v, h => by simp at h; subst h; exact ⟨_, rfl, r⟩
  | _, _, .cons r t, i + 1, v, h => by simpa using vals_get t i v (by simpa using h)
theorem Vals.of_fa : ∀ {vs : List V} {us : List Value}, Fa2 (fun u v => RelV v u) us vs → Vals vs us
  | _, _, .nil => .nil
  | _, _, .cons h r => .cons h (Vals.of_fa r)
theorem Vals.app {vs ws : List V} {us xs : List Value} (h : Vals vs us) (r : Vals ws xs) : Vals (vs ++ ws) (us ++ xs) := h.append r
theorem Good.dups {K : PySem.W.Frag} {F : Hp} {Xs : List Addr} {H : Hp} {σ : L2.St} {env : EnvM} {vs T : List V} {ds : List PyData} {Tm : List M} {ix : List Nat} {ds' : List PyData} (g : Good K F Xs H σ env (vs ++ T) (ds.map .im ++ Tm)) (hl : vs.length = ds.length) (hp : perm ix ds = some ds') :
    ∃ ws, perm ix vs = some ws ∧ ws.length = ds'.length ∧ Good K F Xs H σ env (ws ++ (vs ++ T)) (ds'.map .im ++ (ds.map .im ++ Tm)) := by
  obtain ⟨O1, O2, g⟩ := g
  obtain ⟨v1, v2, o1, o2, e1, rfl, r1, r2⟩ := g.rt.split
  obtain ⟨rfl, rfl⟩ := List.append_inj e1 ((by simpa using hl : vs.length = (ds.map M.im).length).trans r1.length.symm)
  obtain ⟨rv, rfl⟩ := r1.ims (ims_map ds)
  obtain ⟨ws, h1, h2⟩ := perm_ex (xs := vs) (fun i y e => rv.get e) hp
  have rw' := RVs.of_fa h2
  refine ⟨ws, h1, h2.length, O1, [] ++ ([] ++ o2), g.nd, g.re, (RMs.of_ims rw').append g.rt, g.frame, g.dis, g.xs⟩
theorem okCallK {x : Str} {p pos : Pos} {es : List Expr} {cs : List E} {kws : List Keyword} {ks : List (Str × E)} {gi : Nat} {ps : List Str} {ix : List Nat} (o : Ok X U Γ sc) (hg : isGlo sc x = true) (hU : U.G[gi]? = some (x, ps)) (h : OkEs X Γ es cs) (hk2 : OkKs X Γ kws ks)
    (hP : (gi, cs.length, ks.map (·.1)) ∈ U.P) (hix : kwIx ps cs.length (ks.map (·.1)) = some ix) (h2 : ∀ e r, es = e :: r → Plain X.env r) : OkE X Γ (.Call (.Name x p) es kws pos) (.callK gi ix (Es.ofL (cs ++ ks.map (·.2)))) := by
  obtain ⟨hgl, hd⟩ := glo_is hg
  obtain ⟨d1, _, d3⟩ := dbg_no hd
  have gl : Gl X x := by show X.env.scope.names.lookup x = _; rw [o.scp]; exact hgl
  obtain ⟨k, f, fd, hF, hr, hm, hk, _, hlen, hb⟩ := o.fns gi x ps hU
  refine .plain (fun _ z => nomatch z) (fun _ => rfl) ⟨fun pins s σ H Q I ⟨F, Xs, T, Tm, env, m, env', g, ev, q⟩ => ?_⟩
  simp only [evalE, bsi] at ev
  obtain ⟨⟨ms, env2⟩, h1, ds, h3, ds', h4, ⟨r, bs⟩, h5, h6⟩ := ev
  split at h6
  · next hbl =>
    cases h6
    rw [evalVs_app] at h1
    simp only [bsi, msi] at h1
    obtain ⟨⟨m1, e1⟩, k1, ⟨m2, e2⟩, k2, k3⟩ := h1
    cases k3
    have hms := ims_eq h3
    have ln := hlen _ _ h5
    rw [List.length_map] at ln
    have l1 := evalVs_len k1
    have l2 := evalVs_len k2
    refine wpAny_Call_Name_kw (ld_glob I gl hm ?_ d1)
    have run1 := h.v.run pos pins s σ H (fun xs H1 => xs.length = m1.length ∧ Good X.K F Xs H1 σ e1 (xs ++ T) (m1 ++ Tm)) I ⟨F, Xs, T, Tm, env, m1, e1, g, k1, fun xs H' hl g' => ⟨hl, g'⟩⟩
    have fin : ∀ (us ws : List Value) (s1 : Shared) (vs zs : List V) (H1 : Hp), Inv X pins σ H1 s1 → Vals vs us → Vals zs ws → vs.length = m1.length → zs.length = m2.length → Good X.K F Xs H1 σ e2 (zs ++ (vs ++ T)) (m2 ++ (m1 ++ Tm)) → wpAny (model X.prog X.w) X.A (call (.ref f) us ((ks.map (·.1)).zip ws)) (EP X pins σ Q) X.xe s1 := fun us ws s1 vs zs H1 I1 rv rz lv lz g1 => by
      have gg : Good X.K F Xs H1 σ e2 ((vs ++ zs) ++ T) (ds.map .im ++ Tm) := by
        have : ∀ {A B : List V} {Am Bm : List M} {T : List V} {Tm : List M}, A.length = Am.length → B.length = Bm.length → Good X.K F Xs H1 σ e2 (B ++ (A ++ T)) (Bm ++ (Am ++ Tm)) → Good X.K F Xs H1 σ e2 ((A ++ B) ++ T) ((Am ++ Bm) ++ Tm) := by
          intro A B Am Bm T Tm hA hB g
          obtain ⟨O1, O2, g⟩ := g
          obtain ⟨v1, v2, o1, o2, e1, rfl, r1, r2⟩ := g.rt.split
          obtain ⟨rfl, rfl⟩ := List.append_inj e1 (hB.trans r1.length.symm)
          obtain ⟨w1, w2, p1, p2, f1, rfl, s1, s2⟩ := r2.split
          obtain ⟨rfl, rfl⟩ := List.append_inj f1 (hA.trans s1.length.symm)
          refine ⟨_, _, g.permT (O2' := (p1 ++ o1) ++ p2) ?_ ((s1.append r1).append s2)⟩
          rw [← List.append_assoc]
          exact List.Perm.append_right _ List.perm_append_comm
        rw [← hms]
        exact this lv lz g1
      have hvz : (vs ++ zs).length = ds.length := by
        have := congrArg List.length hms
        simp only [List.length_append, List.length_map] at this ⊢
        omega
      obtain ⟨as, ha, hal, g2⟩ := gg.dups hvz h4
      obtain ⟨xs, hx, hxr⟩ := perm_ex (R := fun u v => RelV v u) (xs := us ++ ws) (ys := vs ++ zs) (fun i v e => vals_get (rv.append rz) i v e) ha
      have hsp : spG X.K as.length (Γ gi) as H1 Q := g2.call (by simpa using hal) h5 (by simpa using hbl) fun v H' g3 => q v H' ?_
      · rw [hal, ln] at hsp
        exact fn_call hF hr o.gd (hb cs.length (ks.map (·.1)) ix hP hix s1 us ws xs (by rw [← rv.length, lv, l1]) (by rw [← rz.length, lz, l2]; simp) hx) I1 (Vals.of_fa hxr) hsp
      · have hkl : (keepV as bs).length = (keepM bs).length := keep_len (by rw [hal, hbl])
        have hdl : (vs ++ zs).length = (ds.map M.im).length := by simpa using hvz
        have g4 := Good.dim hkl g3
        have g5 := g4.popN hkl
        exact (Good.dim hdl g5).popN hdl
    have hany : ∀ l : List Expr, (backTo pos (starEach l X.env)).any (·.1) = false → ((backTo pos (starEach l X.env)).any (·.1) || (backToKw pos (keywordEach kws X.env)).any (·.1.isNone)) = false := fun l a1 => by
      have a2 := hk2.all pos
      rw [a1, Bool.false_or, List.any_eq_false]
      intro z hz
      have := List.all_eq_true.mp a2 z hz
      cases hz1 : z.1 with
      | none => rw [hz1] at this; cases this
      | some n => simp
    cases es with
    | nil =>
      have hcs : cs = [] := by cases h.each; rfl
      subst hcs
      simp only [Es.ofL, evalVs, Option.some.injEq, Prod.mk.injEq] at k1
      obtain ⟨rfl, rfl⟩ := k1
      have run2 := hk2.v.run pos pins s σ H (fun xs H1 => xs.length = m2.length ∧ Good X.K F Xs H1 σ e2 (xs ++ T) (m2 ++ Tm)) I ⟨F, Xs, T, Tm, env, m2, e2, g, k2, fun xs H' hl g' => ⟨hl, g'⟩⟩
      refine PySem.W.callWith_KW0 (h₀ := X.base) I.ok.mod.kin hk (hk2.all pos) (thn run2 fun ws s2 ⟨zs, H2, I2, rz, lz, g2⟩ => ⟨I2.kIn, ?_⟩) (hany [] rfl)
      rw [hk2.nm pos]
      exact fin [] ws s2 [] zs H2 I2 .nil rz rfl lz g2
    | cons e r =>
      refine PySem.W.callWith_KW (h₀ := X.base) I.ok.mod.kin hk (hk2.all pos) (thn run1 fun us s1 ⟨vs, H1, I1, rv, lv, g1⟩ => ?_) ?_ (h.pl.cons (h2 e r rfl))
      · have run2 := hk2.v.run pos pins s1 σ H1 (fun xs H2 => xs.length = m2.length ∧ Good X.K F Xs H2 σ e2 (xs ++ (vs ++ T)) (m2 ++ (m1 ++ Tm))) I1 ⟨F, Xs, vs ++ T, m1 ++ Tm, e1, m2, e2, g1, k2, fun xs H' hl g' => ⟨hl, g'⟩⟩
        refine thn run2 fun ws s2 ⟨zs, H2, I2, rz, lz, g2⟩ => ⟨I2.kIn, ?_⟩
        rw [hk2.nm pos]
        exact fin us ws s2 vs zs H2 I2 rv rz lv lz g2
      · exact hany _ (h.pl.any pos)
  · cases h6
end
end D8

namespace D8
open PySem PySem.Spec PyProof.Rows L2
section
variable {X : Cx} {U : Sur} {Γ : Gam} {sc : Scope}
/-! ### isinstance -/
theorem isiT_ok {t : Str} {T : String} (h : isiT.lookup t = some T) : t ∈ bltNs ∧ isiOk T = true ∧ bootBuiltins t = some (.type T) := by
  have hm := PySem.mem_of_lookup h
  simp only [isiT, List.mem_cons, Prod.mk.injEq, List.not_mem_nil, or_false] at hm
  rcases hm with ⟨rfl, rfl⟩ | ⟨rfl, rfl⟩ | ⟨rfl, rfl⟩ | ⟨rfl, rfl⟩ | ⟨rfl, rfl⟩ <;> exact ⟨by decide, rfl, rfl⟩
theorem okIsi {a : Expr} {A : E} {t : Str} {pr : Pr} {p pt pos : Pos} (o : Ok X U Γ sc) (hg : isGlo sc "isinstance" = true) (hU : U.G.findIdx? (fun p => p.1 == ("isinstance" : Str)) = none) (hgt : isGlo sc t = true) (hUt : U.G.findIdx? (fun p => p.1 == t) = none) (ht : isiP t = some pr)
    (ha : OkE X Γ a A) (hs : ∀ es, starEach (a :: es) X.env = (false, eval a X.env) :: starEach es X.env) : OkE X Γ (.Call (.Name "isinstance" p) [a, .Name t pt] [] pos) (mkPr pr [A]) := by
  unfold isiP at ht
  rw [msi] at ht
  obtain ⟨T, h1, rfl⟩ := ht
  obtain ⟨hb, hi, hv⟩ := isiT_ok h1
  obtain ⟨g1, d1⟩ := glo_is hg
  obtain ⟨g2, d2⟩ := glo_is hgt
  have gl : Gl X "isinstance" := by show X.env.scope.names.lookup _ = _; rw [o.scp]; exact g1
  have gl2 : Gl X t := by show X.env.scope.names.lookup _ = _; rw [o.scp]; exact g2
  have pt2 : PE X (.Name t pt) (tC (.ty T)) := pe_bltn gl2 (o.blt _ hb hUt) hv (by rfl) (dbg_no d2).2.2 (dbg_no d2).1
  have pa := pa_cons ha.o (pa_cons pt2 pa_nil rfl) (hs _)
  refine .plain mkPr_ne (fun _ => rfl) (mk_pr (PE.weak (pe_callB call_isi gl (o.blt _ (by decide) hU) (by rfl) pa (by decide) (by decide) (hs _) rfl) fun σ H Q h => ?_))
  obtain ⟨F, Xs, T0, Tm, env, m, env', g, ev, q⟩ := h
  simp only [Es.ofL, evalE, evalOs_one, bsi, msi] at ev
  obtain ⟨⟨ops, env1⟩, ⟨⟨o1, e1⟩, h3, h4⟩, ms, h5, m2, h6, h7⟩ := ev
  cases h4
  cases h7
  refine ⟨F, Xs, T0, Tm, env, o1, _, g, h3, fun v H1 U1 Um r1 gg => ?_⟩
  show rIsi X.K [v, .ty T] H1 Q
  obtain ⟨S, hS, pks⟩ := gg.pks r1 h5
  obtain ⟨mm, rfl, oo, hr⟩ := pks.one'
  simp only [prF, msi] at h6
  obtain ⟨b, h8, rfl⟩ := h6
  obtain ⟨ty, hty, hk⟩ := isi_ty hi hr h8
  refine ⟨v, .ty T, _, _, b, rfl, .ty T, hty, hk, q _ _ ?_⟩
  exact (gg.popN r1.lenU).pushC fun S => .bl b
/-! ### slices -/
theorem pe_slv {r : V → Option Int → Option Int → Hp → VK → Prop} {e lo hi : Expr} {te tl th : TE} {p2 pos : Pos} (hr : L2.SlR X r) (he : PE X e te) (hl : PE X lo tl) (hu : PE X hi th) :
    PE X (.Subscript e (.Slice (some lo) (some hi) none p2) pos) (fun σ H Q => te σ H fun x H1 => tl σ H1 fun l H2 => th σ H2 fun u H3 => ∃ i j, l = .int i ∧ u = .int j ∧ r x (some i) (some j) H3 Q) := by
  refine ⟨fun pins s σ H Q I h => ?_⟩
  refine Subscript_ (thn (he.run pins s σ H _ I h) fun v s1 ⟨x, H1, I1, r1, q1⟩ => ?_)
  refine wpAny_Slice ?_
  rw [evalPart_some]
  refine thn (hl.run pins s1 σ H1 _ I1 q1) fun vl s2 ⟨l, H2, I2, pl, q2⟩ => ?_
  rw [evalPart_some]
  refine thn (hu.run pins s2 σ H2 _ I2 q2) fun vu s3 ⟨u, H3, I3, pu, i, j, el, eu, q3⟩ => ?_
  rw [evalPart_none]
  refine wpAny_pure ?_
  subst el eu
  obtain ⟨t, rfl⟩ := pl
  obtain ⟨t2, rfl⟩ := pu
  have I4 : Inv X pins σ H3 { s3 with heap := s3.heap.push { cls := .type "slice", data := .fields #[.int i t, .int j t2, .none] } } := I3.kept (t' := s3.toks) fun b ob q => Heap.get?_push_of_some _ q
  obtain ⟨T, id, hT, ht, hg⟩ := hr pins { s3 with heap := s3.heap.push { cls := .type "slice", data := .fields #[.int i t, .int j t2, .none] } } σ H3 x v _ _ (some i) (some j) s3.heap.objs.size Q I4 r1 (Heap.IsSliceOf.new ..) (.int i t) (.int j t2) q3
  show wpAny (model X.prog X.w) X.A (subscriptTail e (.Slice (some lo) (some hi) none p2) v (.ref s3.heap.objs.size)) (EP X pins σ Q) X.xe { s3 with heap := s3.heap.push { cls := .type "slice", data := .fields #[.int i t, .int j t2, .none] } }
  exact tail_any (ops := [.ref s3.heap.objs.size, v]) ht hT hg (by with_unfolding_all rfl)
/-- operands' ints, by what stands there -/
theorem PKs.at_int {K : PySem.W.Frag} {S : Addr → Prop} {H : Hp} {v : V} {m : M} {i : Int} (h : ∃ o, RM K S H v m o) (e : int? m = some i) : v = .int i := let ⟨o, h⟩ := h; int_eq h e
theorem rP.of {K : PySem.W.Frag} {f f' : List M → Option M} {xs xs' : List V} {H : Hp} {Q : VK} (h : rP K f xs H Q) (w : ∀ S ms m, PKs K S H xs ms → f ms = some m → ∃ ms', PKs K S H xs' ms' ∧ f' ms' = some m) : rP K f' xs' H Q := by
  obtain ⟨S, ms, m, hS, pk, e, q⟩ := h
  obtain ⟨ms', p2, e2⟩ := w S ms m pk e
  exact ⟨S, ms', m, hS, p2, e2, q⟩
def slG (lo hi : Option Int) : List M → Option M := fun ms => match ms with
  | [m] => slF m lo hi
  | _ => none
theorem TO_three {K : PySem.W.Frag} {a b c : E} {r : List V → Hp → VK → Prop} (σ : L2.St) (H : Hp) (Q : VK) (h : tCB r (TOs K Γ (.cons a (.cons b (.cons c .nil)))) σ H Q) : TOe K Γ a σ H fun x H1 => TOe K Γ b σ H1 fun y H2 => TOe K Γ c σ H2 fun z H3 => r [x, y, z] H3 Q := by
  obtain ⟨F, Xs, T, Tm, env, ops, env', g, ev, q⟩ := h
  rw [evalOs_cons] at ev
  simp only [bsi, msi] at ev
  obtain ⟨⟨o, env1⟩, h1, ⟨os, env2⟩, h2, h3⟩ := ev
  cases h3
  refine ⟨F, Xs, T, Tm, env, o, env1, g, h1, fun v H1 U Um r1 g1 => ?_⟩
  refine TO_two (r := fun xs H3 Q => r (v :: xs) H3 Q) σ H1 Q ⟨F, Xs, U ++ T, Um ++ Tm, env1, os, _, g1, h2, fun xs H2 U2 Um2 r2 g2 => ?_⟩
  refine q (v :: xs) H2 (U ++ U2) (Um ++ Um2) (r1.append1 r2) ?_
  cases r1 with
  | sl h1 h2 => cases h2; exact g2
  | tm h2 => cases h2; exact g2.mid r2.lenU
theorem pr_sl' : L2.SlR X (fun x lo hi => rP X.K (slG lo hi) [x]) := SlR.weak pr_sl fun x lo hi H Q h => h.of fun S ms m pk e => ⟨ms, pk, e⟩
theorem okSl2 {e lo hi : Expr} {E' L R : E} {p2 pos : Pos} (he : OkE X Γ e E') (hl : OkE X Γ lo L) (hh : OkE X Γ hi R) : OkE X Γ (.Subscript e (.Slice (some lo) (some hi) none p2) pos) (.pr (.sl true true) (.cons E' (.cons L (.cons R .nil)))) := by
  refine .plain (fun _ z => nomatch z) (fun _ => rfl) (PE.weak (pe_slv pr_sl' he.o hl.o hh.o) fun σ H Q h => ?_)
  have := TO_three σ H Q (TE_pr σ H Q h)
  revert this
  refine fun ⟨F, Xs, T, Tm, env, o, env', g, ev, q⟩ => ⟨F, Xs, T, Tm, env, o, env', g, ev, fun v H1 U Um r g1 => ?_⟩
  obtain ⟨F, Xs, T, Tm, env, o, env', g, ev, q⟩ := q v H1 U Um r g1
  refine ⟨F, Xs, T, Tm, env, o, env', g, ev, fun w H2 U Um r g1 => ?_⟩
  obtain ⟨F, Xs, T, Tm, env, o, env', g, ev, q⟩ := q w H2 U Um r g1
  refine ⟨F, Xs, T, Tm, env, o, env', g, ev, fun z H3 U Um r g1 => ?_⟩
  obtain ⟨S, ms, m, hS, pk, e, q⟩ := q z H3 U Um r g1
  obtain ⟨m1, m2, m3, rfl, k1, k2, k3⟩ := pk.three'
  simp only [prF, bsi] at e
  obtain ⟨i, e1, j, e2, e3⟩ := e
  obtain ⟨o1, k1⟩ := k1
  exact ⟨i, j, PKs.at_int k2 e1, PKs.at_int k3 e2, S, [m1], m, hS, .cons k1 .nil, e3, q⟩
theorem okSlLo {e lo : Expr} {E' L : E} {p2 pos : Pos} (he : OkE X Γ e E') (hl : OkE X Γ lo L) : OkE X Γ (.Subscript e (.Slice (some lo) none none p2) pos) (.pr (.sl true false) (.cons E' (.cons L .nil))) := by
  refine .plain (fun _ z => nomatch z) (fun _ => rfl) (PE.weak (pe_slice pr_sl' he.o (po_some hl.o) po_none) fun σ H Q h => ?_)
  obtain ⟨F, Xs, T, Tm, env, o, env', g, ev, q⟩ := TO_two σ H Q (TE_pr σ H Q h)
  refine ⟨F, Xs, T, Tm, env, o, env', g, ev, fun v H1 U Um r g1 => ?_⟩
  obtain ⟨F, Xs, T, Tm, env, o, env', g, ev, q⟩ := q v H1 U Um r g1
  refine ⟨F, Xs, T, Tm, env, o, env', g, ev, fun w H2 U Um r g1 => ?_⟩
  obtain ⟨S, ms, m, hS, pk, e, q⟩ := q w H2 U Um r g1
  obtain ⟨m1, m2, rfl, ⟨o1, k1⟩, k2⟩ := pk.two'
  simp only [prF, bsi] at e
  obtain ⟨i, e1, e3⟩ := e
  exact ⟨i, PKs.at_int k2 e1, S, [m1], m, hS, .cons k1 .nil, e3, q⟩
theorem okSlHi {e lo : Expr} {E' L : E} {p2 pos : Pos} (he : OkE X Γ e E') (hl : OkE X Γ lo L) : OkE X Γ (.Subscript e (.Slice none (some lo) none p2) pos) (.pr (.sl false true) (.cons E' (.cons L .nil))) := by
  refine .plain (fun _ z => nomatch z) (fun _ => rfl) (PE.weak (pe_slice pr_sl' he.o po_none (po_some hl.o)) fun σ H Q h => ?_)
  obtain ⟨F, Xs, T, Tm, env, o, env', g, ev, q⟩ := TO_two σ H Q (TE_pr σ H Q h)
  refine ⟨F, Xs, T, Tm, env, o, env', g, ev, fun v H1 U Um r g1 => ?_⟩
  obtain ⟨F, Xs, T, Tm, env, o, env', g, ev, q⟩ := q v H1 U Um r g1
  refine ⟨F, Xs, T, Tm, env, o, env', g, ev, fun w H2 U Um r g1 => ?_⟩
  obtain ⟨S, ms, m, hS, pk, e, q⟩ := q w H2 U Um r g1
  obtain ⟨m1, m2, rfl, ⟨o1, k1⟩, k2⟩ := pk.two'
  simp only [prF, bsi] at e
  obtain ⟨i, e1, e3⟩ := e
  exact ⟨i, PKs.at_int k2 e1, S, [m1], m, hS, .cons k1 .nil, e3, q⟩
theorem okSl0 {e : Expr} {E' : E} {p2 pos : Pos} (he : OkE X Γ e E') : OkE X Γ (.Subscript e (.Slice none none none p2) pos) (.pr (.sl false false) (.cons E' .nil)) := by
  refine .plain (fun _ z => nomatch z) (fun _ => rfl) (PE.weak (pe_slice pr_sl' he.o po_none po_none) fun σ H Q h => ?_)
  obtain ⟨F, Xs, T, Tm, env, o, env', g, ev, q⟩ := TO_one σ H Q (TE_pr σ H Q h)
  refine ⟨F, Xs, T, Tm, env, o, env', g, ev, fun v H1 U Um r g1 => ?_⟩
  exact (q v H1 U Um r g1).of fun S ms m pk e => by
    obtain ⟨m1, rfl, o1, k1⟩ := pk.one'
    exact ⟨[m1], .cons k1 .nil, e⟩
end
end D8

namespace D8
open PySem PySem.Spec PyProof.Rows L2
/-! ### loops that end -/
inductive LcI (nxt : Nat → EnvM → Option (Option PyData)) (st : PyData → EnvM → Option EnvM) (c : EnvM → Option (Bool × EnvM)) (e : EnvM → Option (M × EnvM)) (w : EnvM → EnvM) : Nat → Nat → List M → EnvM → List M × EnvM → Prop
  | stop {n k : Nat} {acc : List M} {env : EnvM} : nxt k env = some none → LcI nxt st c e w n k acc env (acc, env)
  | skip {n k : Nat} {acc : List M} {env env1 env2 : EnvM} {d : PyData} {r : List M × EnvM} : nxt k env = some (some d) → st d env = some env1 → c env1 = some (false, env2) → LcI nxt st c e w n (k + 1) acc (w env2) r → LcI nxt st c e w (n + 1) k acc env r
  | keep {n k : Nat} {acc : List M} {env env1 env2 env3 : EnvM} {d : PyData} {m : M} {r : List M × EnvM} : nxt k env = some (some d) → st d env = some env1 → c env1 = some (true, env2) → e env2 = some (m, env3) → acc.length < sizeLine → LcI nxt st c e w n (k + 1) (acc ++ [m]) (w env3) r → LcI nxt st c e w (n + 1) k acc env r
theorem lcLp_I {nxt : Nat → EnvM → Option (Option PyData)} {st : PyData → EnvM → Option EnvM} {c : EnvM → Option (Bool × EnvM)} {e : EnvM → Option (M × EnvM)} {w : EnvM → EnvM} : ∀ (k : Nat) (acc : List M) (env : EnvM) (r : List M × EnvM), lcLp nxt st c e w k acc env = some r → ∃ n, LcI nxt st c e w n k acc env r := by
  refine lcLp.partial_correctness nxt st c e w (fun k acc env r => ∃ n, LcI nxt st c e w n k acc env r) fun lp ih k acc env r h => ?_
  cases h1 : nxt k env with
  | none => simp [h1] at h
  | some o =>
    cases o with
    | none => simp [h1] at h; subst h; exact ⟨0, .stop h1⟩
    | some d =>
      simp only [h1] at h
      cases h2 : st d env with
      | none => simp [h2] at h
      | some env1 =>
        simp only [h2] at h
        cases h3 : c env1 with
        | none => simp [h3] at h
        | some q =>
          obtain ⟨b, env2⟩ := q
          simp only [h3] at h
          cases b with
          | false =>
            simp only at h
            obtain ⟨n, hn⟩ := ih _ _ _ _ h
            exact ⟨n + 1, .skip h1 h2 h3 hn⟩
          | true =>
            simp only at h
            cases h4 : e env2 with
            | none => simp [h4] at h
            | some q =>
              obtain ⟨m, env3⟩ := q
              simp only [h4] at h
              split at h
              · next hz =>
                obtain ⟨n, hn⟩ := ih _ _ _ _ h
                exact ⟨n + 1, .keep h1 h2 h3 h4 hz hn⟩
              · cases h
inductive FoI (nxt : Nat → EnvM → Option (Option PyData)) (st : PyData → EnvM → Option EnvM) (body : EnvM → Option (Fl × EnvM)) : Nat → Nat → EnvM → Fl × EnvM → Prop
  | stop {n k : Nat} {env : EnvM} : nxt k env = some none → FoI nxt st body n k env (.nx, env)
  | go {n k : Nat} {env env1 env2 : EnvM} {d : PyData} {f : Fl} {r : Fl × EnvM} : nxt k env = some (some d) → st d env = some env1 → body env1 = some (f, env2) → (f = .nx ∨ f = .ct) → FoI nxt st body n (k + 1) env2 r → FoI nxt st body (n + 1) k env r
  | bk {n k : Nat} {env env1 env2 : EnvM} {d : PyData} : nxt k env = some (some d) → st d env = some env1 → body env1 = some (.bk, env2) → FoI nxt st body n k env (.nx, env2)
  | rt {n k : Nat} {env env1 env2 : EnvM} {d : PyData} {m : M} : nxt k env = some (some d) → st d env = some env1 → body env1 = some (.rt m, env2) → FoI nxt st body n k env (.rt m, env2)
theorem forLp_I {nxt : Nat → EnvM → Option (Option PyData)} {st : PyData → EnvM → Option EnvM} {body : EnvM → Option (Fl × EnvM)} : ∀ (k : Nat) (env : EnvM) (r : Fl × EnvM), forLp nxt st body k env = some r → ∃ n, FoI nxt st body n k env r := by
  refine forLp.partial_correctness nxt st body (fun k env r => ∃ n, FoI nxt st body n k env r) fun lp ih k env r h => ?_
  cases h1 : nxt k env with
  | none => simp [h1] at h
  | some o =>
    cases o with
    | none => simp [h1] at h; subst h; exact ⟨0, .stop h1⟩
    | some d =>
      simp only [h1] at h
      cases h2 : st d env with
      | none => simp [h2] at h
      | some env1 =>
        simp only [h2] at h
        cases h3 : body env1 with
        | none => simp [h3] at h
        | some q =>
          obtain ⟨f, env2⟩ := q
          simp only [h3] at h
          cases f with
          | nx => obtain ⟨n, hn⟩ := ih _ _ _ h; exact ⟨n + 1, .go h1 h2 h3 (.inl rfl) hn⟩
          | ct => obtain ⟨n, hn⟩ := ih _ _ _ h; exact ⟨n + 1, .go h1 h2 h3 (.inr rfl) hn⟩
          | bk => simp only [Option.some.injEq] at h; subst h; exact ⟨0, .bk h1 h2 h3⟩
          | rt m => simp only [Option.some.injEq] at h; subst h; exact ⟨0, .rt h1 h2 h3⟩
inductive WhI (c : EnvM → Option (Bool × EnvM)) (body : EnvM → Option (Fl × EnvM)) : Nat → EnvM → Fl × EnvM → Prop
  | stop {n : Nat} {env env1 : EnvM} : c env = some (false, env1) → WhI c body n env (.nx, env1)
  | go {n : Nat} {env env1 env2 : EnvM} {f : Fl} {r : Fl × EnvM} : c env = some (true, env1) → body env1 = some (f, env2) → (f = .nx ∨ f = .ct) → WhI c body n env2 r → WhI c body (n + 1) env r
  | bk {n : Nat} {env env1 env2 : EnvM} : c env = some (true, env1) → body env1 = some (.bk, env2) → WhI c body n env (.nx, env2)
  | rt {n : Nat} {env env1 env2 : EnvM} {m : M} : c env = some (true, env1) → body env1 = some (.rt m, env2) → WhI c body n env (.rt m, env2)
theorem whLp_I {c : EnvM → Option (Bool × EnvM)} {body : EnvM → Option (Fl × EnvM)} : ∀ (env : EnvM) (r : Fl × EnvM), whLp c body env = some r → ∃ n, WhI c body n env r := by
  refine whLp.partial_correctness c body (fun env r => ∃ n, WhI c body n env r) fun lp ih env r h => ?_
  cases h2 : c env with
  | none => simp [h2] at h
  | some q =>
    obtain ⟨b, env1⟩ := q
    simp only [h2] at h
    cases b with
    | false => simp only [Option.some.injEq] at h; subst h; exact ⟨0, .stop h2⟩
    | true =>
      simp only at h
      cases h3 : body env1 with
      | none => simp [h3] at h
      | some q =>
        obtain ⟨f, env2⟩ := q
        simp only [h3] at h
        cases f with
        | nx => obtain ⟨n, hn⟩ := ih _ _ h; exact ⟨n + 1, .go h2 h3 (.inl rfl) hn⟩
        | ct => obtain ⟨n, hn⟩ := ih _ _ h; exact ⟨n + 1, .go h2 h3 (.inr rfl) hn⟩
        | bk => simp only [Option.some.injEq] at h; subst h; exact ⟨0, .bk h2 h3⟩
        | rt m => simp only [Option.some.injEq] at h; subst h; exact ⟨0, .rt h2 h3⟩
/-! ### a turn of a walk -/
section
variable {K : PySem.W.Frag} {F : Hp} {Xs : List Addr} {H H' : Hp} {σ σ' : L2.St} {env : EnvM} {T U A : List V} {Tm Um Am : List M}
theorem Good.pks' {xs : List V} {ops : List Op} {ms : List M} (g : Good K F Xs H σ' env (A ++ (U ++ T)) (Am ++ (Um ++ Tm))) (hA : A.length = Am.length) (r : D8.OpR σ xs ops U Um) (hs : ∀ i ∈ opSlots ops, ∀ v m, σ[i]? = some (some v) → slot env i = some m → σ'[i]? = some (some v)) (e : peek env ops = some ms) :
    ∃ S : Addr → Prop, (∀ p, H p = none → S p) ∧ PKs K S H xs ms ∧ ∀ (x : V) (d : PyData) (H' : Hp) (w : Wk) (t : Tg), ((w = .en ∨ w = .zp) → ∃ ts, t = .tp ts) → Same H H' → RVt K S H' w x d → GoodT K F Xs H' σ' env x d (A ++ (U ++ T)) (Am ++ (Um ++ Tm)) t := by
  obtain ⟨O1, O2, g⟩ := g
  obtain ⟨v1, v2, o1, o2, e1, rfl, r1, r2⟩ := g.rt.split
  obtain ⟨rfl, rfl⟩ := List.append_inj e1 (hA.trans r1.length.symm)
  obtain ⟨w1, w2, p1, p2, f1, rfl, s1, s2⟩ := r2.split
  obtain ⟨rfl, rfl⟩ := List.append_inj f1 (r.lenU.trans s1.length.symm)
  have key : ∀ {xs : List V} {ops : List Op} {U : List V} {Um : List M} {ms : List M} {o : List Addr}, D8.OpR σ xs ops U Um → (∀ i ∈ opSlots ops, ∀ v m, σ[i]? = some (some v) → slot env i = some m → σ'[i]? = some (some v)) → RMs K (Sx (O1 ++ (o1 ++ (p1 ++ p2))) Xs) H U Um o → peek env ops = some ms → PKs K (Sx (O1 ++ (o1 ++ (p1 ++ p2))) Xs) H xs ms := by
    intro xs ops U Um ms o r hs ru e
    induction r generalizing ms o with
    | nil => cases e; exact .nil
    | @sl i v vs os U Um hv r ih =>
      simp only [D8.peek, bsi, msi] at e
      obtain ⟨m, h1, ms, h2, rfl⟩ := e
      obtain ⟨v', o, h3, h4⟩ := g.slot h1
      rw [hs i (by simp [opSlots]) v m hv h1] at h3; cases h3
      exact .cons h4 (ih (fun j hj => hs j (by simp [opSlots, hj])) ru h2)
    | @tm m v vs os U Um r ih =>
      simp only [D8.peek, msi] at e
      obtain ⟨ms, h2, rfl⟩ := e
      cases ru with
      | cons h ru => exact .cons h (ih (fun j hj => hs j (by simpa [opSlots] using hj)) ru h2)
  refine ⟨_, fun p hp => g.freshS hp, key r hs s1 e, fun x d H' w t ht sm rv => ?_⟩
  rcases rv with rv | ⟨hw, a, xs2, ds, rfl, rfl, hs2, rv⟩
  · exact .inl ((g.same sm).push rv).good
  · obtain ⟨ts, rfl⟩ := ht hw
    refine .inr (.inl ⟨ts, a, xs2, ds, rfl, rfl, rfl, hs2, rv.length, ?_⟩)
    have g2 := g.same sm
    have : RMs K (Sx (O1 ++ (o1 ++ (p1 ++ p2))) Xs) H' (xs2 ++ (A ++ (U ++ T))) (ds.map .im ++ (Am ++ (Um ++ Tm))) ([] ++ (o1 ++ (p1 ++ p2))) := (RMs.of_ims rv).append g2.rt
    exact ⟨O1, [] ++ (o1 ++ (p1 ++ p2)), g2.nd, g2.re, this, g2.frame, g2.dis, g2.xs⟩
theorem Good.turn {J : It} {w : Wk} {xs : List V} {ops : List Op} {ks : List Nat} {k : Nat} (g : Good K F Xs H σ' env (A ++ (U ++ T)) (Am ++ (Um ++ Tm))) (hA : A.length = Am.length) (r : D8.OpR σ xs ops U Um) (hs : ∀ i ∈ opSlots ops, ∀ v m, σ[i]? = some (some v) → slot env i = some m → σ'[i]? = some (some v)) {t : Tg} (ht : (w = .en ∨ w = .zp) → ∃ ts, t = .tp ts) (hw : WalkOk K J w xs ks) :
    (∀ d, nextK w ops ks k env = some (some d) → J.go k H ∧ ∀ x H', J.yld k H x H' → GoodT K F Xs H' σ' env x d (A ++ (U ++ T)) (Am ++ (Um ++ Tm)) t) ∧ (nextK w ops ks k env = some none → J.stop k H) := by
  have key : ∀ o, nextK w ops ks k env = some o → ∃ ms, ms.map kdM = ks ∧ nextI w ms k = some o ∧ ∃ S : Addr → Prop, (∀ p, H p = none → S p) ∧ PKs K S H xs ms ∧ ∀ (x : V) (d : PyData) (H' : Hp) (w : Wk) (t : Tg), ((w = .en ∨ w = .zp) → ∃ ts, t = .tp ts) → Same H H' → RVt K S H' w x d → GoodT K F Xs H' σ' env x d (A ++ (U ++ T)) (Am ++ (Um ++ Tm)) t := fun o e => by
    unfold nextK at e
    rw [bsi] at e
    obtain ⟨ms, h1, h2⟩ := e
    split at h2
    · next hk => exact ⟨ms, hk, h2, g.pks' hA r hs h1⟩
    · cases h2
  refine ⟨fun d e => ?_, fun e => ?_⟩
  · obtain ⟨ms, hk, h2, S, hS, pk, push⟩ := key _ e
    obtain ⟨h3, h4⟩ := (hw S H ms k pk hk).1 d h2
    exact ⟨h3, fun x H' y => push x d H' w t ht (h4 x H' y).1 (h4 x H' y).2⟩
  · obtain ⟨ms, hk, h2, S, hS, pk, push⟩ := key _ e
    exact (hw S H ms k pk hk).2 h2
/-! ### own slots put away -/
theorem Good.away : ∀ {own : List Nat} {σ : L2.St} {env : EnvM} {T : List V} {Tm : List M}, own.Nodup → Good K F Xs H σ env T Tm → ∃ VS MS, VS.length = MS.length ∧ Good K F Xs H (wipe σ own) (wipeE env own) (VS ++ T) (MS ++ Tm) ∧ ∀ H' env' T Tm, Good K F Xs H' (wipe σ own) env' (VS ++ T) (MS ++ Tm) → Good K F Xs H' σ (backE env env' own) T Tm
  | [], σ, env, T, Tm, _, g => ⟨[], [], rfl, g, fun H' env' T Tm g' => g'⟩
  | i :: own, σ, env, T, Tm, nd, g => by
    obtain ⟨ni, nd⟩ := List.nodup_cons.mp nd
    obtain ⟨VS, MS, hl, g1, back⟩ := Good.away nd g
    have wE : ∀ (own : List Nat), i ∉ own → slot (wipeE env own) i = slot env i := by
      intro own hn
      induction own with
      | nil => rfl
      | cons j own ih =>
        simp only [List.mem_cons, not_or] at hn
        rw [← ih hn.2]
        show (((wipeE env own).set j none)[i]?).join = _
        rw [List.getElem?_set_ne (Ne.symm hn.1)]; rfl
    have bE : ∀ (own : List Nat) (env' : EnvM) (x : Option M), i ∉ own → backE env (env'.set i x) own = (backE env env' own).set i x := by
      intro own env' x hn
      induction own with
      | nil => rfl
      | cons j own ih =>
        simp only [List.mem_cons, not_or] at hn
        show (backE env (env'.set i x) own).set j _ = ((backE env env' own).set j _).set i x
        rw [ih hn.2, List.set_comm _ _ hn.1]
    cases hi : slot (wipeE env own) i with
    | none =>
      refine ⟨VS, MS, hl, g1.forget i none, fun H' env' T Tm g' => ?_⟩
      have g2 := g'.forget i ((wipe σ own)[i]?.join)
      have hlen : (wipe σ own).length = env'.length := by have := g'.len; simpa [wipe] using this
      have e1 : ((wipe σ own).set i none).set i ((wipe σ own)[i]?.join) = wipe σ own := by
        rw [List.set_set]
        apply List.ext_getElem?
        intro j
        by_cases e : i = j
        · subst e
          by_cases hh : i < (wipe σ own).length
          · rw [List.getElem?_set_self hh, List.getElem?_eq_getElem hh]; rfl
          · rw [List.set_eq_of_length_le (by omega)]
        · rw [List.getElem?_set_ne e]
      have g3 := back H' (env'.set i none) T Tm (by
        have : wipe σ (i :: own) = (wipe σ own).set i none := rfl
        rw [this, e1] at g2; exact g2)
      have e2 : backE env env' (i :: own) = backE env (env'.set i none) own := by
        rw [bE own env' none ni]
        show (backE env env' own).set i (env[i]?.join) = _
        have : env[i]?.join = none := by rw [← hi, wE own ni]; rfl
        rw [this]
      rw [e2]; exact g3
    | some m =>
      obtain ⟨v, hv, g2⟩ := g1.move hi
      have g3 := g2.forget i none
      have e0 : (wipeE env own).set i none = wipeE env (i :: own) := rfl
      rw [List.set_set, e0] at g3
      refine ⟨v :: VS, m :: MS, by simp [hl], g3, fun H' env' T Tm g' => ?_⟩
      have hlen := g'.len
      have hlt : i < env'.length := by
        have h1 := (List.getElem?_eq_some_iff.mp hv).1
        have : (wipe σ (i :: own)).length = (wipe σ own).length := by rw [wipe_length, wipe_length]
        omega
      have g4 := Good.set g' hlt
      have e1 : (wipe σ (i :: own)).set i (some v) = wipe σ own := by
        show ((wipe σ own).set i none).set i (some v) = _
        rw [List.set_set, set_self hv]
      rw [e1] at g4
      have g5 := back H' _ _ _ g4
      have e2 : backE env env' (i :: own) = backE env (env'.set i (some m)) own := by
        rw [bE own env' _ ni]
        show (backE env env' own).set i (env[i]?.join) = _
        have : env[i]?.join = some m := by rw [← hi, wE own ni]; rfl
        rw [this]
      rw [e2]; exact g5
theorem Good.wipeA : ∀ {own : List Nat} {σ : L2.St} {env : EnvM}, Good K F Xs H σ env T Tm → Good K F Xs H (wipe σ own) (wipeE env own) T Tm
  | [], _, _, g => g
  | i :: own, σ, env, g => (Good.wipeA (own := own) g).forget i none
/-- an item is appended -/
theorem Good.app {y : V} {m : M} {D : Addr} {acc : List M} (g : Good K F Xs H σ env (y :: .ref D :: T) (m :: .ml acc :: Tm)) : ∃ vs, H D = some (.lst vs) ∧ vs.length = acc.length ∧ Good K F Xs (upd H D (.lst (vs ++ [y]))) σ env (.ref D :: T) (.ml (acc ++ [m]) :: Tm) := by
  obtain ⟨O1, O2, g⟩ := g
  obtain ⟨o, o2, rfl, r, blk⟩ := Gd.blk (U := [y, .ref D]) (Um := [m, .ml acc]) g rfl
  cases r with
  | @cons _ _ _ _ oy _ hy r =>
    cases r with
    | @cons _ _ _ _ od _ hd r =>
      cases r
      cases hd with
      | @ml _ vs _ os hD rl =>
        have nd := g.nd
        simp only [List.append_nil, List.nodup_append, List.nodup_cons, List.mem_append, List.mem_cons] at nd
        obtain ⟨_, ⟨⟨ny, ⟨nD, nos⟩, n3⟩, _⟩, _⟩ := nd
        refine ⟨vs, hD, rl.length, ?_⟩
        refine blk (upd H D (.lst (vs ++ [y]))) [.ref D] [.ml (acc ++ [m])] (D :: (os ++ oy)) (fun a x e na => ?_) ?_ (fun a ha => ?_) fun S' k fr ow => ?_
        · rw [upd_ne]; · exact e
          rintro rfl; exact na (by simp)
        · refine List.nodup_cons.mpr ⟨fun z => ?_, List.nodup_append.mpr ⟨nos, ny, fun a ha b hb e => n3 b hb a (.inr ha) e.symm⟩⟩
          rcases List.mem_append.mp z with z | z
          · exact nD z
          · exact n3 D z D (.inl rfl) rfl
        · refine .inl ?_
          simp only [List.mem_cons, List.mem_append, List.append_nil] at ha ⊢
          rcases ha with z | z | z <;> simp [z]
        · have r1 := rl.kp k fun a ha => upd_ne (fun z => nD (z ▸ ha))
          have r2 := hy.kp k fun a ha => upd_ne (fun z => n3 a ha D (.inl rfl) z)
          have r3 := RM.ml (K := K) (S := S') (H := upd H D (.lst (vs ++ [y]))) (a := D) upd_same (r1.append (.cons r2 .nil))
          rw [List.append_nil] at r3
          have := RMs.cons r3 RMs.nil
          rw [List.append_nil] at this
          exact this
end
end D8

namespace D8
open PySem PySem.Spec PyProof.Rows L2
section
variable {X : Cx} {U : Sur} {Γ : Gam} {sc : Scope}
theorem wipe_get {σ : L2.St} {i : Nat} : ∀ {own : List Nat}, i ∉ own → (wipe σ own)[i]? = σ[i]?
  | [], _ => rfl
  | j :: own, h => by
    simp only [List.mem_cons, not_or] at h
    show ((wipe σ own).set j none)[i]? = _
    rw [List.getElem?_set_ne (Ne.symm h.1), wipe_get h.2]
theorem wipe_eq : ∀ {own : List Nat} {σ σ' : L2.St}, σ.length = σ'.length → (∀ i, i ∉ own → σ[i]? = σ'[i]?) → wipe σ own = wipe σ' own := by
  intro own σ σ' hl h
  apply List.ext_getElem?
  intro j
  by_cases hj : j ∈ own
  · have key : ∀ (σ : L2.St), (wipe σ own)[j]? = if j < σ.length then some none else none := by
      intro σ
      clear h hl
      induction own with
      | nil => cases hj
      | cons k own ih =>
        show ((wipe σ own).set k none)[j]? = _
        by_cases e : k = j
        · subst e
          by_cases hh : k < σ.length
          · rw [List.getElem?_set_self (by rw [wipe_length]; exact hh), if_pos hh]
          · rw [List.getElem?_eq_none (by rw [List.length_set, wipe_length]; omega), if_neg hh]
        · rw [List.getElem?_set_ne e]
          exact ih (by rcases List.mem_cons.mp hj with z | z; exact absurd z.symm e; exact z)
    rw [key, key, hl]
  · rw [wipe_get hj, wipe_get hj, h j hj]
theorem wipeE_none {env : EnvM} {i : Nat} : ∀ {own : List Nat}, i ∈ own → slot (wipeE env own) i = none
  | j :: own, h => by
    show (((wipeE env own).set j none)[i]?).join = none
    by_cases e : j = i
    · subst e
      by_cases hh : j < (wipeE env own).length
      · rw [List.getElem?_set_self hh]; rfl
      · rw [List.getElem?_eq_none (by rw [List.length_set]; omega)]; rfl
    · rw [List.getElem?_set_ne e]
      exact wipeE_none (by rcases List.mem_cons.mp h with z | z; exact absurd z.symm e; exact z)
mutual
theorem setT_len : ∀ {t : Tg} {d : PyData} {env env' : EnvM}, setT t d env = some env' → env'.length = env.length
  | .nm i, d, env, env', h => by
    simp only [setT] at h
    split at h
    · cases h; simp
    · cases h
  | .tp ts, .tuple ds, env, env', h => by
    simp only [setT] at h
    exact setTs_lenE h
  | .tp _, .none, _, _, h => by simp [setT] at h
  | .tp _, .bool _, _, _, h => by simp [setT] at h
  | .tp _, .int _, _, _, h => by simp [setT] at h
  | .tp _, .str _, _, _, h => by simp [setT] at h
  | .tp ts, .list ds, env, env', h => by
    simp only [setT] at h
    exact setTs_lenE h
  | .tp _, .dict _, _, _, h => by simp [setT] at h
theorem setTs_lenE : ∀ {t : Tgs} {ds : List PyData} {env env' : EnvM}, setTs t ds env = some env' → env'.length = env.length
  | .nil, [], _, _, h => by simp only [setTs, Option.some.injEq] at h; rw [h]
  | .nil, _ :: _, _, _, h => by simp [setTs] at h
  | .cons _ _, [], _, _, h => by simp [setTs] at h
  | .cons t ts, d :: ds, env, env', h => by
    unfold setTs at h
    cases h1 : setT t d env with
    | none => rw [h1] at h; cases h
    | some e1 =>
      rw [h1] at h
      rw [setTs_lenE (env := e1) h, setT_len h1]
end
theorem peek_wipe {own : List Nat} {env : EnvM} (ops : List Op) : ∀ ms : List M, peek (wipeE env own) ops = some ms → peek env ops = some ms := by
  have slo : ∀ (own : List Nat) (i : Nat), i ∉ own → slot (wipeE env own) i = slot env i := by
    intro own i hn
    induction own with
    | nil => rfl
    | cons j own ih =>
      have h2 : i ≠ j ∧ i ∉ own := ⟨fun z => hn (z ▸ List.mem_cons_self), fun z => hn (List.mem_cons_of_mem _ z)⟩
      rw [← ih h2.2]
      show (((wipeE env own).set j none)[i]?).join = _
      rw [List.getElem?_set_ne (Ne.symm h2.1)]; rfl
  induction ops with
  | nil => exact fun ms h => h
  | cons op ops ih =>
    intro ms h
    cases op with
    | tm m =>
      have h : (peek (wipeE env own) ops).map (m :: ·) = some ms := h
      cases e : peek (wipeE env own) ops with
      | none => rw [e] at h; cases h
      | some r =>
        rw [e] at h
        show (peek env ops).map (m :: ·) = some ms
        rw [ih r e]; exact h
    | sl i =>
      have h : ((slot (wipeE env own) i).bind fun m => (peek (wipeE env own) ops).map (m :: ·)) = some ms := h
      show ((slot env i).bind fun m => (peek env ops).map (m :: ·)) = some ms
      by_cases hi : i ∈ own
      · rw [wipeE_none hi] at h; cases h
      · rw [slo own i hi] at h
        cases e0 : slot env i with
        | none => rw [e0] at h; cases h
        | some m =>
          rw [e0, Option.bind_some] at h
          rw [Option.bind_some]
          cases e : peek (wipeE env own) ops with
          | none => rw [e] at h; cases h
          | some r =>
            rw [e] at h
            rw [ih r e]; exact h
def ttOf (K : PySem.W.Frag) (Γ : Gam) : Option E → TT
  | none => tYes
  | some d => TTe K Γ d
theorem evalE_lc {Γ : Gam} {own : List Nat} {t : Tg} {w : Wk} {src : Es} {cond : Option E} {c : E} {env env' : EnvM} {m : M} (ev : evalE Γ (.lc own t w src cond c) env = some (m, env')) : ∃ ops env1 ms accF envL, evalOs Γ src env = some (ops, env1) ∧ peek env1 ops = some ms ∧
    lcLp (nextK w ops (ms.map kdM)) (setT t) (fun env => match cond with
        | none => some (true, env)
        | some c => evalT Γ c env) (fun env => evalE Γ c env) (fun env => wipeE env own) 0 [] (wipeE env1 own) = some (accF, envL) ∧ m = .ml accF ∧ env' = backE env1 envL own := by
  unfold evalE at ev
  rw [bsi] at ev
  obtain ⟨⟨ops, env1⟩, h1, ev⟩ := ev
  rw [bsi] at ev
  obtain ⟨ms, h2, ev⟩ := ev
  rw [msi] at ev
  obtain ⟨⟨accF, envL⟩, h3, h4⟩ := ev
  cases h4
  exact ⟨ops, env1, ms, accF, envL, h1, h2, h3, rfl, rfl⟩
theorem lc_w {K : PySem.W.Frag} {own : List Nat} {t : Tg} {w : Wk} {src : Es} {cond : Option E} {c : E} (htp : (w = .en ∨ w = .zp) → ∃ ts, t = .tp ts) (nd : own.Nodup) (hts : ∀ i ∈ t.slots, i ∈ own) (σ : L2.St) (H : Hp) (Q : VK) (h : TEe K Γ (.lc own t w src cond c) σ H Q) : tLc (TIo K Γ w src) (TGt K t) (ttOf K Γ cond) (TEe K Γ c) own σ H Q := by
  obtain ⟨F, Xs, T, Tm, env, m, env', g, ev, q⟩ := h
  obtain ⟨ops, env1, ms, accF, envL, h1, h2, h3, rfl, rfl⟩ := evalE_lc ev
  obtain ⟨n, hI⟩ := lcLp_I _ _ _ _ h3
  have hne : nextI w ms 0 ≠ none := by
    have hk : ∃ o, nextK w ops (ms.map kdM) 0 (wipeE env1 own) = some o := by
      cases hI with
      | stop h => exact ⟨_, h⟩
      | skip h => exact ⟨_, h⟩
      | keep h => exact ⟨_, h⟩
    obtain ⟨o, ho⟩ := hk
    unfold nextK at ho
    rw [bsi] at ho
    obtain ⟨ms', h5, h6⟩ := ho
    have h7 := peek_wipe _ _ h5
    rw [h2] at h7
    cases h7
    split at h6
    · rw [h6]; exact fun z => nomatch z
    · cases h6
  refine ⟨F, Xs, T, Tm, env, ops, env1, ms, g, h1, h2, hne, fun xs H1 U Um J r g1 hw D hD => ?_⟩
  obtain ⟨VS, MS, hvl, g2, back⟩ := g1.away nd
  have g3 := g2.mkLst (vs := []) (ms := []) rfl hD
  refine ⟨fun i m H => ∃ acc env0, LcI (nextK w ops (ms.map kdM)) (setT t) (fun env => match cond with
        | none => some (true, env)
        | some c => evalT Γ c env) (fun env => evalE Γ c env) (fun env => wipeE env own) m i acc (wipeE env0 own) (accF, envL) ∧ Good K F Xs H (wipe σ own) (wipeE env0 own) (.ref D :: (VS ++ (U ++ T))) (.ml acc :: (MS ++ (Um ++ Tm))), ⟨n, [], env1, hI, g3⟩, ?_⟩
  rintro i m H ⟨acc, env0, hI, gI⟩
  have hsl : ∀ j ∈ opSlots ops, ∀ v m, σ[j]? = some (some v) → slot (wipeE env0 own) j = some m → (wipe σ own)[j]? = some (some v) := fun j _ v m hv hs => by
    by_cases hj : j ∈ own
    · rw [wipeE_none hj] at hs; cases hs
    · rw [wipe_get hj]; exact hv
  have gI' : Good K F Xs H (wipe σ own) (wipeE env0 own) ((.ref D :: VS) ++ (U ++ T)) ((.ml acc :: MS) ++ (Um ++ Tm)) := gI
  have tn := gI'.turn (k := i) (by simp [hvl]) r hsl htp hw
  have wl : ∀ {σ2 : L2.St} {env2 : EnvM} {d : PyData} {Hx : Hp} {T2 : List V} {Tm2 : List M}, setT t d (wipeE env0 own) = some env2 → Good K F Xs Hx σ2 env2 T2 Tm2 → (∀ j, j ∉ t.slots → σ2[j]? = (wipe σ own)[j]?) → wipe σ2 own = wipe σ own := fun {σ2 env2 d Hx T2 Tm2} e g2 hk => by
    refine wipe_eq ?_ fun j hj => ?_
    · rw [g2.len, setT_len e, ← gI.len, wipe_length]
    · rw [hk j (fun z => hj (hts j z)), wipe_get hj]
  generalize hgen : wipeE env0 own = envw at hI gI gI' tn wl
  cases hI with
  | stop hs =>
    refine .inl ⟨tn.2 hs, q (.ref D) H ?_⟩
    have a1 := Good.dim hvl gI
    have a2 := back H _ _ _ a1
    exact (Good.dim r.lenU a2).popN r.lenU
  | @skip n _ _ _ env2 env3 d _ hs hst hcc rest =>
    refine .inr ⟨(tn.1 d hs).1, _, fun H' hN => ⟨n, Nat.lt_succ_self _, hN⟩, fun x H' hy => ?_⟩
    have gx := (tn.1 d hs).2 x H' hy
    refine ⟨F, Xs, _, _, envw, d, env2, gx, hst, fun σ2 g2' hk => ⟨wl hst g2' hk, ?_⟩⟩
    cases cond with
    | none => cases hcc
    | some cc =>
      refine ⟨F, Xs, _, _, env2, false, env3, g2', hcc, fun H3 g4 => ?_⟩
      refine Eq.mpr (if_neg Bool.false_ne_true) ?_
      refine ⟨acc, env3, rest, ?_⟩
      have := Good.wipeA (own := own) g4
      rw [wl hst g2' hk] at this
      exact this
  | @keep n _ _ _ env2 env3 env4 d m _ hs hst hcc hee hz rest =>
    refine .inr ⟨(tn.1 d hs).1, _, fun H' hN => ⟨n, Nat.lt_succ_self _, hN⟩, fun x H' hy => ?_⟩
    have gx := (tn.1 d hs).2 x H' hy
    refine ⟨F, Xs, _, _, envw, d, env2, gx, hst, fun σ2 g2' hk => ⟨wl hst g2' hk, ?_⟩⟩
    have fin : ∀ H3, Good K F Xs H3 σ2 env3 (.ref D :: (VS ++ (U ++ T))) (.ml acc :: (MS ++ (Um ++ Tm))) → TEe K Γ c σ2 H3 fun y H4 => ∃ acc', H4 D = some (.lst acc') ∧ acc'.length < sizeLine ∧ ∃ acc env0, LcI (nextK w ops (ms.map kdM)) (setT t) (fun env => match cond with
        | none => some (true, env)
        | some c => evalT Γ c env) (fun env => evalE Γ c env) (fun env => wipeE env own) n (i + 1) acc (wipeE env0 own) (accF, envL) ∧ Good K F Xs (upd H4 D (.lst (acc' ++ [y]))) (wipe σ own) (wipeE env0 own) (.ref D :: (VS ++ (U ++ T))) (.ml acc :: (MS ++ (Um ++ Tm))) := fun H3 g4 =>
      ⟨F, Xs, _, _, env3, m, env4, g4, hee, fun y H4 g5 => by
        obtain ⟨vs, e1, e2, g6⟩ := g5.app
        refine ⟨vs, e1, by rw [e2]; exact hz, acc ++ [m], env4, rest, ?_⟩
        have := Good.wipeA (own := own) g6
        rw [wl hst g2' hk] at this
        exact this⟩
    cases cond with
    | none =>
      cases hcc
      unfold ttOf tYes
      show (if true = true then TEe K Γ c σ2 _ _ else _)
      rw [if_pos rfl]
      exact fin _ g2'
    | some cc =>
      refine ⟨F, Xs, _, _, env2, true, env3, g2', hcc, fun H3 g4 => ?_⟩
      exact Eq.mpr (if_pos rfl) (fin _ g4)
theorem okLc {elt tg iter : Expr} {ifs : List Expr} {bs : Scope} {pos : Pos} {w : Wk} {src : Es} {t : Tg} {cond : Option E} {c : E} (htp : (w = .en ∨ w = .zp) → ∃ ts, t = .tp ts) (o : Ok X U Γ sc) (hb : blkC U.N sc bs (ownOf U.N bs) = true) (hn : ((ownOf U.N bs).map (·.2)).Nodup) (hi : PI X tg iter (TIo X.K Γ w src)) (ht : cT U.N bs tg = some t)
    (hts : ∀ i ∈ t.slots, i ∈ (ownOf U.N bs).map (·.2)) (hf : ∀ x, foldedSetIterable iter X.env x = pure x)
    (hc : ∀ (s : Shared) (H : Hp) (C : Addr) (cl : List (Str × Addr)) (fp : List Addr), PTs (X.blk s H bs (compEnvC bs cl C X.env) fp) ifs (ttOf X.K Γ cond))
    (he : ∀ (s : Shared) (H : Hp) (C : Addr) (cl : List (Str × Addr)) (fp : List Addr), PE (X.blk s H bs (compEnvC bs cl C X.env) fp) elt (TEe X.K Γ c)) :
    PE X (.ListComp elt [⟨tg, iter, ifs, 0⟩] bs pos) (TEe X.K Γ (.lc ((ownOf U.N bs).map (·.2)) t w src cond c)) := by
  have ok : BlkOk X.N X.env.scope bs (ownOf U.N bs) := by rw [o.hN, o.scp]; exact blkOk_by hb
  refine PE.weak (pe_lc o.calm o.nd hi ok (fun s H C cl fp => ?_) hc he hf) fun σ H Q h => lc_w htp hn hts σ H Q h
  exact pgT (X := X.blk s H bs (compEnvC bs cl C X.env) fp) (U := U) (ts := bs) o.nd o.hN o.calm (Tok.blk s H cl C fp) tg t ht
theorem okSetLc {i : Nat} {y : Str} {py spos : Pos} {elt tg iter : Expr} {ifs : List Expr} {bs : Scope} {pos : Pos} {w : Wk} {src : Es} {t : Tg} {cond : Option E} {c : E} (htp : (w = .en ∨ w = .zp) → ∃ ts, t = .tp ts) (o : Ok X U Γ sc) (hy : X.N[i]? = some y) (hyl : X.env.scope.names.lookup y = some .local)
    (hsw : swapsWith (.ListComp elt [⟨tg, iter, ifs, 0⟩] bs pos) (some (.Name y py)) spos.line X.env = pure true) (hb : blkC U.N sc bs (ownOf U.N bs) = true) (hn : ((ownOf U.N bs).map (·.2)).Nodup) (hi : PI X tg iter (TIo X.K Γ w src)) (ht : cT U.N bs tg = some t)
    (hts : ∀ i ∈ t.slots, i ∈ (ownOf U.N bs).map (·.2)) (hf : ∀ x, foldedSetIterable iter X.env x = pure x)
    (hc : ∀ (s : Shared) (H : Hp) (C : Addr) (cl : List (Str × Addr)) (fp : List Addr), PTs (X.blk s H bs (compEnvC bs cl C X.env) fp) ifs (ttOf X.K Γ cond))
    (he : ∀ (s : Shared) (H : Hp) (C : Addr) (cl : List (Str × Addr)) (fp : List Addr), PE (X.blk s H bs (compEnvC bs cl C X.env) fp) elt (TEe X.K Γ c)) :
    PS X (.Assign [.Name y py] (.ListComp elt [⟨tg, iter, ifs, 0⟩] bs pos) spos) (tAsg (TEe X.K Γ (.lc ((ownOf U.N bs).map (·.2)) t w src cond c)) (gName i)) := by
  have ok : BlkOk X.N X.env.scope bs (ownOf U.N bs) := by rw [o.hN, o.scp]; exact blkOk_by hb
  refine PS.weak (ps_setLc o.calm o.nd hy hyl hsw hi ok (fun s H C cl fp => ?_) hc he hf) fun D σ H h => lc_w htp hn hts σ H _ h
  exact pgT (X := X.blk s H bs (compEnvC bs cl C X.env) fp) (U := U) (ts := bs) o.nd o.hN o.calm (Tok.blk s H cl C fp) tg t ht
end
end D8

namespace D8
open PySem PySem.Spec PyProof.Rows L2
/-! ### d.update of a list of pairs -/
inductive PrV (K : PySem.W.Frag) (H : Hp) : List V → List (Key × V) → Prop
  | nil : PrV K H [] []
  | cons {T : Addr} {k : Key} {v : V} {xs : List V} {ps : List (Key × V)} : SqT K H T [kV k, v] → PrV K H xs ps → PrV K H (.ref T :: xs) ((k, v) :: ps)
def putKs (kvs ps : List (Key × V)) : List (Key × V) := ps.foldl (fun a p => putK a p.1 p.2) kvs
theorem putKs_len (kvs : List (Key × V)) : ∀ ps : List (Key × V), (putKs kvs ps).length ≤ kvs.length + ps.length := by
  intro ps
  induction ps generalizing kvs with
  | nil => simp [putKs]
  | cons p ps ih =>
    have h1 := ih (putK kvs p.1 p.2)
    have h2 := length_putK kvs p.1 p.2
    simp only [putKs, List.foldl_cons, List.length_cons] at h1 ⊢
    omega
def rUpd (K : PySem.W.Frag) : V → List V → Hp → VK → Prop := fun x vs H Q => ∃ (d l : Addr) (kvs : List (Key × V)) (xs : List V) (ps : List (Key × V)), x = .ref d ∧ vs = [.ref l] ∧ H d = some (.dK kvs) ∧ H l = some (.lst xs) ∧ PrV K H xs ps ∧ kvs.length + ps.length ≤ sizeLine ∧ Q .non (upd H d (.dK (putKs kvs ps)))
section
variable {X : Cx} {pins : List (Addr × Obj)} {s : Shared} {σ : L2.St} {H : Hp}
theorem PrV.real (I : Inv X pins σ H s) : ∀ {xs : List V} {ps : List (Key × V)}, PrV X.K H xs ps → ∀ {its : List Value}, Vals xs its →
    ∃ (Ts : List Addr) (qs : List (Key × Value)), its = Ts.map Value.ref ∧ Ts.length = qs.length ∧ (∀ (j : Nat) (k : Key) (v : Value), qs[j]? = some (k, v) → ∃ (T : Addr) (u : Value), Ts[j]? = some T ∧ s.heap.IsTuple T #[u, v] ∧ (mixKind X.prog X.w).is k u = true) ∧
      ∀ kvs vs, KV kvs vs → KV (putKs kvs ps) (merged vs qs)
  | _, _, .nil, _, .nil => ⟨[], [], rfl, rfl, fun j k v e => by simp at e, fun _ _ r => r⟩
  | _, _, .cons (T := T) (k := k) (v := v) hT r, _, .cons h1 h2 => by
    obtain ⟨Ts, qs, rfl, e1, e2, e3⟩ := PrV.real I r h2
    cases h1
    obtain ⟨it2, rv, o, hz⟩ := I.tuple hT
    cases rv with
    | @cons _ u _ _ r1 rv =>
      cases rv with
      | @cons _ w _ _ r2 rv =>
        cases rv
        refine ⟨T :: Ts, (k, w) :: qs, rfl, by simp [e1], fun j k' v' e => ?_, fun kvs vs rel => e3 _ _ (rel.put k r2)⟩
        cases j with
        | zero =>
          simp only [List.getElem?_cons_zero, Option.some.injEq, Prod.mk.injEq] at e
          obtain ⟨rfl, rfl⟩ := e
          exact ⟨T, u, rfl, (let ⟨o, ho, hc, n, hd⟩ := o; ⟨o, ho, hc, n, by simpa using hd⟩), kV_is r1⟩
        | succ j => exact e2 j k' v' (by simpa using e)
theorem mt_upd {X : Cx} (hc : X.calm = true) : MtR X "dict.update" (rUpd X.K) := by
  intro pins s σ H x vs v us Q I rx rv h
  obtain ⟨d, l, kvs, xs, ps, rfl, rfl, hD, hL, pr, hz, q⟩ := h
  cases rx
  obtain ⟨u, rfl, ru⟩ := rv.one
  cases ru
  obtain ⟨z, hd, vs0, rel, dd⟩ := dk_of I.hok hD
  obtain ⟨z2, its, n, r, hl, e⟩ := I.lstM hL
  obtain ⟨Ts, qs, rfl, e1, e2, e3⟩ := pr.real I r
  have hps : ps.length = qs.length := by
    have h1 : ∀ {xs : List V} {ps : List (Key × V)}, PrV X.K H xs ps → xs.length = ps.length := fun h => by induction h with
      | nil => rfl
      | cons _ _ ih => simp [ih]
    rw [← h1 pr, hl, List.length_map, e1]
  have dcls : ∃ o, s.heap.get? d = some o ∧ o.cls = .type "dict" := dd.typeIs (s := s)
  have hget : ∀ j k v, qs[j]? = some (k, v) → ∃ T u, Ts[j]? = some T ∧ Ts.getD j 0 = T ∧ s.heap.IsTuple T #[u, v] ∧ (mixKind X.prog X.w).is k u = true := fun j k v hj => by
    obtain ⟨T, u, h1, h2, h3⟩ := e2 j k v hj
    exact ⟨T, u, h1, by simp [List.getD, h1], h2, h3⟩
  have pk : ∀ j k v, qs[j]? = some (k, v) → ∃ u, (mixKind X.prog X.w).is k u = true ∧ s.heap.IsTuple (Ts.getD j 0) #[u, v] := fun j k v hj => by
    obtain ⟨T, u, _, h2, h3, h4⟩ := hget j k v hj
    exact ⟨u, h4, h2 ▸ h3⟩
  classical
  let kf : Nat → Value := fun j => if hj : ∃ k v, qs[j]? = some (k, v) then (pk j _ _ hj.choose_spec.choose_spec).choose else .none
  have hkf : ∀ j k v, qs[j]? = some (k, v) → (mixKind X.prog X.w).is k (kf j) = true ∧ s.heap.IsTuple (Ts.getD j 0) #[kf j, v] := fun j k v hj => by
    have ex : ∃ k v, qs[j]? = some (k, v) := ⟨k, v, hj⟩
    have e5 := ex.choose_spec.choose_spec
    have e6 := hj.symm.trans e5
    simp only [Option.some.injEq, Prod.mk.injEq] at e6
    have := (pk j _ _ e5).choose_spec
    have e7 : kf j = (pk j _ _ e5).choose := dif_pos ex
    rw [e7, e6.1, e6.2]
    exact this
  let ps2 : List (Value × Value) := (List.range qs.length).map fun j => (kf j, (qs.getD j (.inl 0, .none)).2)
  have hp2 : ∀ j a b, ps2[j]? = some (a, b) → ∃ k, qs[j]? = some (k, b) ∧ a = kf j := fun j a b hj => by
    simp only [ps2, List.getElem?_map, Option.map_eq_some_iff] at hj
    obtain ⟨i, hi, hj⟩ := hj
    obtain ⟨hi1, hi2⟩ := List.getElem?_eq_some_iff.mp hi
    simp only [List.getElem_range] at hi2
    subst hi2
    simp only [List.length_range] at hi1
    obtain ⟨⟨k, b'⟩, hq⟩ : ∃ q, qs[j]? = some q := ⟨qs[j], List.getElem?_eq_getElem hi1⟩
    simp only [Prod.mk.injEq, List.getD, hq, Option.getD_some] at hj
    exact ⟨k, by rw [hq, hj.2], hj.1.symm⟩
  have hl2 : ps2.length = qs.length := by simp [ps2]
  have hTd : ∀ j, j < ps2.length → Ts.getD j 0 ≠ d := fun j hj e0 => by
    obtain ⟨⟨k, b⟩, hq⟩ : ∃ q, qs[j]? = some q := ⟨qs[j]'(hl2 ▸ hj), List.getElem?_eq_getElem _⟩
    obtain ⟨o, ho, hcl, _⟩ := (hkf j k b hq).2
    obtain ⟨o2, ho2, hc2⟩ := dcls
    rw [e0, ho2] at ho
    cases ho
    rw [hc2] at hcl
    exact absurd hcl (by decide)
  refine call_update_pairs (knd := mixKind X.prog X.w) (kvs := qs) (acc := vs0) (PairArg.list l (Ts.map Value.ref).toArray (fun j => Ts.getD j 0) ps2) (I.ok.hd hc) ⟨⟨_, n, e, rfl, rfl, rfl⟩, ?_⟩ ?_ ⟨hl2.symm, ?_⟩ dd ?_ ?_
  · refine ⟨by simp [hl2, e1], fun j a b hj => ?_⟩
    obtain ⟨k, hq, rfl⟩ := hp2 j a b hj
    obtain ⟨T, u, h1, h2, _⟩ := hget j k b hq
    refine ⟨?_, .inl (hkf j k b hq).2⟩
    show _ = some (Value.ref (Ts.getD j 0))
    rw [h2]
    simp [h1]
  · intro hm
    rcases List.mem_cons.mp hm with h0 | hm
    · subst h0; rw [hD] at hL; cases hL
    · obtain ⟨j, hj, hjd⟩ := List.mem_map.mp hm
      exact hTd j (List.mem_range.mp hj) hjd
  · intro i key v hr
    obtain ⟨k, hq, rfl⟩ := hp2 i key v hr
    exact ⟨k, hq, (hkf i k v hq).1⟩
  · rw [hl2, ← hps, ← rel.length]; exact hz
  · intro h' tk hd' keep
    have hlen : (putKs kvs ps).length ≤ sizeLine := Nat.le_trans (putKs_len kvs ps) hz
    refine ⟨.non, _, I.write (x := d) (e := d) (t' := tk) (by rw [hD]; exact True.intro) (.inl rfl) (fun b u hb e => keep b u hb (by simp) e) (let ⟨q, _, _, hq, _⟩ := hd'; ⟨q, hq⟩) (dk_new hlen hd (e3 _ _ rel) hd'), rfl, q⟩
/-! ### l.extend of a tuple -/
theorem extend_tup {l b : Addr} {items items2 : Array Value} {n n2 : Nat} {dd : Option Addr} {sl : Array (Option Value)} (hs0 : ¬(!items.isEmpty && Builtin.List.listTooLong (items.size + items2.size)) = true) (hs1 : items.size ≤ sizeLine) (hs2 : items.size + items2.size ≤ sizeLine + 1) :
    Meets (Builtin.«list.extend» ⟨[.ref l, .ref b], []⟩) (fun _ R s => s.heap.get? l = some { cls := .type "list", dict := none, data := .seq items n, slots := #[] } ∧ s.heap.get? b = some { cls := .type "tuple", dict := dd, data := .seq items2 n2, slots := sl } ∧ R (.ok (.ret Value.none)) { s with heap := s.heap.update l (Obj.mapSeq fun x => x ++ items2), toks := s.toks }) :=
  .of_wp fun prog w A R s h => by
    obtain ⟨hp, g, d, tk, os⟩ := s
    obtain ⟨hl, hb, h⟩ := h
    have f1 := AutoSeq1.idx_int
    have f2 := AutoSeq1.sub_tuple_tuple
    have f3 := AutoSeq1.sub_list_list
    have f4 := AutoSeq1.sub_tuple_list
    have f5 := AutoSeq1.sub_list_tuple
    have hz' : (items ++ items2).size ≤ sizeLine + 1 := by rw [Array.size_append]; exact hs2
    wp_walk using (wpAny_updateSeq hl rfl (hz := hs1) (_hz' := hz')), wpAny_loadPart' hl, wpAny_loadPart' hb
    exact ⟨_, rfl, h⟩
def rExtT (K : PySem.W.Frag) : V → List V → Hp → VK → Prop := fun x vs H Q => ∃ l b xs zs, x = .ref l ∧ vs = [.ref b] ∧ H l = some (.lst xs) ∧ SqT K H b zs ∧ xs.length + zs.length ≤ sizeLine ∧ Q .non (upd H l (.lst (xs ++ zs)))
theorem mt_extT {X : Cx} : MtR X "list.extend" (rExtT X.K) := by
  intro pins s σ H x vs v us Q I rx rv h
  obtain ⟨l, b, xs, zs, rfl, rfl, hH, hB, hz, q⟩ := h
  cases rx
  obtain ⟨u, rfl, ru⟩ := rv.one
  cases ru
  obtain ⟨z, its, n, r, hl, e⟩ := I.lstM hH
  obtain ⟨its2, r2, ⟨⟨cls, dd, data, sl⟩, ho, hc, n2, hd⟩, hs⟩ := I.tuple hB
  simp only at hc hd
  subst hc hd
  have hl2 := r2.length
  have hsz : its.toArray.size + its2.toArray.size ≤ sizeLine := by rw [List.size_toArray, List.size_toArray]; omega
  have hlong : ¬ (!its.toArray.isEmpty && Builtin.List.listTooLong (its.toArray.size + its2.toArray.size)) = true := by
    rw [notLongL hsz, Bool.and_false]
    exact Bool.false_ne_true
  refine call_meets F.slot_list_extend ⟨_, e, rfl⟩ F.entry_list_extend (F.args_list_extend_2 _ _)
    (extend_tup (l := l) (b := b) (items := its.toArray) (n := n) (items2 := its2.toArray) (n2 := n2) hlong (by rw [List.size_toArray]; omega) (by omega)) ⟨e, ho, ?_⟩
  refine ⟨.non, _, I.lset (its' := its ++ its2) hH e (by simp) (r.append r2) ?_, rfl, q⟩
  rw [List.length_append]
  omega
end
end D8

namespace D8
open PySem PySem.Spec PyProof.Rows L2
/-- a method's reading -/
def mtO (K : PySem.W.Frag) (m : Mt) : V → List V → Hp → VK → Prop := match m with
  | .append => rAppend
  | .pop0 => rPop
  | .pop1 => rPopAt
  | .insert => fun x vs H Q => ∃ (l : Addr) (xs : List V) (i : Int) (y : V), x = .ref l ∧ vs = [.int i, y] ∧ H l = some (.lst xs) ∧ xs.length < sizeLine ∧ 0 ≤ i ∧ i < 2 ^ 63 ∧ Q .non (upd H l (.lst (xs.take i.toNat ++ [y] ++ xs.drop i.toNat)))
  | .setIx => fun x vs H Q => ∃ i y, vs = [i, y] ∧ ((rSetL x i y H fun H' => Q .non H') ∨ ∃ a kvs k, x = .ref a ∧ i = kV k ∧ H a = some (.dK kvs) ∧ kvs.length < sizeLine ∧ Q .non (upd H a (.dK (putK kvs k y))))
  | .extend => fun x vs H Q => rExtend x vs H Q ∨ rExtT K x vs H Q
  | .update => rUpd K
  | _ => fun _ _ _ _ => False
section
variable {K : PySem.W.Frag} {S : Addr → Prop} {H : Hp}
theorem RMs.at {vs : List V} {ms : List M} {os : List Addr} {k : Nat} {y : M} (r : RMs K S H vs ms os) (h : ms[k]? = some y) : ∃ v1 w v2 o1 ow o2, vs = v1 ++ w :: v2 ∧ v1.length = k ∧ os = o1 ++ (ow ++ o2) ∧ RMs K S H v1 (ms.take k) o1 ∧ RM K S H w y ow ∧ RMs K S H v2 (ms.drop (k + 1)) o2 := by
  have hk := (List.getElem?_eq_some_iff.mp h).1
  have e : ms = ms.take k ++ y :: ms.drop (k + 1) := by
    obtain ⟨h1, h2⟩ := List.getElem?_eq_some_iff.mp h
    rw [← h2, ← List.drop_eq_getElem_cons h1, List.take_append_drop]
  rw [e] at r
  obtain ⟨v1, v2, o1, o2, e1, e2, r1, r2⟩ := r.split
  cases r2 with
  | @cons w v2 _ _ ow o2 h1 h2 =>
    refine ⟨v1, w, v2, o1, ow, o2, e1, ?_, e2, r1, h1, h2⟩
    rw [r1.length, List.length_take]
    omega
theorem RMk.any (k : Key) {vs : List (Key × V)} {ms : List (Key × M)} {o : List Addr} (r : RMk K S H vs ms o) : (vs.any fun kv => decide (kv.1 = k)) = mdHas ms k := by
  have h := r.has k
  unfold valV at h
  rw [← h, Option.isSome_map, Bool.eq_iff_iff, List.find?_isSome, List.any_eq_true]
theorem RMk.snoc {vs : List (Key × V)} {ms : List (Key × M)} {o ov : List Addr} {k : Key} {v : V} {m : M} : RMk K S H vs ms o → RM K S H v m ov → RMk K S H (vs ++ [(k, v)]) (ms ++ [(k, m)]) (o ++ ov)
  | .nil, h => by have := RMk.cons (k := k) h (RMk.nil (K := K) (S := S) (H := H)); rw [List.append_nil] at this; exact this
  | .cons h0 r, h => by rw [List.append_assoc]; exact .cons h0 (RMk.snoc r h)
theorem RMk.repl {k : Key} {v : V} {d : PyData} (h : RV K S H v d) : ∀ {vs : List (Key × V)} {ms : List (Key × M)} {o : List Addr}, RMk K S H vs ms o → ∃ o', o'.Sublist o ∧ RMk K S H (vs.map fun kv => if kv.1 = k then (kv.1, v) else kv) (ms.map fun p => if p.1 = k then (p.1, M.im d) else p) o'
  | _, _, _, .nil => ⟨[], .refl _, .nil⟩
  | _, _, _, .cons (k := k0) (os := o1) (os' := o2) h0 r => by
    obtain ⟨o', s, r'⟩ := RMk.repl h r
    by_cases e : k0 = k
    · refine ⟨[] ++ o', s.trans (List.sublist_append_right _ _), ?_⟩
      simp only [List.map_cons, e, if_true]
      exact .cons (.im h) r'
    · refine ⟨o1 ++ o', s.append_left o1, ?_⟩
      simp only [List.map_cons, e, if_false]
      exact .cons h0 r'
/-- pairs, one behind the other -/
theorem RMk.put1 {k : Key} {v : V} {d : PyData} {vs : List (Key × V)} {ms : List (Key × M)} {o : List Addr} (r : RMk K S H vs ms o) (h : RV K S H v d) : ∃ o', o'.Sublist o ∧ RMk K S H (putK vs k v) (mdPut ms k (.im d)) o' := by
  have hany := r.any k
  by_cases hh : mdHas ms k = true
  · obtain ⟨o', sub, r'⟩ := RMk.repl (k := k) h r
    refine ⟨o', sub, ?_⟩
    have e1 : putK vs k v = vs.map fun kv => if kv.1 = k then (kv.1, v) else kv := by unfold putK; rw [if_pos (by rw [hany, hh])]
    have e2 : mdPut ms k (.im d) = ms.map fun p => if p.1 = k then (p.1, M.im d) else p := by unfold mdPut; rw [if_pos hh]
    rw [e1, e2]
    exact r'
  · have hf : mdHas ms k = false := by simpa using hh
    have e1 : putK vs k v = vs ++ [(k, v)] := by unfold putK; rw [if_neg (by rw [hany, hf]; exact Bool.false_ne_true)]
    have e2 : mdPut ms k (.im d) = ms ++ [(k, .im d)] := by unfold mdPut; rw [if_neg (by rw [hf]; exact Bool.false_ne_true)]
    rw [e1, e2]
    have := r.snoc (k := k) (.im h)
    rw [List.append_nil] at this
    exact ⟨o, List.Sublist.refl _, this⟩
theorem prs_of : ∀ {ys : List M} {ps : List (Key × PyData)}, prsOf ys = some ps → ∀ {xs : List V} {o : List Addr}, RMs K S H xs ys o → ∃ qs : List (Key × V), o = [] ∧ PrV K H xs qs ∧ qs.length = ps.length ∧ ∀ {vs : List (Key × V)} {ms : List (Key × M)} {o1 : List Addr}, RMk K S H vs ms o1 → ∃ o', o'.Sublist o1 ∧ RMk K S H (putKs vs qs) (mdPuts ms ps) o'
  | [], _, e, _, _, r => by
    cases e
    cases r
    exact ⟨[], rfl, .nil, rfl, fun r => ⟨_, List.Sublist.refl _, r⟩⟩
  | m :: ys, ps, e, _, _, r => by
    unfold prsOf at e
    split at e
    · cases e; rename_i z; cases z
    · next kd vd r0 z =>
      cases z
      rw [bsi] at e
      obtain ⟨k, h1, e⟩ := e
      rw [msi] at e
      obtain ⟨ps', h2, rfl⟩ := e
      cases r with
      | cons hx hr =>
        obtain ⟨qs, e1, pr, el, put⟩ := prs_of h2 hr
        cases hx with
        | im hx =>
          cases hx with
          | tup hT nT rs =>
            cases rs with
            | cons r1 rs =>
              cases rs with
              | cons r2 rs =>
                cases rs
                have hk := D8.key_of r1 h1
                subst hk e1
                refine ⟨(k, _) :: qs, rfl, .cons hT pr, by simp [el], fun r => ?_⟩
                obtain ⟨o1, s1, r1⟩ := r.put1 (k := k) r2
                obtain ⟨o2, s2, r2⟩ := put r1
                exact ⟨o2, s2.trans s1, r2⟩
    · cases e
/-- what an operation does to what is owned -/
theorem op_RM {op : Mt} {w : V} {y : M} {A : List V} {Am : List M} {ow oA : List Addr} {y' r : M} (hy : RM K S H w y ow) (hA : RMs K S H A Am oA) (nd : (ow ++ oA).Nodup) (e : mtF op y Am = some (y', r)) :
    ∃ (a : Addr) (o' : HO) (rv : V) (ow' orr : List Addr), w = .ref a ∧ a ∈ ow ∧ (∀ Q : VK, Q rv (upd H a o') → mtO K op w A H Q) ∧ (ow' ++ orr).Nodup ∧ (∀ b ∈ ow' ++ orr, b ∈ ow ++ oA) ∧ (∃ u, H a = some u ∧ Mu u) ∧
      ∀ S' : Addr → Prop, Kp S S' H (upd H a o') → (∀ b ∈ ow ++ oA, b ∉ ow' ++ orr → S' b) → RM K S' (upd H a o') w y' ow' ∧ RM K S' (upd H a o') rv r orr := by
  unfold mtF at e
  split at e
  · -- append
    next xs m =>
    split at e
    · next hz =>
      cases e
      cases hy with
      | @ml a vs _ os hD rl =>
        cases hA with
        | @cons v _ _ _ ov _ hv h0 =>
          cases h0
          simp only [List.append_nil, List.cons_append, List.nodup_cons, List.mem_append, not_or] at nd
          refine ⟨a, .lst (vs ++ [v]), .non, a :: (os ++ ov), [], rfl, by simp, fun Q q => ⟨a, vs, v, rfl, rfl, hD, by rw [rl.length]; exact hz, q⟩, ?_, fun b hb => by simpa using hb, ⟨_, hD, trivial⟩, fun S' k hs => ⟨?_, .im .non⟩⟩
          · simpa using nd
          · refine .ml upd_same ?_
            have r1 := rl.kp k fun b hb => upd_ne (fun z => nd.1.1 (z ▸ hb))
            have r2 := hv.kp k fun b hb => upd_ne (fun z => nd.1.2 (z ▸ hb))
            have := r1.append (.cons r2 .nil)
            rw [List.append_nil] at this
            exact this
    · cases e
  · -- pop
    next xs =>
    rw [msi] at e
    obtain ⟨y1, h1, e⟩ := e
    cases e
    cases hA
    cases hy with
    | @ml a vs _ os hD rl =>
      have hx : xs = xs.dropLast ++ [r] := by
        obtain ⟨ys, rfl⟩ := List.getLast?_eq_some_iff.mp h1
        simp
      rw [hx] at rl
      obtain ⟨v1, v2, o1, o2, rfl, rfl, r1, r2⟩ := rl.split
      cases r2 with
      | @cons w v2 _ _ o2 _ h2 h3 =>
        cases h3
        simp only [List.append_nil, List.nodup_cons, List.mem_append, not_or] at nd
        refine ⟨a, .lst v1, w, a :: o1, o2, rfl, by simp, fun Q q => ⟨a, v1 ++ [w], w, rfl, rfl, hD, by simp, by simpa using q⟩, ?_, fun b hb => by simpa using hb, ⟨_, hD, trivial⟩, fun S' k hs => ⟨.ml upd_same ?_, ?_⟩⟩
        · simpa using nd
        · exact r1.kp k fun b hb => upd_ne (fun z => nd.1.1 (z ▸ hb))
        · exact h2.kp k fun b hb => upd_ne (fun z => nd.1.2 (z ▸ hb))
  · -- pop at
    next xs i =>
    split at e
    · next hi =>
      rw [bsi] at e
      obtain ⟨k0, h1, e⟩ := e
      rw [msi] at e
      obtain ⟨y1, h2, e⟩ := e
      cases e
      cases hA with
      | @cons iv _ _ _ oi _ hiv h0 =>
        cases h0
        obtain rfl := hiv.toInt
        have hoi : oi = [] := by cases hiv; rfl
        subst hoi
        cases hy with
        | @ml a vs _ os hD rl =>
          have hl := rl.length
          obtain ⟨v1, w, v2, o1, o2, o3, rfl, hk, rfl, r1, r2, r3⟩ := rl.at h2
          simp only [List.append_nil, List.nodup_cons, List.mem_append, not_or] at nd
          have e1 : (v1 ++ w :: v2).eraseIdx k0 = v1 ++ v2 := by
            rw [← hk, List.eraseIdx_append_of_length_le (Nat.le_refl _)]; simp
          have e2 : xs.eraseIdx k0 = xs.take k0 ++ xs.drop (k0 + 1) := by rw [List.eraseIdx_eq_take_drop_succ]
          refine ⟨a, .lst (v1 ++ v2), w, a :: (o1 ++ o3), o2, rfl, by simp, fun Q q => ⟨a, v1 ++ w :: v2, i, k0, w, rfl, rfl, hD, by have := hi.2; omega, by have := hi.1; omega, (ixN_seq (by rw [hl]; exact h1)).1, by rw [← hk]; simp, by rw [e1]; exact q⟩, ?_, fun b hb => ?_, ⟨_, hD, trivial⟩, fun S' k hs => ⟨.ml upd_same ?_, ?_⟩⟩
          · obtain ⟨⟨n1, n2, n3⟩, n4⟩ := nd
            simp only [List.nodup_append, List.mem_append] at n4
            obtain ⟨m1, ⟨m2, m3, m4⟩, m5⟩ := n4
            refine List.nodup_append.mpr ⟨List.nodup_cons.mpr ⟨by simp [n1, n3], List.nodup_append.mpr ⟨m1, m3, fun p hp q hq => m5 p hp q (.inr hq)⟩⟩, m2, fun p hp q hq z => ?_⟩
            subst z
            rcases List.mem_cons.mp hp with z | z
            · exact n2 (z ▸ hq)
            · rcases List.mem_append.mp z with z | z
              · exact m5 p z p (.inl hq) rfl
              · exact m4 p hq p z rfl
          · simp only [List.mem_append, List.mem_cons, List.append_nil] at hb ⊢
            rcases hb with (z | z | z) | z <;> simp [z]
          · rw [e2]
            exact (r1.kp k fun b hb => upd_ne (fun z => nd.1.1 (z ▸ hb))).append (r3.kp k fun b hb => upd_ne (fun z => nd.1.2.2 (z ▸ hb)))
          · exact r2.kp k fun b hb => upd_ne (fun z => nd.1.2.1 (z ▸ hb))
    · cases e
  · -- insert
    next xs i m =>
    split at e
    · next hz =>
      cases e
      cases hA with
      | @cons iv _ _ _ oi _ hiv h0 =>
        obtain rfl := hiv.toInt
        have hoi : oi = [] := by cases hiv; rfl
        subst hoi
        cases h0 with
        | @cons v _ _ _ ov _ hv h0 =>
          cases h0
          cases hy with
          | @ml a vs _ os hD rl =>
            have hl := rl.length
            have hx : xs = xs.take i.toNat ++ xs.drop i.toNat := (List.take_append_drop _ _).symm
            rw [hx] at rl
            obtain ⟨v1, v2, o1, o2, rfl, rfl, r1, r2⟩ := rl.split
            simp only [List.append_nil, List.nil_append, List.cons_append, List.nodup_cons, List.mem_append, not_or] at nd
            have e1 : (v1 ++ v2).take i.toNat = v1 := by
              by_cases hh : i.toNat ≤ xs.length
              · have : v1.length = i.toNat := by rw [r1.length, List.length_take]; omega
                rw [← this]; simp
              · have : v2 = [] := by
                  have := r2.length; rw [List.length_drop] at this
                  exact List.length_eq_zero_iff.mp (by omega)
                subst this
                rw [List.append_nil, List.take_of_length_le]
                rw [r1.length, List.length_take]; omega
            have e2 : (v1 ++ v2).drop i.toNat = v2 := by
              have := List.take_append_drop i.toNat (v1 ++ v2)
              rw [e1] at this
              exact List.append_cancel_left this
            refine ⟨a, .lst (v1 ++ [v] ++ v2), .non, a :: ((o1 ++ ov) ++ o2), [], rfl, by simp, fun Q q => ⟨a, v1 ++ v2, i, v, rfl, rfl, hD, by rw [hl]; exact hz.1, hz.2.1, by have := hz.2.2; omega, by rw [e1, e2]; exact q⟩, ?_, fun b hb => ?_, ⟨_, hD, trivial⟩, fun S' k hs => ⟨.ml upd_same ?_, .im .non⟩⟩
            · obtain ⟨⟨⟨n1, n2⟩, n3⟩, n4⟩ := nd
              simp only [List.nodup_append, List.mem_append] at n4
              obtain ⟨⟨m1, m2, m3⟩, m4, m5⟩ := n4
              rw [List.append_nil]
              refine List.nodup_cons.mpr ⟨by simp [n1, n2, n3], List.nodup_append.mpr ⟨List.nodup_append.mpr ⟨m1, m4, fun p hp q hq => m5 p (.inl hp) q hq⟩, m2, fun p hp q hq z => ?_⟩⟩
              subst z
              rcases List.mem_append.mp hp with z | z
              · exact m3 p z p hq rfl
              · exact m5 p (.inr hq) p z rfl
            · simp only [List.mem_append, List.mem_cons, List.append_nil, List.nil_append, List.cons_append] at hb ⊢
              rcases hb with z | (z | z) | z <;> simp [z]
            · have q1 := r1.kp k fun b hb => upd_ne (fun z => nd.1.1.1 (z ▸ hb))
              have q2 := r2.kp k fun b hb => upd_ne (fun z => nd.1.1.2 (z ▸ hb))
              have q3 := hv.kp k fun b hb => upd_ne (fun z => nd.1.2 (z ▸ hb))
              have q4 := (q1.append (.cons q3 .nil)).append q2
              rw [List.append_nil] at q4
              exact q4
    · cases e
  · -- l[i] = v
    next xs i m =>
    rw [msi] at e
    obtain ⟨k0, h1, e⟩ := e
    cases e
    cases hA with
    | @cons iv _ _ _ oi _ hiv h0 =>
      obtain rfl := hiv.toInt
      have hoi : oi = [] := by cases hiv; rfl
      subst hoi
      cases h0 with
      | @cons v _ _ _ ov _ hv h0 =>
        cases h0
        cases hy with
        | @ml a vs _ os hD rl =>
          have hl := rl.length
          have hk0 := (ixN_seq h1).2.1
          obtain ⟨v1, w, v2, o1, o2, o3, rfl, hk, rfl, r1, r2, r3⟩ := rl.at (List.getElem?_eq_getElem hk0)
          simp only [List.append_nil, List.nil_append, List.cons_append, List.nodup_cons, List.mem_append, not_or] at nd
          have e1 : (v1 ++ w :: v2).set k0 v = v1 ++ v :: v2 := by rw [← hk, List.set_append_right _ _ (Nat.le_refl _)]; simp
          have e2 : xs.set k0 m = xs.take k0 ++ m :: xs.drop (k0 + 1) := by rw [List.set_eq_take_append_cons_drop, if_pos hk0]
          refine ⟨a, .lst (v1 ++ v :: v2), .non, a :: (o1 ++ (ov ++ o3)), [], rfl, by simp, fun Q q => ⟨.int i, v, rfl, .inl ⟨a, v1 ++ w :: v2, i, k0, rfl, rfl, hD, by rw [hl]; exact h1, by rw [e1]; exact q⟩⟩, ?_, fun b hb => ?_, ⟨_, hD, trivial⟩, fun S' k hs => ⟨.ml upd_same ?_, .im .non⟩⟩
          · obtain ⟨⟨⟨n1, n2, n3⟩, n4⟩, n5⟩ := nd
            simp only [List.nodup_append, List.mem_append] at n5
            obtain ⟨⟨m1, ⟨m2, m3, m4⟩, m5⟩, m6, m7⟩ := n5
            rw [List.append_nil]
            refine List.nodup_cons.mpr ⟨by simp [n1, n3, n4], List.nodup_append.mpr ⟨m1, List.nodup_append.mpr ⟨m6, m3, fun p hp q hq z => m7 q (.inr (.inr hq)) p hp z.symm⟩, fun p hp q hq z => ?_⟩⟩
            subst z
            rcases List.mem_append.mp hq with z | z
            · exact m7 p (.inl hp) p z rfl
            · exact m5 p hp p (.inr z) rfl
          · simp only [List.mem_append, List.mem_cons, List.append_nil, List.nil_append, List.cons_append] at hb ⊢
            rcases hb with z | z | z | z <;> simp [z]
          · have q1 := r1.kp k fun b hb => upd_ne (fun z => nd.1.1.1 (z ▸ hb))
            have q2 := r3.kp k fun b hb => upd_ne (fun z => nd.1.1.2.2 (z ▸ hb))
            have q3 := hv.kp k fun b hb => upd_ne (fun z => nd.1.2 (z ▸ hb))
            rw [e2]
            exact q1.append (.cons q3 q2)
  · -- d[k] = v
    next kvs kd m =>
    rw [bsi] at e
    obtain ⟨k0, h1, e⟩ := e
    split at e
    · next hz =>
      cases e
      cases hA with
      | @cons iv _ _ _ oi _ hiv h0 =>
        have hoi : oi = [] := by cases hiv; rfl
        subst hoi
        have hkey : iv = kV k0 := by cases hiv with | im hiv => exact D8.key_of hiv h1
        subst hkey
        cases h0 with
        | @cons v _ _ _ ov _ hv h0 =>
          cases h0
          cases hy with
          | @md a vs _ os hD rl =>
            have hl := rl.length
            simp only [List.append_nil, List.nil_append, List.cons_append, List.nodup_cons, List.mem_append, not_or] at nd
            obtain ⟨⟨n1, n2⟩, n3⟩ := nd
            have rd : ∀ Q : VK, Q .non (upd H a (.dK (putK vs k0 v))) → mtO K .setIx (.ref a) [kV k0, v] H Q := fun Q q => ⟨kV k0, v, rfl, .inr ⟨a, vs, k0, rfl, rfl, hD, by rw [hl]; exact hz.1, q⟩⟩
            have hany := rl.any k0
            by_cases hh : mdHas kvs k0 = true
            · cases m with
              | im d =>
                cases hv with
                | im hv =>
                  obtain ⟨o', sub, r'⟩ := RMk.repl (k := k0) hv rl
                  rw [List.append_nil] at n3
                  refine ⟨a, .dK (putK vs k0 v), .non, a :: o', [], rfl, by simp, rd, ?_, fun b hb => ?_, ⟨_, hD, trivial⟩, fun S' k hs => ⟨?_, .im .non⟩⟩
                  · rw [List.append_nil]
                    exact List.nodup_cons.mpr ⟨fun z => n1 (sub.mem z), sub.nodup n3⟩
                  · rw [List.append_nil] at hb
                    rcases List.mem_cons.mp hb with z | z
                    · simp [z]
                    · simp [sub.mem z]
                  · have e1 : putK vs k0 v = vs.map fun kv => if kv.1 = k0 then (kv.1, v) else kv := by unfold putK; rw [if_pos (by rw [hany, hh])]
                    have e2 : mdPut kvs k0 (.im d) = kvs.map fun p => if p.1 = k0 then (p.1, M.im d) else p := by unfold mdPut; rw [if_pos hh]
                    rw [e2]
                    rw [e1] at k ⊢
                    refine .md upd_same ?_
                    exact r'.kp k fun b hb => upd_ne (fun z => n1 (sub.mem (z ▸ hb)))
              | ml _ => exact absurd hz.2 (by simp [hh, isIm])
              | md _ => exact absurd hz.2 (by simp [hh, isIm])
            · have hf : mdHas kvs k0 = false := by simpa using hh
              refine ⟨a, .dK (putK vs k0 v), .non, a :: (os ++ ov), [], rfl, by simp, rd, ?_, fun b hb => ?_, ⟨_, hD, trivial⟩, fun S' k hs => ⟨?_, .im .non⟩⟩
              · simp only [List.append_nil, List.nodup_cons, List.mem_append, not_or]
                exact ⟨⟨n1, n2⟩, n3⟩
              · simp only [List.mem_append, List.mem_cons, List.append_nil, List.nil_append, List.cons_append] at hb ⊢
                rcases hb with z | z | z <;> simp [z]
              · have e1 : putK vs k0 v = vs ++ [(k0, v)] := by unfold putK; rw [if_neg (by rw [hany, hf]; exact Bool.false_ne_true)]
                have e2 : mdPut kvs k0 m = kvs ++ [(k0, m)] := by unfold mdPut; rw [if_neg (by rw [hf]; exact Bool.false_ne_true)]
                rw [e2]
                rw [e1] at k ⊢
                refine .md upd_same ?_
                exact (rl.kp k fun b hb => upd_ne (fun z => n1 (z ▸ hb))).snoc (hv.kp k fun b hb => upd_ne (fun z => n2 (z ▸ hb)))
    · cases e
  · -- extend by a list
    next xs ys =>
    split at e
    · next hz =>
      cases e
      cases hy with
      | @ml a vs _ os hD rl =>
        cases hA with
        | @cons v _ _ _ ov _ hv h0 =>
          cases h0
          cases hv with
          | @ml b ws _ os2 hD2 rl2 =>
            simp only [List.append_nil, List.cons_append, List.nodup_cons, List.mem_append, List.mem_cons, not_or] at nd
            obtain ⟨⟨n1, n2, n3⟩, n4⟩ := nd
            refine ⟨a, .lst (vs ++ ws), .non, a :: (os ++ os2), [], rfl, by simp, fun Q q => .inl ⟨a, b, vs, ws, rfl, rfl, hD, hD2, by rw [rl.length, rl2.length]; exact hz, q⟩, ?_, fun c hc => ?_, ⟨_, hD, trivial⟩, fun S' k hs => ⟨.ml upd_same ?_, .im .non⟩⟩
            · rw [List.append_nil]
              have m := List.nodup_append.mp n4
              refine List.nodup_cons.mpr ⟨by simp [n1, n3], List.nodup_append.mpr ⟨m.1, (List.nodup_cons.mp m.2.1).2, fun p hp q hq => m.2.2 p hp q (List.mem_cons_of_mem _ hq)⟩⟩
            · simp only [List.mem_append, List.mem_cons, List.append_nil] at hc ⊢
              rcases hc with z | z | z <;> simp [z]
            · exact (rl.kp k fun b hb => upd_ne (fun z => n1 (z ▸ hb))).append (rl2.kp k fun b hb => upd_ne (fun z => n3 (z ▸ hb)))
    · cases e
  · -- extend by a tuple
    next xs ds =>
    split at e
    · next hz =>
      cases e
      cases hy with
      | @ml a vs _ os hD rl =>
        cases hA with
        | @cons v _ _ _ ov _ hv h0 =>
          cases h0
          cases hv with
          | im hv =>
            cases hv with
            | @tup b ws _ hT nT rs =>
              simp only [List.append_nil, List.nodup_cons] at nd
              have r2 := RMs.of_ims rs
              refine ⟨a, .lst (vs ++ ws), .non, a :: (os ++ []), [], rfl, by simp, fun Q q => .inr ⟨a, b, vs, ws, rfl, rfl, hD, hT, by have := r2.length; rw [List.length_map] at this; rw [rl.length, this]; exact hz, q⟩, ?_, fun c hc => ?_, ⟨_, hD, trivial⟩, fun S' k hs => ⟨.ml upd_same ?_, .im .non⟩⟩
              · simpa using nd
              · simpa using hc
              · exact (rl.kp k fun b hb => upd_ne (fun z => nd.1 (z ▸ hb))).append (r2.kp k fun b hb => nomatch hb)
    · cases e
  · -- update
    next kvs ys =>
    rw [bsi] at e
    obtain ⟨ps, h1, e⟩ := e
    split at e
    · next hz =>
      cases e
      cases hA with
      | @cons v _ _ _ ov _ hv h0 =>
        cases h0
        cases hv with
        | @ml b ws _ os2 hD2 rl2 =>
          cases hy with
          | @md a vs _ os hD rl =>
            obtain ⟨qs, e1, pr, el, put⟩ := prs_of h1 rl2
            subst e1
            obtain ⟨o', sub, r'⟩ := put rl
            simp only [List.append_nil, List.cons_append, List.nodup_cons, List.mem_append, List.mem_cons, not_or] at nd
            obtain ⟨⟨n1, n2⟩, n3⟩ := nd
            refine ⟨a, .dK (putKs vs qs), .non, a :: o', [], rfl, by simp, fun Q q => ⟨a, b, vs, ws, qs, rfl, rfl, hD, hD2, pr, by rw [rl.length, el]; exact hz, q⟩, ?_, fun c hc => ?_, ⟨_, hD, trivial⟩, fun S' k hs => ⟨.md upd_same ?_, .im .non⟩⟩
            · rw [List.append_nil]
              have m := List.nodup_append.mp n3
              exact List.nodup_cons.mpr ⟨fun z => n1 (sub.mem z), sub.nodup m.1⟩
            · rw [List.append_nil] at hc
              rcases List.mem_cons.mp hc with z | z
              · simp [z]
              · simp [sub.mem z]
            · exact r'.kp k fun b hb => upd_ne (fun z => n1 (sub.mem (z ▸ hb)))
    · cases e
  · cases e
end
end D8

namespace D8
open PySem PySem.Spec PyProof.Rows L2
/-- what stands at a path -/
def PtV (H : Hp) (root : V) (ps : List M) (w : V) : Prop := (ps = [] ∧ w = root) ∨ (∃ i a vs, ps = [mint i] ∧ root = .ref a ∧ H a = some (.lst vs) ∧ atI vs i = some w) ∨ ∃ d k a vs, ps = [.im d] ∧ D8.keyOf d = some k ∧ root = .ref a ∧ H a = some (.dK vs) ∧ valV vs k = some w
theorem RMk.atK {K : PySem.W.Frag} {S : Addr → Prop} {H : Hp} {k : Key} {y : M} : ∀ {vs : List (Key × V)} {ms : List (Key × M)} {os : List Addr}, RMk K S H vs ms os → mdGet ms k = some y → ∃ v1 w v2 m1 m2 o1 ow o2, vs = v1 ++ (k, w) :: v2 ∧ ms = m1 ++ (k, y) :: m2 ∧ os = o1 ++ (ow ++ o2) ∧ valV vs k = some w ∧ (∀ y', mdSet1 ms k y' = m1 ++ (k, y') :: m2) ∧ RMk K S H v1 m1 o1 ∧ RM K S H w y ow ∧ RMk K S H v2 m2 o2
  | _, _, _, .nil, e => by cases e
  | _, _, _, .cons (k := k') (v := v) (vs := vs) (m := m0) (ms := ms) (os := os) (os' := os') h r, e => by
    by_cases ek : k' = k
    · subst ek
      have : mdGet ((k', m0) :: ms) k' = some m0 := by simp [mdGet]
      rw [this] at e; cases e
      exact ⟨[], v, vs, [], ms, [], os, os', rfl, rfl, rfl, valV_pos rfl, fun y' => by simp [mdSet1], .nil, h, r⟩
    · have : mdGet ((k', m0) :: ms) k = mdGet ms k := by simp [mdGet, ek]
      rw [this] at e
      obtain ⟨v1, w, v2, m1, m2, o1, ow, o2, rfl, rfl, rfl, e4, e5, r1, r2, r3⟩ := RMk.atK r e
      refine ⟨(k', v) :: v1, w, v2, (k', m0) :: m1, m2, os ++ o1, ow, o2, rfl, rfl, by simp, by rw [valV_neg (show ¬ (k', v).1 = k from ek)]; exact e4, fun y' => ?_, .cons h r1, r2, r3⟩
      show (if k' = k then _ else _) = _
      rw [if_neg ek, e5]; rfl
theorem RMk.append {K : PySem.W.Frag} {S : Addr → Prop} {H : Hp} : ∀ {vs ws : List (Key × V)} {ms ns : List (Key × M)} {os os' : List Addr}, RMk K S H vs ms os → RMk K S H ws ns os' → RMk K S H (vs ++ ws) (ms ++ ns) (os ++ os')
  | _, _, _, _, _, _, .nil, r => r
  | _, _, _, _, _, _, .cons h r, r' => by rw [List.append_assoc]; exact .cons h (RMk.append r r')
section
variable {K : PySem.W.Frag} {F : Hp} {Xs : List Addr} {H H' : Hp} {σ : L2.St} {env : EnvM} {T A : List V} {Tm Am : List M}
theorem Good.op {op : Mt} {i : Nat} {ps : List M} {x x' r : M} (g : Good K F Xs H σ env (A ++ T) (Am ++ Tm)) (hA : A.length = Am.length) (hs : slot env i = some x) (e : atP (fun x => mtF op x Am) ps x = some (x', r)) :
    ∃ root w, σ[i]? = some (some root) ∧ PtV H root ps w ∧ ∀ Q : VK, (∀ rv H', Good K F Xs H' σ (env.set i (some x')) (rv :: T) (r :: Tm) → Q rv H') → mtO K op w A H Q := by
  have hi : i < env.length := (List.getElem?_eq_some_iff.mp (slot_some hs)).1
  obtain ⟨root, hr, g1⟩ := g.move hs
  refine ⟨root, ?_⟩
  obtain ⟨O1, O2, g1⟩ := g1
  obtain ⟨o, o2, rfl, rb, blk⟩ := Gd.blk (U := root :: A) (Um := x :: Am) g1 (by simp [hA])
  have nd := g1.nd
  simp only [List.nodup_append] at nd
  have nd1 := nd.2.1.1
  have fin : ∀ (rv : V) (H' : Hp), Good K F Xs H' σ (env.set i none) ([root, rv] ++ T) ([x', r] ++ Tm) → Good K F Xs H' σ (env.set i (some x')) (rv :: T) (r :: Tm) := fun rv H' g2 => by
    have g2' : Good K F Xs H' σ (env.set i none) (root :: (rv :: T)) (x' :: (r :: Tm)) := g2
    have g3 := Good.set (i := i) g2' (by simpa using hi)
    rw [set_self hr, List.set_set] at g3
    exact g3
  cases rb with
  | @cons _ _ _ _ orr oA hroot hAm =>
    unfold atP at e
    split at e
    · -- the slot itself
      obtain ⟨a, o', rv, ow', or', rfl, ha, rd, nd2, sub, mu, done⟩ := op_RM hroot hAm nd1 e
      refine ⟨.ref a, hr, .inl ⟨rfl, rfl⟩, fun Q q => rd Q (q rv _ (fin rv _ ?_))⟩
      refine blk (upd H a o') [.ref a, rv] [x', r] (ow' ++ (or' ++ [])) (fun b u eb nb => ?_) (by simpa using nd2) (fun b hb => .inl (sub b (by simpa using hb))) fun S' k fr ow => ?_
      · rw [upd_ne]; · exact eb
        rintro rfl; exact nb (by simp [ha])
      · obtain ⟨d1, d2⟩ := done S' k fun b hb nb => ow b hb (by simpa using nb)
        exact .cons d1 (.cons d2 .nil)
    · -- a part
      next i0 xs =>
      rw [bsi] at e
      obtain ⟨k0, h1, e⟩ := e
      rw [bsi] at e
      obtain ⟨y, h2, e⟩ := e
      rw [msi] at e
      obtain ⟨⟨y', r'⟩, h3, e⟩ := e
      cases e
      cases hroot with
      | @ml a0 vs _ os hD rl =>
        have hl := rl.length
        obtain ⟨v1, w, v2, o1, ow, o3, rfl, hk, rfl, r1, r2, r3⟩ := rl.at h2
        simp only [List.cons_append, List.nodup_cons, List.mem_append, not_or] at nd1
        obtain ⟨⟨⟨n1, n2, n3⟩, n4⟩, n5⟩ := nd1
        simp only [List.nodup_append, List.mem_append] at n5
        obtain ⟨⟨m1, ⟨m2, m3, m4⟩, m5⟩, m6, m7⟩ := n5
        obtain ⟨a, o', rv, ow', or', rfl, ha, rd, nd2, sub, mu, done⟩ := op_RM r2 hAm (List.nodup_append.mpr ⟨m2, m6, fun p hp q hq => m7 p (.inr (.inl hp)) q hq⟩) h3
        have na0 : a0 ≠ a := fun z => n2 (z ▸ ha)
        refine ⟨.ref a, hr, .inr (.inl ⟨i0, a0, _, rfl, rfl, hD, ?_⟩), fun Q q => rd Q (q rv _ (fin rv _ ?_))⟩
        · unfold atI
          rw [show (v1 ++ V.ref a :: v2).length = xs.length from hl, h1, Option.bind_some, ← hk]
          simp
        · rw [List.nodup_append] at nd2
          obtain ⟨q1, q2, q3⟩ := nd2
          have s1 : ∀ b ∈ ow', b ∈ ow ∨ b ∈ oA := fun b hb => by have := sub b (by simp [hb]); simpa using this
          have s2 : ∀ b ∈ or', b ∈ ow ∨ b ∈ oA := fun b hb => by have := sub b (by simp [hb]); simpa using this
          refine blk (upd H a o') [.ref a0, rv] [.ml (xs.set k0 y'), r'] ((a0 :: (o1 ++ (ow' ++ o3))) ++ (or' ++ [])) (fun b u eb nb => ?_) ?_ (fun b hb => .inl ?_) fun S' k fr ow2 => ?_
          · rw [upd_ne]; · exact eb
            rintro rfl; exact nb (by simp [ha])
          · rw [List.append_nil]
            refine List.nodup_append.mpr ⟨List.nodup_cons.mpr ⟨fun z => ?_, List.nodup_append.mpr ⟨m1, List.nodup_append.mpr ⟨q1, m3, fun p hp q hq z => ?_⟩, fun p hp q hq z => ?_⟩⟩, q2, fun p hp q hq z => ?_⟩
            · simp only [List.mem_append] at z
              rcases z with z | z | z
              · exact n1 z
              · exact (s1 _ z).elim n2 n4
              · exact n3 z
            · subst z
              exact (s1 p hp).elim (fun y => m4 p y p hq rfl) fun y => m7 p (.inr (.inr hq)) p y rfl
            · subst z
              rcases List.mem_append.mp hq with z | z
              · exact (s1 p z).elim (fun y => m5 p hp p (.inl y) rfl) fun y => m7 p (.inl hp) p y rfl
              · exact m5 p hp p (.inr z) rfl
            · subst z
              simp only [List.mem_cons, List.mem_append] at hp
              rcases hp with z | z | z | z
              · exact (s2 p hq).elim (fun y => n2 (z ▸ y)) fun y => n4 (z ▸ y)
              · exact (s2 p hq).elim (fun y => m5 p z p (.inl y) rfl) fun y => m7 p (.inl z) p y rfl
              · exact q3 p z p hq rfl
              · exact (s2 p hq).elim (fun y => m4 p y p z rfl) fun y => m7 p (.inr (.inr z)) p y rfl
          · simp only [List.append_nil, List.mem_append, List.mem_cons] at hb ⊢
            rcases hb with (z | z | z | z) | z
            · simp [z]
            · simp [z]
            · rcases s1 b z with y | y <;> simp [y]
            · simp [z]
            · rcases s2 b z with y | y <;> simp [y]
          · obtain ⟨d1, d2⟩ := done S' k fun b hb nb => ow2 b (by simp only [List.mem_append, List.mem_cons] at hb ⊢; rcases hb with y | y <;> simp [y]) (fun z => by
              simp only [List.append_nil, List.mem_append, List.mem_cons] at z hb nb
              rcases z with (z | z | z | z) | z
              · exact hb.elim (fun y => n2 (z ▸ y)) fun y => n4 (z ▸ y)
              · exact hb.elim (fun y => m5 b z b (.inl y) rfl) fun y => m7 b (.inl z) b y rfl
              · exact nb (.inl z)
              · exact hb.elim (fun y => m4 b y b z rfl) fun y => m7 b (.inr (.inr z)) b y rfl
              · exact nb (.inr z))
            have k1 := r1.kp k fun b hb => upd_ne (fun z => m5 b hb a (.inl ha) z)
            have k3 := r3.kp k fun b hb => upd_ne (fun z => m4 a ha b hb z.symm)
            have e2 : xs.set k0 y' = xs.take k0 ++ y' :: xs.drop (k0 + 1) := by
              rw [List.set_eq_take_append_cons_drop, if_pos (List.getElem?_eq_some_iff.mp h2).1]
            rw [e2]
            refine .cons (.ml ((upd_ne na0).trans hD) ?_) (.cons d2 .nil)
            exact k1.append (.cons d1 k3)
    · -- a part of a dict
      next d0 kvs0 =>
      rw [bsi] at e
      obtain ⟨k0, h1, e⟩ := e
      rw [bsi] at e
      obtain ⟨y, h2, e⟩ := e
      rw [msi] at e
      obtain ⟨⟨y', r'⟩, h3, e⟩ := e
      cases e
      cases hroot with
      | @md a0 vs _ os hD rl =>
        obtain ⟨v1, w, v2, m1', m2', o1, ow, o3, rfl, rfl, rfl, e4, e5, r1, r2, r3⟩ := rl.atK h2
        simp only [List.cons_append, List.nodup_cons, List.mem_append, not_or] at nd1
        obtain ⟨⟨⟨n1, n2, n3⟩, n4⟩, n5⟩ := nd1
        simp only [List.nodup_append, List.mem_append] at n5
        obtain ⟨⟨m1, ⟨m2, m3, m4⟩, m5⟩, m6, m7⟩ := n5
        obtain ⟨a, o', rv, ow', or', rfl, ha, rd, nd2, sub, mu, done⟩ := op_RM r2 hAm (List.nodup_append.mpr ⟨m2, m6, fun p hp q hq => m7 p (.inr (.inl hp)) q hq⟩) h3
        have na0 : a0 ≠ a := fun z => n2 (z ▸ ha)
        refine ⟨.ref a, hr, .inr (.inr ⟨d0, k0, a0, _, rfl, h1, rfl, hD, e4⟩), fun Q q => rd Q (q rv _ (fin rv _ ?_))⟩
        · rw [e5]
          rw [List.nodup_append] at nd2
          obtain ⟨q1, q2, q3⟩ := nd2
          have s1 : ∀ b ∈ ow', b ∈ ow ∨ b ∈ oA := fun b hb => by have := sub b (by simp [hb]); simpa using this
          have s2 : ∀ b ∈ or', b ∈ ow ∨ b ∈ oA := fun b hb => by have := sub b (by simp [hb]); simpa using this
          refine blk (upd H a o') [.ref a0, rv] [.md (m1' ++ (k0, y') :: m2'), r'] ((a0 :: (o1 ++ (ow' ++ o3))) ++ (or' ++ [])) (fun b u eb nb => ?_) ?_ (fun b hb => .inl ?_) fun S' k fr ow2 => ?_
          · rw [upd_ne]; · exact eb
            rintro rfl; exact nb (by simp [ha])
          · rw [List.append_nil]
            refine List.nodup_append.mpr ⟨List.nodup_cons.mpr ⟨fun z => ?_, List.nodup_append.mpr ⟨m1, List.nodup_append.mpr ⟨q1, m3, fun p hp q hq z => ?_⟩, fun p hp q hq z => ?_⟩⟩, q2, fun p hp q hq z => ?_⟩
            · simp only [List.mem_append] at z
              rcases z with z | z | z
              · exact n1 z
              · exact (s1 _ z).elim n2 n4
              · exact n3 z
            · subst z
              exact (s1 p hp).elim (fun y => m4 p y p hq rfl) fun y => m7 p (.inr (.inr hq)) p y rfl
            · subst z
              rcases List.mem_append.mp hq with z | z
              · exact (s1 p z).elim (fun y => m5 p hp p (.inl y) rfl) fun y => m7 p (.inl hp) p y rfl
              · exact m5 p hp p (.inr z) rfl
            · subst z
              simp only [List.mem_cons, List.mem_append] at hp
              rcases hp with z | z | z | z
              · exact (s2 p hq).elim (fun y => n2 (z ▸ y)) fun y => n4 (z ▸ y)
              · exact (s2 p hq).elim (fun y => m5 p z p (.inl y) rfl) fun y => m7 p (.inl z) p y rfl
              · exact q3 p z p hq rfl
              · exact (s2 p hq).elim (fun y => m4 p y p z rfl) fun y => m7 p (.inr (.inr z)) p y rfl
          · simp only [List.append_nil, List.mem_append, List.mem_cons] at hb ⊢
            rcases hb with (z | z | z | z) | z
            · simp [z]
            · simp [z]
            · rcases s1 b z with y | y <;> simp [y]
            · simp [z]
            · rcases s2 b z with y | y <;> simp [y]
          · obtain ⟨d1, d2⟩ := done S' k fun b hb nb => ow2 b (by simp only [List.mem_append, List.mem_cons] at hb ⊢; rcases hb with y | y <;> simp [y]) (fun z => by
              simp only [List.append_nil, List.mem_append, List.mem_cons] at z hb nb
              rcases z with (z | z | z | z) | z
              · exact hb.elim (fun y => n2 (z ▸ y)) fun y => n4 (z ▸ y)
              · exact hb.elim (fun y => m5 b z b (.inl y) rfl) fun y => m7 b (.inl z) b y rfl
              · exact nb (.inl z)
              · exact hb.elim (fun y => m4 b y b z rfl) fun y => m7 b (.inr (.inr z)) b y rfl
              · exact nb (.inr z))
            have k1 := r1.kp k fun b hb => upd_ne (fun z => m5 b hb a (.inl ha) z)
            have k3 := r3.kp k fun b hb => upd_ne (fun z => m4 a ha b hb z.symm)
            refine .cons (.md ((upd_ne na0).trans hD) ?_) (.cons d2 .nil)
            exact k1.append (.cons d1 k3)
    · cases e
end
end D8

namespace D8
open PySem PySem.Spec PyProof.Rows L2
def mtT : Mt → String
  | .update => "dict"
  | _ => "list"
theorem mtF_rec {op : Mt} {x : M} {as : List M} {r : M × M} (h : mtF op x as = some r) (ho : op ≠ .setIx) : recOk op x = true := by
  unfold mtF at h
  split at h
  all_goals first
    | rfl
    | exact absurd rfl ho
    | cases h
theorem rec_ty {K : PySem.W.Frag} {S : Addr → Prop} {H : Hp} {op : Mt} {w : V} {x : M} {o : List Addr} (r : RM K S H w x o) (h : recOk op x = true) : tyV K (mtT op) w H := by
  cases r with
  | im _ => cases op <;> cases h
  | ml hD _ => cases op <;> first | cases h; done | exact .inl ⟨rfl, _, SqL.of hD⟩
  | md hD _ => cases op <;> first | cases h; done | exact .inr (.inr (.inl ⟨rfl, .inl ⟨_, hD⟩⟩))
section
variable {K : PySem.W.Frag} {F : Hp} {Xs : List Addr} {H H' : Hp} {σ : L2.St} {env : EnvM} {T A : List V} {Tm Am : List M} {Γ : Gam}
theorem Good.pt {op : Mt} {i : Nat} {ps as : List M} {x : M} {r : M × M} (g : Good K F Xs H σ env T Tm) (hs : slot env i = some x) (e : atP (fun x => mtF op x as) ps x = some r) : ∃ root w, σ[i]? = some (some root) ∧ PtV H root ps w ∧ (op ≠ .setIx → tyV K (mtT op) w H) := by
  obtain ⟨O1, O2, g⟩ := g
  obtain ⟨root, o, hr, rm⟩ := g.slot hs
  refine ⟨root, ?_⟩
  unfold atP at e
  split at e
  · refine ⟨root, hr, .inl ⟨rfl, rfl⟩, fun ho => ?_⟩
    exact rec_ty rm (mtF_rec e ho)
  · next i0 xs =>
    rw [bsi] at e
    obtain ⟨k0, h1, e⟩ := e
    rw [bsi] at e
    obtain ⟨y, h2, e⟩ := e
    rw [msi] at e
    obtain ⟨q, h3, _⟩ := e
    cases rm with
    | @ml a0 vs _ os hD rl =>
      have hl := rl.length
      obtain ⟨v1, w, v2, o1, ow, o3, rfl, hk, rfl, r1, r2, r3⟩ := rl.at h2
      refine ⟨w, hr, .inr (.inl ⟨i0, a0, _, rfl, rfl, hD, ?_⟩), fun ho => ?_⟩
      · unfold atI
        rw [show (v1 ++ w :: v2).length = xs.length from hl, h1, Option.bind_some, ← hk]
        simp
      · exact rec_ty r2 (mtF_rec h3 ho)
  · next d0 kvs0 =>
    rw [bsi] at e
    obtain ⟨k0, h1, e⟩ := e
    rw [bsi] at e
    obtain ⟨y, h2, e⟩ := e
    rw [msi] at e
    obtain ⟨q, h3, _⟩ := e
    cases rm with
    | @md a0 vs _ os hD rl =>
      obtain ⟨v1, w, v2, m1', m2', o1, ow, o3, rfl, rfl, rfl, e4, e5, r1, r2, r3⟩ := rl.atK h2
      exact ⟨w, hr, .inr (.inr ⟨d0, k0, a0, _, rfl, h1, rfl, hD, e4⟩), fun ho => rec_ty r2 (mtF_rec h3 ho)⟩
  · cases e
theorem PtV.inj {root w w' : V} {ps : List M} (h : PtV H root ps w) (sm : Same H H') (h' : PtV H' root ps w') : w = w' := by
  rcases h with ⟨rfl, rfl⟩ | ⟨i, a, vs, rfl, rfl, hD, e⟩ | ⟨d, k, a, vs, rfl, hk, rfl, hD, e⟩
  · rcases h' with ⟨_, rfl⟩ | ⟨i, a, vs, e, _⟩ | ⟨d, k, a, vs, e, _⟩
    · rfl
    · cases e
    · cases e
  · rcases h' with ⟨e, _⟩ | ⟨i', a', vs', e1, e2, hD', e'⟩ | ⟨d, k, a', vs', e1, hk, e2, hD', e'⟩
    · cases e
    · cases e1; cases e2
      have := sm _ _ hD
      rw [hD'] at this
      cases this
      rw [e] at e'
      exact Option.some.inj e'
    · cases e2
      have := sm _ _ hD
      rw [hD'] at this
      cases this
  · rcases h' with ⟨e, _⟩ | ⟨i', a', vs', e1, e2, hD', e'⟩ | ⟨d', k', a', vs', e1, hk', e2, hD', e'⟩
    · cases e
    · cases e2
      have := sm _ _ hD
      rw [hD'] at this
      cases this
    · cases e1; cases e2
      rw [hk] at hk'
      cases hk'
      have := sm _ _ hD
      rw [hD'] at this
      cases this
      rw [e] at e'
      exact Option.some.inj e'
/-! ### quiet values -/
def TQ1 (K : PySem.W.Frag) (Γ : Gam) (e : E) : TE := fun σ H Q => ∃ F Xs T Tm env m env', Good K F Xs H σ env T Tm ∧ evalE Γ e (frzE env) = some (m, env') ∧ clean m.fz = true ∧ ∀ v H', Same H H' → Good K F Xs H' σ env (v :: T) (.im m.fz :: Tm) → Q v H'
def TQs (K : PySem.W.Frag) (Γ : Gam) (es : Es) : TA := fun σ H Q => ∃ F Xs T Tm env ms, Good K F Xs H σ env T Tm ∧ evalQs Γ es (frzE env) = some ms ∧ ∀ vs H', vs.length = ms.length → Same H H' → Good K F Xs H' σ env (vs ++ T) (ms ++ Tm) → Q vs H'
theorem TQ1_of {e : E} (σ : L2.St) (H : Hp) (Q : VK) (h : TQ1 K Γ e σ H Q) : TEe K Γ e σ H Q := by
  obtain ⟨F, Xs, T, Tm, env, m, env', g, ev, hc, q⟩ := h
  exact TEe_quiet _ _ _ ⟨F, Xs, T, Tm, env, m, env', g, ev, fun v H' sm g' rv => q v H' sm (g'.pushC fun S => RV.clean (fun _ _ e _ => e) hc rv)⟩
end
section
variable {X : Cx} {U : Sur} {Γ : Gam} {sc : Scope}
theorem Same.trans {A B C : Hp} (h : Same A B) (h' : Same B C) : Same A C := fun a o e => h' a o (h a o e)
theorem pa_Qs : ∀ {es : List Expr} {cs : List E}, Fa2 (OkE X Γ) es cs → (∀ e ∈ es, ∀ r, starEach (e :: r) X.env = (false, eval e X.env) :: starEach r X.env) → PA X es (TQs X.K Γ (Es.ofL cs))
  | _, _, .nil, _ => PA.weak pa_nil fun σ H Q ⟨F, Xs, T, Tm, env, ms, g, ev, q⟩ => by
    simp only [Es.ofL, evalQs, Option.some.injEq] at ev
    subst ev
    exact q [] H rfl (fun _ _ e => e) g
  | _, _, .cons (a := e) (b := c) (l₁ := es) (l₂ := cs) h r, hs => by
    have ih := pa_Qs r fun e he => hs e (List.mem_cons_of_mem _ he)
    refine PA.weak (pa_cons (PE.weak h.v TQ1_of) ih (hs e List.mem_cons_self es)) fun σ H Q ⟨F, Xs, T, Tm, env, ms, g, ev, q⟩ => ?_
    have ev : (evalE Γ c (frzE env)).bind (fun r => if clean r.1.fz = true then (evalQs Γ (Es.ofL cs) (frzE env)).map fun q => (.im r.1.fz :: q) else none) = some ms := ev
    rw [bsi] at ev
    obtain ⟨⟨m, e1⟩, h1, ev⟩ := ev
    split at ev
    · next hc =>
      rw [msi] at ev
      obtain ⟨ns, h2, rfl⟩ := ev
      refine ⟨F, Xs, T, Tm, env, m, e1, g, h1, hc, fun v H1 sm g1 => ⟨F, Xs, v :: T, .im m.fz :: Tm, env, ns, g1, h2, fun vs H2 hl sm2 g2 => ?_⟩⟩
      exact q (v :: vs) H2 (by simp [hl]) (Same.trans sm sm2) (g2.mid hl)
    · cases ev
/-! ### the receiver -/
/-- a slot's name -/
theorem TOn {K : PySem.W.Frag} {i : Nat} {F : Hp} {Xs : List Addr} {T : List V} {Tm : List M} {env : EnvM} {x : M} {root : V} {σ : L2.St} {H : Hp} {Q : VK} (g : Good K F Xs H σ env T Tm) (hs : slot env i = some x) (hr : σ[i]? = some (some root)) (q : Q root H) (hQ : ∀ v H', v = root → Good K F Xs H' σ env T Tm → Q v H') : TOe K Γ (.nm i) σ H Q := by
  refine ⟨F, Xs, T, Tm, env, .sl i, env, g, by simp [evalO, hs], fun v H1 U Um r g1 => ?_⟩
  cases r with
  | sl h1 h2 =>
    cases h2
    rw [hr] at h1
    cases h1
    exact hQ _ H1 rfl g1
/-- which method -/
structure MtK (name : Str) (n : Nat) (op : Mt) (id : String) : Prop where
  sl : Slot (mtT op) name id
  pa : PlainAttrs (mtT op)
  ty : typeOf (.builtin id) = pure (.type "method_descriptor")
  r : ∀ X : Cx, X.calm = true → MtR X id (mtO X.K op)
theorem mt_ok {m : Str} {n : Nat} {op : Mt} (h : mutP m n = some op) : (∃ id, MtK m n op id ∧ ((op = .pop0 ∧ n = 0) ∨ (op ≠ .pop0 ∧ 0 < n ∧ n ≤ 2)) ∧ op ≠ .setIx) ∨ ∀ x as, mtF op x as = none := by
  unfold mutP at h
  split at h
  · next e => obtain ⟨rfl, rfl⟩ := e; cases h; exact .inl ⟨_, ⟨PySem.F.slot_list_append, PySem.F.plainAttrs_list, PySem.F.type_list_append, fun X _ => mt_append⟩, .inr ⟨by decide, by decide, by decide⟩, by decide⟩
  split at h
  · next e => obtain ⟨rfl, rfl⟩ := e; cases h; exact .inl ⟨_, ⟨PySem.F.slot_list_extend, PySem.F.plainAttrs_list, PySem.F.type_list_extend, fun X _ => MtR.or mt_extend mt_extT⟩, .inr ⟨by decide, by decide, by decide⟩, by decide⟩
  split at h
  · next e => obtain ⟨rfl, rfl⟩ := e; cases h; exact .inl ⟨_, ⟨PySem.F.slot_list_pop, PySem.F.plainAttrs_list, PySem.F.type_list_pop, fun X _ => mt_pop⟩, .inl ⟨rfl, rfl⟩, by decide⟩
  split at h
  · next e => obtain ⟨rfl, rfl⟩ := e; cases h; exact .inl ⟨_, ⟨PySem.F.slot_list_pop, PySem.F.plainAttrs_list, PySem.F.type_list_pop, fun X _ => mt_popAt⟩, .inr ⟨by decide, by decide, by decide⟩, by decide⟩
  split at h
  · next e => obtain ⟨rfl, rfl⟩ := e; cases h; exact .inl ⟨_, ⟨PySem.F.slot_list_insert, PySem.F.plainAttrs_list, PySem.F.type_list_insert, fun X _ => mt_insert⟩, .inr ⟨by decide, by decide, by decide⟩, by decide⟩
  split at h
  · next e => cases h; exact .inr fun x as => by cases x <;> rfl
  split at h
  · next e => obtain ⟨rfl, rfl⟩ := e; cases h; exact .inl ⟨_, ⟨PySem.F.slot_dict_update, PySem.F.plainAttrs_dict, PySem.F.type_dict_update, fun X hc => mt_upd hc⟩, .inr ⟨by decide, by decide, by decide⟩, by decide⟩
  · cases h
/-- the call itself -/
theorem base_ok {o : Expr} {m : Str} {env : Env} (hn : nmSub o = true) : attributeBase o m env (eval o env) = eval o env := by
  cases o <;> first | rfl | cases hn
theorem mt_call0 {o : Expr} {m : Str} {ap cp : Pos} {n : Nat} {op : Mt} {id : String} {to : TE} (k : MtK m n op id) (hcalm : X.calm = true) (hl : (ap.endLine == cp.line) = true) (hn : nmSub o = true) (ho : PE X o to) : PE X (.Call (.Attribute o m ap) [] [] cp) (tBM0 X.K (mtT op) (mtO X.K op) to) :=
  pe_bm0 k.pa k.sl k.ty (k.r X hcalm) ho (base_ok hn) hl
theorem mt_call {o : Expr} {m : Str} {ap cp : Pos} {e : Expr} {es : List Expr} {n : Nat} {op : Mt} {id : String} {to : TE} {t : TA} (k : MtK m n op id) (hcalm : X.calm = true) (hl : (ap.endLine == cp.line) = true) (hn : nmSub o = true) (ho : PE X o to) (ha : PA X (e :: es) t) (pl : Plain X.env (e :: es)) (pr : Plain X.env es) (hlen : (e :: es).length ≤ 2) :
    PE X (.Call (.Attribute o m ap) (e :: es) [] cp) (tBM X.K (mtT op) (mtO X.K op) to t) := by
  refine pe_bm k.pa k.sl k.ty (k.r X hcalm) ho ha (base_ok hn) ?_ hl (pl.cons pr) (pr.any cp)
  rw [pl.all]
  simp only [List.length_cons] at hlen
  simp [keywordEach, backToKw]
  omega
theorem PE.no {e : Expr} {t : TE} (h : ∀ σ H Q, ¬ t σ H Q) : PE X e t := ⟨fun pins s σ H Q I q => (h _ _ _ q).elim⟩
theorem okMt (hcalm : X.calm = true) {o : Expr} {m : Str} {ap cp : Pos} {es : List Expr} {cs : List E} {op : Mt} {i : Nat} (hm : mutP m cs.length = some op) (hl : (ap.endLine == cp.line) = true) (hn : nmSub o = true) (ho : OkE X Γ o (.nm i)) (ha : OkEs X Γ es cs) (pr : ∀ e r, es = e :: r → Plain X.env r) :
    PE X (.Call (.Attribute o m ap) es [] cp) (TEe X.K Γ (.mt op i (Es.ofL cs))) := by
  have inv : ∀ {env env' : EnvM} {r : M}, evalE Γ (.mt op i (Es.ofL cs)) env = some (r, env') → ∃ x0 ms env1 x x', slot env i = some x0 ∧ recOk op x0 = true ∧ evalVs Γ (Es.ofL cs) env = some (ms, env1) ∧ slot env1 i = some x ∧ mtF op x ms = some (x', r) ∧ env' = env1.set i (some x') := fun {env env' r} ev => by
    unfold evalE at ev
    rw [bsi] at ev
    obtain ⟨x0, h0, ev⟩ := ev
    split at ev
    · cases ev
    · next h1 =>
      rw [bsi] at ev
      obtain ⟨⟨ms, env1⟩, h2, ev⟩ := ev
      rw [bsi] at ev
      obtain ⟨x, h3, ev⟩ := ev
      rw [msi] at ev
      obtain ⟨⟨x', r'⟩, h4, h5⟩ := ev
      cases h5
      exact ⟨x0, ms, env1, x, x', h0, by simpa using h1, h2, h3, h4, rfl⟩
  rcases mt_ok hm with ⟨id, k, hc, hns⟩ | hno
  · have hlen := ha.each.length
    have core : ∀ {F : Hp} {Xs : List Addr} {T : List V} {Tm ms : List M} {env1 : EnvM} {x x' r : M} {σ : L2.St} {H : Hp} {Q : VK} {root : V} {vs : List V}, Good X.K F Xs H σ env1 (vs ++ T) (ms ++ Tm) → vs.length = ms.length → slot env1 i = some x → mtF op x ms = some (x', r) → σ[i]? = some (some root) →
        (∀ v H', Good X.K F Xs H' σ (env1.set i (some x')) (v :: T) (r :: Tm) → Q v H') → mtO X.K op root vs H Q := fun {F Xs T Tm ms env1 x x' r σ H Q root vs} g hv hs e hr q => by
      obtain ⟨root', w, hr', pt, fin⟩ := Good.op (ps := []) g hv hs e
      rw [hr] at hr'
      cases hr'
      rcases pt with ⟨_, rfl⟩ | ⟨_, _, _, z, _⟩ | ⟨_, _, _, _, z, _⟩
      · exact fin Q q
      · cases z
      · cases z
    have ty : ∀ {F : Hp} {Xs : List Addr} {T : List V} {Tm : List M} {env : EnvM} {x0 : M} {σ : L2.St} {H : Hp}, Good X.K F Xs H σ env T Tm → slot env i = some x0 → recOk op x0 = true → ∃ root, σ[i]? = some (some root) ∧ tyV X.K (mtT op) root H := fun {F Xs T Tm env x0 σ H} g hs hml => by
      obtain ⟨O1, O2, g⟩ := g
      obtain ⟨root, o, hr, rm⟩ := g.slot hs
      exact ⟨_, hr, rec_ty rm hml⟩
    cases es with
    | nil =>
      have hcs : cs = [] := by cases ha.each; rfl
      subst hcs
      refine PE.weak (mt_call0 k hcalm hl hn ho.o) fun σ H Q ⟨F, Xs, T, Tm, env, m, env', g, ev, q⟩ => ?_
      obtain ⟨x0, ms, env1, x, x', h0, h1, h2, h3, h4, rfl⟩ := inv ev
      cases h2
      obtain ⟨root, hr, hty⟩ := ty g h0 h1
      refine TOn g h0 hr ⟨hty, core (vs := []) (ms := []) g rfl h3 h4 hr q⟩ fun v H' e g' => ?_
      subst e
      obtain ⟨root2, hr2, hty2⟩ := ty g' h0 h1
      rw [hr] at hr2; cases hr2
      exact ⟨hty2, core (vs := []) (ms := []) g' rfl h3 h4 hr q⟩
    | cons e es =>
      have h2 : (e :: es).length ≤ 2 := by
        rw [hlen]
        rcases hc with ⟨_, z⟩ | ⟨_, _, z⟩ <;> omega
      refine PE.weak (mt_call k hcalm hl hn ho.o ha.v ha.pl (pr e es rfl) h2) fun σ H Q ⟨F, Xs, T, Tm, env, m, env', g, ev, q⟩ => ?_
      obtain ⟨x0, ms, env1, x, x', h0, h1, h2, h3, h4, rfl⟩ := inv ev
      obtain ⟨root, hr, hty⟩ := ty g h0 h1
      have go : ∀ H', Good X.K F Xs H' σ env T Tm → tyV X.K (mtT op) root H' ∧ TVs X.K Γ (Es.ofL cs) σ H' fun xs H2 => mtO X.K op root xs H2 Q := fun H' g' => by
        obtain ⟨root2, hr2, hty2⟩ := ty g' h0 h1
        rw [hr] at hr2; cases hr2
        exact ⟨hty2, F, Xs, T, Tm, env, ms, env1, g', h2, fun vs H2 hv g2 => core g2 hv h3 h4 hr q⟩
      exact TOn g h0 hr (go H g) fun v H' e g' => by subst e; exact go H' g'
  · exact PE.no fun σ H Q ⟨F, Xs, T, Tm, env, m, env', g, ev, q⟩ => by
      obtain ⟨x0, ms, env1, x, x', h0, h1, h2, h3, h4, _⟩ := inv ev
      rw [hno] at h4; cases h4
/-- a part of a slot's list, as the receiver -/
def rIxB (K : PySem.W.Frag) : R2 := fun x y H Q => rIxL K x y H Q ∨ rIxK x y H Q
theorem rec_ix {a b : Expr} {B : E} {i : Nat} {p : Pos} (hu : X.A.units + 1 < cLine) (hs : PlainIx b) (ha : OkE X Γ a (.nm i)) (hb : OkE X Γ b B) : PE X (.Subscript a b p) (tOp (rIxB X.K) (TOe X.K Γ (.nm i)) (TQ1 X.K Γ B)) := pe_ix (ix_list.or (ix_key hu)) ha.o (PE.weak hb.v TQ1_of) hs
theorem evalQs_one {Γ : Gam} {e : E} {env : EnvM} {ps : List M} (h : evalQs Γ (Es.ofL [e]) env = some ps) : ∃ m e', evalE Γ e env = some (m, e') ∧ clean m.fz = true ∧ ps = [.im m.fz] := by
  have h : (evalE Γ e env).bind (fun r => if clean r.1.fz = true then (some []).map fun q => (M.im r.1.fz :: q) else none) = some ps := h
  rw [bsi] at h
  obtain ⟨⟨m, e1⟩, h1, h⟩ := h
  split at h
  · next hc => cases h; exact ⟨m, e1, h1, hc, rfl⟩
  · cases h
/-- the receiver's reading, from what stands at the path -/
theorem rec_w {B : E} {i : Nat} {F : Hp} {Xs : List Addr} {T : List V} {Tm : List M} {env : EnvM} {x : M} {ps as : List M} {op : Mt} {r : M × M} {σ : L2.St} {H : Hp} {Q : VK} (g : Good X.K F Xs H σ env T Tm) (hs : slot env i = some x) (hp : evalQs Γ (Es.ofL [B]) (frzE env) = some ps) (e : atP (fun x => mtF op x as) ps x = some r)
    (q : ∀ w H', Good X.K F Xs H' σ env T Tm → (∃ root, σ[i]? = some (some root) ∧ PtV H' root ps w) → (op ≠ .setIx → tyV X.K (mtT op) w H') → Q w H') : tOp (rIxB X.K) (TOe X.K Γ (.nm i)) (TQ1 X.K Γ B) σ H Q := by
  obtain ⟨m, e1, h1, hc, rfl⟩ := evalQs_one hp
  obtain ⟨root, w, hr, pt, ty⟩ := g.pt hs e
  have go : ∀ H', Good X.K F Xs H' σ env T Tm → TQ1 X.K Γ B σ H' fun y H2 => rIxB X.K root y H2 Q := fun H' g' => by
    refine ⟨F, Xs, T, Tm, env, m, e1, g', h1, hc, fun kv H2 sm2 g2 => ?_⟩
    obtain ⟨root2, w2, hr2, pt2, ty2⟩ := g2.pop.pt hs e
    rw [hr] at hr2
    cases hr2
    rcases pt2 with ⟨z, _⟩ | ⟨j, a, vs, z, rfl, hD, hat⟩ | ⟨d, k, a, vs, z, hk, rfl, hD, hat⟩
    · cases z
    · have hkv : kv = .int j := by
        obtain ⟨O1, O2, g3⟩ := id g2
        have := g3.rt
        injection z with z _
        rw [z] at this
        cases this with
        | cons h _ => exact h.toInt
      exact .inl ⟨a, vs, j, w2, rfl, hkv, SqL.of hD, hat, q w2 H2 g2.pop ⟨_, hr, .inr (.inl ⟨j, a, vs, z, rfl, hD, hat⟩)⟩ ty2⟩
    · have hkv : kv = kV k := by
        obtain ⟨O1, O2, g3⟩ := id g2
        have := g3.rt
        injection z with z _
        rw [z] at this
        cases this with
        | cons h _ => cases h with
          | im hv => exact key_of hv hk
      exact .inr ⟨a, vs, k, w2, rfl, hkv, .inl hD, hat, q w2 H2 g2.pop ⟨_, hr, .inr (.inr ⟨d, k, a, vs, z, hk, rfl, hD, hat⟩)⟩ ty2⟩
  exact TOn g hs hr (go H g) fun v H' e g' => by subst e; exact go H' g'
theorem okMp (hu : X.A.units + 1 < cLine) (hcalm : X.calm = true) {a b : Expr} {B : E} {m : Str} {ap cp p : Pos} {es : List Expr} {cs : List E} {op : Mt} {i : Nat} (hm : mutP m cs.length = some op) (hl : (ap.endLine == cp.line) = true) (hs : PlainIx b) (ho : OkE X Γ a (.nm i)) (hb : OkE X Γ b B) (ha : OkEs X Γ es cs) (pr : ∀ e r, es = e :: r → Plain X.env r)
    (hst : ∀ e ∈ es, ∀ r, starEach (e :: r) X.env = (false, eval e X.env) :: starEach r X.env) : PE X (.Call (.Attribute (.Subscript a b p) m ap) es [] cp) (TEe X.K Γ (.mp op i (Es.ofL [B]) (Es.ofL cs))) := by
  have inv : ∀ {env env' : EnvM} {r : M}, evalE Γ (.mp op i (Es.ofL [B]) (Es.ofL cs)) env = some (r, env') → ∃ ps as x x', evalQs Γ (Es.ofL [B]) (frzE env) = some ps ∧ evalQs Γ (Es.ofL cs) (frzE env) = some as ∧ slot env i = some x ∧ atP (fun x => mtF op x as) ps x = some (x', r) ∧ env' = env.set i (some x') := fun {env env' r} ev => by
    unfold evalE at ev
    rw [bsi] at ev
    obtain ⟨ps, h0, ev⟩ := ev
    rw [bsi] at ev
    obtain ⟨as, h1, ev⟩ := ev
    rw [bsi] at ev
    obtain ⟨x, h2, ev⟩ := ev
    rw [msi] at ev
    obtain ⟨⟨x', r'⟩, h4, h5⟩ := ev
    cases h5
    exact ⟨ps, as, x, x', h0, h1, h2, h4, rfl⟩
  rcases mt_ok hm with ⟨id, k, hc, hns⟩ | hno
  · have hlen := ha.each.length
    have fin : ∀ {F : Hp} {Xs : List Addr} {T : List V} {Tm as : List M} {ps : List M} {env : EnvM} {x x' r : M} {σ : L2.St} {H1 H2 : Hp} {Q : VK} {w : V} {vs : List V}, Same H1 H2 → Good X.K F Xs H2 σ env (vs ++ T) (as ++ Tm) → vs.length = as.length → slot env i = some x → atP (fun x => mtF op x as) ps x = some (x', r) → (∃ root, σ[i]? = some (some root) ∧ PtV H1 root ps w) →
        (∀ v H', Good X.K F Xs H' σ (env.set i (some x')) (v :: T) (r :: Tm) → Q v H') → mtO X.K op w vs H2 Q := fun {F Xs T Tm as ps env x x' r σ H1 H2 Q w vs} sm g hv hs e ⟨root, hr, pt⟩ q => by
      obtain ⟨root', w', hr', pt', fin⟩ := Good.op g hv hs e
      rw [hr] at hr'
      cases hr'
      have := pt.inj sm pt'
      subst this
      exact fin Q q
    cases es with
    | nil =>
      have hcs : cs = [] := by cases ha.each; rfl
      subst hcs
      refine PE.weak (mt_call0 k hcalm hl rfl (rec_ix (p := p) hu hs ho hb)) fun σ H Q ⟨F, Xs, T, Tm, env, m, env', g, ev, q⟩ => ?_
      obtain ⟨ps, as, x, x', h0, h1, h2, h3, rfl⟩ := inv ev
      cases h1
      exact rec_w g h2 h0 h3 fun w H' g' pt ty => ⟨ty hns, fin (vs := []) (as := []) (fun _ _ e => e) g' rfl h2 h3 pt q⟩
    | cons e es =>
      have h2 : (e :: es).length ≤ 2 := by
        rw [hlen]
        rcases hc with ⟨_, z⟩ | ⟨_, _, z⟩ <;> omega
      refine PE.weak (mt_call k hcalm hl rfl (rec_ix (p := p) hu hs ho hb) (pa_Qs ha.each hst) ha.pl (pr e es rfl) h2) fun σ H Q ⟨F, Xs, T, Tm, env, m, env', g, ev, q⟩ => ?_
      obtain ⟨ps, as, x, x', h0, h1, h2, h3, rfl⟩ := inv ev
      exact rec_w g h2 h0 h3 fun w H' g' pt ty => ⟨ty hns, F, Xs, T, Tm, env, as, g', h1, fun vs H2 hv sm g2 => fin sm g2 hv h2 h3 pt q⟩
  · exact PE.no fun σ H Q ⟨F, Xs, T, Tm, env, m, env', g, ev, q⟩ => by
      obtain ⟨ps, as, x, x', h0, h1, h2, h3, _⟩ := inv ev
      unfold atP at h3
      split at h3
      · simp [hno] at h3
      · rw [bsi] at h3
        obtain ⟨k0, _, h3⟩ := h3
        rw [bsi] at h3
        obtain ⟨y, _, h3⟩ := h3
        simp [hno] at h3
      · rw [bsi] at h3
        obtain ⟨k0, _, h3⟩ := h3
        rw [bsi] at h3
        obtain ⟨y, _, h3⟩ := h3
        simp [hno] at h3
      · cases h3
end
end D8

namespace D8
open PySem PySem.Spec PyProof.Rows L2
section
variable {prog : Program} {w : World} {A : Around} {E : Value → Shared → Prop} {s : Shared}
theorem places_rev (n : Nat) : Builtin.Slice.slicePlaces ((n : Int) - 1) (-1) (-1) = n := by
  unfold Builtin.Slice.slicePlaces
  have h1 : ¬ ((-1 : Int) > 0) := by omega
  rw [if_neg h1, show (- -1 : Int) = 1 by decide]
  by_cases h : (n : Int) - 1 > -1
  · rw [if_pos h, Int.ediv_one]; omega
  · rw [if_neg h]; omega
theorem applied_rev {sl : Addr} {t : PySem.Tok} {n : Nat} {Q : Int × Int × Nat → Shared → Prop} (hs : s.heap.IsSliceOf sl .none .none (.int (-1) t)) (h : Q ((n : Int) - 1, -1, n) s) : wpAny (model prog w) A (Builtin.Slice.sliceApplied (.ref sl) (pure (n : Int))) Q E s := by
  obtain ⟨os, hos, hcs, hds⟩ := id hs
  unfold Builtin.Slice.sliceApplied Builtin.Slice.sliceFields
  refine wpAny_bind (wpAny_bind (wpAny_field hos hds (x := .none) rfl (wpAny_bind (wpAny_field hos hds (x := .none) rfl (wpAny_bind (wpAny_field hos hds (x := .int (-1) t) rfl (wpAny_pure ?_)))))))
  refine wpAny_bind (HT.slicePart_ (.int (-1) t) ?_)
  show wpAny _ _ (if ((-1 : Int) == 0) = true then _ else _) _ _ s
  rw [if_neg (by decide)]
  refine wpAny_bind (HT.slicePart_ .none (wpAny_bind (HT.slicePart_ .none (wpAny_bind (wpAny_pure ?_)))))
  show wpAny _ _ (pure ((n : Int) - 1, (-1 : Int), Builtin.Slice.slicePlaces ((n : Int) - 1) (-1) (-1))) _ _ s
  rw [places_rev]
  exact wpAny_pure h
theorem pick_rev (xs : Array Value) : ((List.range xs.size).filterMap fun (m : Nat) => xs[((xs.size : Int) - 1 + (m : Int) * (-1)).toNat]?).toArray = xs.toList.reverse.toArray := by
  have e : (fun (m : Nat) => xs[((xs.size : Int) - 1 + (m : Int) * (-1)).toNat]?) = (fun k => xs[k]?) ∘ fun m => xs.size - 1 - m := by
    funext m
    have : ((xs.size : Int) - 1 + (m : Int) * (-1)).toNat = xs.size - 1 - m := by omega
    rw [this]; rfl
  rw [e, ← List.filterMap_map, PySem.W.krv_range, List.filterMap_reverse, PySem.W.krv_all]
theorem getItem_tuple_rev {t sl : Addr} {tk : PySem.Tok} {items : Array Value} {Q : Value → Shared → Prop} (ht : IsTup s.heap t items) (hs : s.heap.IsSliceOf sl .none .none (.int (-1) tk))
    (h : Q (.ref s.heap.objs.size) { s with heap := s.heap.push { cls := .type "tuple", data := .seq items.toList.reverse.toArray } }) (hsz : items.size ≤ sizeLine) : wpAny (model prog w) A (getItem (.ref t) (.ref sl)) Q E s := by
  have htake : sizeOk (.seq items.toList.reverse.toArray) := by
    show items.toList.reverse.toArray.size ≤ sizeLine
    rw [List.size_toArray, List.length_reverse, Array.length_toList]
    exact hsz
  obtain ⟨os, hos, hcs, hds⟩ := id hs
  have hTs : s.TypeIs (.ref sl) "slice" := ⟨os, hos, hcs⟩
  unfold getItem
  try with_reducible refine wpAny_holding ?_
  first | refine wpAny_bind (wpAny_pure ?_) | skip
  refine wpAny_bind (wpAny_sequenceKey ht.typeIs (by decide) ?_)
  refine wpAny_bind (wpAny_callSpecial?_slot (name := Str.ofString "__getitem__") ht.typeIs PyProof.Rows.slot_tuple_getitem
    (wpAny_call_entry PyProof.Rows.slot_tuple_getitem ht.typeIs entry_tuple_getitem ?_ (args_tuple_getitem _ _)))
  show wpAny _ _ (Builtin.Tuple.tupleItemsOf (.ref t) >>= _) _ _ s
  refine wpAny_bind (tupleItemsOf_ ht ?_)
  refine wpAny_bind (wpAny_typeOf hTs ?_)
  rw [if_pos (by decide)]
  refine wpAny_bind (applied_rev hs ?_)
  have hno : ¬ ((((items.size : Int) - 1) == 0 && (-1 : Int) == 1 && items.size == items.size) = true) := by simp
  show wpAny _ _ (if ((((items.size : Int) - 1) == 0 && (-1 : Int) == 1 && items.size == items.size) = true) then _ else _) _ _ s
  rw [if_neg hno, pick_rev]
  first
    | exact wpAny_bind (m := Builtin.Tuple.tupleExact _) (wpAny_newObj_type (wpAny_pure ⟨_, rfl, wpAny_pure h⟩) htake)
    | exact wpAny_bind (m := Builtin.Tuple.tupleExact _) (wpAny_newObj_type (wpAny_bind (wpAny_pure (wpAny_pure ⟨_, rfl, wpAny_pure h⟩))) htake)
    | exact wpAny_bind (wpAny_bind (m := Builtin.Tuple.tupleExact _) (wpAny_newObj_type (wpAny_pure (wpAny_pure ⟨_, rfl, wpAny_pure h⟩)) htake))
    | exact wpAny_bind (wpAny_bind (m := Builtin.Tuple.tupleExact _) (wpAny_newObj_type (wpAny_pure ⟨_, rfl, wpAny_pure h⟩) htake))
end
/-- x[::-1], a list or a tuple -/
def rRev (K : PySem.W.Frag) : V → Hp → VK → Prop := fun x H Q => ∃ a xs, x = .ref a ∧ ((SqL K H a xs ∧ ∀ p, H p = none → Q (.ref p) (L2.upd H p (.lst xs.reverse))) ∨ (SqT K H a xs ∧ ∀ p o, H p = none → o.dict = none → Q (.ref p) (L2.upd H p (tupO o xs.reverse))))
theorem pe_rev {X : Cx} {e : Expr} {te : TE} {k : Nat} {p1 p2 p3 pos : Pos} (he : PE X e te) : PE X (.Subscript e (.Slice none none (some (.UnaryOp .USub (.Constant (.int 1) k p1) p2)) p3) pos) (tUn (rRev X.K) te) := by
  refine ⟨fun pins s σ H Q I h => ?_⟩
  refine Subscript_ (thn (he.run pins s σ H _ I h) fun v s1 ⟨x, H1, I1, r1, q1⟩ => ?_)
  obtain ⟨a, xs, ex, hx⟩ := q1
  subst ex
  cases r1
  have hst : PO X (some (.UnaryOp .USub (.Constant (.int 1) k p1) p2)) (tPart (tUn (rU fun i => .int (-i)) (tC (.int 1)))) := po_some (pe_un un_neg pe_int)
  refine wpAny_Slice ?_
  rw [evalPart_none]
  refine wpAny_pure ?_
  refine wpAny_pure ?_
  refine thn (hst.run pins s1 σ H1 (fun o H4 => o = some (-1) ∧ H4 = H1) I1 ⟨1, rfl, -1, rfl, rfl, rfl⟩) fun vs s4 ⟨o, H4, I4, ps, eo, e4⟩ => ?_
  subst eo e4
  cases ps with
  | int i t =>
    have I5 : Inv X pins σ H4 { s4 with heap := s4.heap.push { cls := .type "slice", data := .fields #[.none, .none, .int (-1) t] } } := I4.kept (t' := s4.toks) fun b ob q => Heap.get?_push_of_some _ q
    rcases hx with ⟨hx, q⟩ | ⟨hx, q⟩
    · obtain ⟨its, r, ht, hz⟩ := I5.list hx
      have hlen := r.length
      show wpAny (model X.prog X.w) X.A (subscriptTail e (.Slice none none (some (.UnaryOp .USub (.Constant (.int 1) k p1) p2)) p3) (.ref a) (.ref s4.heap.objs.size)) (EP X pins σ Q) X.xe { s4 with heap := s4.heap.push { cls := .type "slice", data := .fields #[.none, .none, .int (-1) t] } }
      refine tail_any (ops := [.ref a, .ref s4.heap.objs.size]) ht.isList.typeIs (PySem.slot_list_getitem.lookup) ?_ (by with_unfolding_all rfl)
      refine wpAny_getItem_list_slice ht.isList (Heap.IsSliceOf.new _ .none .none (.int (-1) t)) .none .none (.int (-1) t) (by decide) ?_ (by rw [List.size_toArray]; omega)
      rw [PySem.W.krv_pick]
      refine ⟨.ref _, _, I5.laid (t' := s4.toks) (o := .lst xs.reverse) (fun b ob q => Heap.get?_push_of_some _ q) (Nat.le_refl _) ?_, rfl, q _ (I5.hok.fresh (Nat.le_refl _))⟩
      exact ⟨by rw [List.length_reverse]; exact hz, _, 0, r.reverse, Heap.get?_push_size _ rfl⟩
    · obtain ⟨its, r, ht, hz⟩ := I5.tuple hx
      have hlen := r.length
      show wpAny (model X.prog X.w) X.A (subscriptTail e (.Slice none none (some (.UnaryOp .USub (.Constant (.int 1) k p1) p2)) p3) (.ref a) (.ref s4.heap.objs.size)) (EP X pins σ Q) X.xe { s4 with heap := s4.heap.push { cls := .type "slice", data := .fields #[.none, .none, .int (-1) t] } }
      refine tail_any (ops := [.ref a, .ref s4.heap.objs.size]) ht.typeIs PyProof.Rows.slot_tuple_getitem.lookup ?_ (by with_unfolding_all rfl)
      refine getItem_tuple_rev ht (Heap.IsSliceOf.new _ .none .none (.int (-1) t)) ?_ (by rw [List.size_toArray]; omega)
      refine ⟨.ref _, _, I5.laid (t' := s4.toks) (o := tupO { cls := .type "tuple", data := .seq its.reverse.toArray } xs.reverse) (fun b ob q => Heap.get?_push_of_some _ q) (Nat.le_refl _) ?_, rfl, q _ _ (I5.hok.fresh (Nat.le_refl _)) rfl⟩
      exact tupO_ok (Heap.get?_push_size _ rfl) ⟨by rw [List.length_reverse]; exact hz, _, r.reverse, ⟨_, Heap.get?_push_size _ rfl, rfl, _, rfl⟩⟩
theorem okRev {X : Cx} {Γ : Gam} {e : Expr} {A : E} {k : Nat} {p1 p2 p3 pos : Pos} (ha : OkE X Γ e A) : OkE X Γ (.Subscript e (.Slice none none (some (.UnaryOp .USub (.Constant (.int 1) k p1) p2)) p3) pos) (.pr .rev (.cons A .nil)) := by
  refine .plain (fun _ z => nomatch z) (fun _ => rfl) (PE.weak (pe_rev ha.o) fun σ H Q h => ?_)
  obtain ⟨F, Xs, T, Tm, env, o, env', g, ev, q⟩ := TO_one σ H Q (TE_pr σ H Q h)
  refine ⟨F, Xs, T, Tm, env, o, env', g, ev, fun v H1 U Um r g1 => ?_⟩
  obtain ⟨S, ms, m, hS, pk, e, q⟩ := q v H1 U Um r g1
  obtain ⟨m1, rfl, o1, hr⟩ := pk.one'
  have e : revF m1 = some m := e
  unfold revF at e
  split at e
  · cases e
    obtain ⟨a, xs, rfl, hs, rv⟩ := hr.toTup
    exact ⟨a, xs, rfl, .inr ⟨hs, fun p o hp ho => q _ _ (Same.upd hp) (.tup hp ho rv.reverse)⟩⟩
  · rw [msi] at e
    obtain ⟨ds, h1, rfl⟩ := e
    obtain ⟨a, xs, rfl, hs, rv⟩ := hr.toLst h1
    exact ⟨a, xs, rfl, .inl ⟨hs.seq, fun p hp => q _ _ (Same.upd hp) (.lst hp rv.reverse hS)⟩⟩
end D8

namespace D8
open PySem PySem.Spec PyProof.Rows L2
/-! ### list(range(..)), tuple(range(..)) -/
theorem rgV_eq {a b : Int} : rgV a b = (rgI a b).map V.int := by simp [rgV, rgI]
theorem rgF_ok {a b : Int} {ds : List PyData} (h : rgF a b = some ds) : RgOk a b ∧ ds = (rgI a b).map .int := by
  unfold rgF at h
  split at h
  · next z => cases h; exact ⟨⟨by omega, by omega, by omega, by omega, by omega⟩, rfl⟩
  · cases h
theorem int_of {m : M} {n : Int} (h : int? m = some n) : m = .im (.int n) := by
  cases m with
  | im d => cases d <;> first | cases h; rfl | cases h
  | ml _ => cases h
  | md _ => cases h
section
variable {X : Cx} {U : Sur} {Γ : Gam} {sc : Scope}
theorem gl_of {x : Str} (o : Ok X U Γ sc) (hg : isGlo sc x = true) : Gl X x ∧ dbg x = false := by
  obtain ⟨h1, h2⟩ := glo_is hg
  exact ⟨by show X.env.scope.names.lookup x = _; rw [o.scp]; exact h1, h2⟩
theorem okRgL1 {p p2 pos pos2 : Pos} {a : Expr} {A : E} (o : Ok X U Γ sc) (hg : isGlo sc "list" = true) (hU : U.G.findIdx? (fun p => p.1 == ("list" : Str)) = none) (hg2 : isGlo sc "range" = true) (hU2 : U.G.findIdx? (fun p => p.1 == ("range" : Str)) = none) (ha : OkE X Γ a A) (na : starEach [a] X.env = (false, eval a X.env) :: starEach [] X.env) :
    OkE X Γ (.Call (.Name "list" p) [.Call (.Name "range" p2) [a] [] pos2] [] pos) (.pr .rgL1 (.cons A .nil)) := by
  refine .plain (fun _ z => nomatch z) (fun _ => rfl) (PE.weak (pe_listRg o.calm (gl_of o hg).1 (o.blt _ (by decide) hU) (prg_1 (gl_of o hg2).1 (o.blt _ (by decide) hU2) ha.o na)) fun σ H Q h => ?_)
  obtain ⟨F, Xs, T, Tm, env, op, env', g, ev, q⟩ := TO_one σ H Q (TE_pr σ H Q h)
  refine ⟨F, Xs, T, Tm, env, op, env', g, ev, fun v H1 U Um r g1 => ?_⟩
  obtain ⟨S, ms, m, hS, pk, e, q⟩ := q v H1 U Um r g1
  obtain ⟨m1, rfl, o1, hr⟩ := pk.one'
  have e : (int? m1).bind (fun n => (rgF 0 n).map mList) = some m := e
  rw [bsi] at e
  obtain ⟨n, e1, e⟩ := e
  rw [msi] at e
  obtain ⟨ds, e2, rfl⟩ := e
  rw [int_of e1] at hr
  obtain ⟨ok, rfl⟩ := rgF_ok e2
  refine ⟨n, hr.toInt, ok, fun p hp => q _ _ (Same.upd hp) (.lst hp ?_ hS)⟩
  rw [rgV_eq]; exact RVs.of_ints _
theorem okRgT1 {p p2 pos pos2 : Pos} {a : Expr} {A : E} (o : Ok X U Γ sc) (hg : isGlo sc "tuple" = true) (hU : U.G.findIdx? (fun p => p.1 == ("tuple" : Str)) = none) (hg2 : isGlo sc "range" = true) (hU2 : U.G.findIdx? (fun p => p.1 == ("range" : Str)) = none) (ha : OkE X Γ a A) (na : starEach [a] X.env = (false, eval a X.env) :: starEach [] X.env) :
    OkE X Γ (.Call (.Name "tuple" p) [.Call (.Name "range" p2) [a] [] pos2] [] pos) (.pr .rgT1 (.cons A .nil)) := by
  refine .plain (fun _ z => nomatch z) (fun _ => rfl) (PE.weak (pe_tupRgF o.calm (gl_of o hg).1 (o.blt _ (by decide) hU) (prg_1 (gl_of o hg2).1 (o.blt _ (by decide) hU2) ha.o na)) fun σ H Q h => ?_)
  obtain ⟨F, Xs, T, Tm, env, op, env', g, ev, q⟩ := TO_one σ H Q (TE_pr σ H Q h)
  refine ⟨F, Xs, T, Tm, env, op, env', g, ev, fun v H1 U Um r g1 => ?_⟩
  obtain ⟨S, ms, m, hS, pk, e, q⟩ := q v H1 U Um r g1
  obtain ⟨m1, rfl, o1, hr⟩ := pk.one'
  have e : (int? m1).bind (fun n => (rgF 0 n).map fun ds => M.im (.tuple ds)) = some m := e
  rw [bsi] at e
  obtain ⟨n, e1, e⟩ := e
  rw [msi] at e
  obtain ⟨ds, e2, rfl⟩ := e
  rw [int_of e1] at hr
  obtain ⟨ok, rfl⟩ := rgF_ok e2
  refine ⟨n, hr.toInt, ok, fun p od hp ho => q _ _ (Same.upd hp) (.tup hp ho ?_)⟩
  rw [rgV_eq]; exact RVs.of_ints _
theorem okRgL2 {p p2 pos pos2 : Pos} {a b : Expr} {A B : E} (o : Ok X U Γ sc) (hg : isGlo sc "list" = true) (hU : U.G.findIdx? (fun p => p.1 == ("list" : Str)) = none) (hg2 : isGlo sc "range" = true) (hU2 : U.G.findIdx? (fun p => p.1 == ("range" : Str)) = none) (ha : OkE X Γ a A) (hb : OkE X Γ b B)
    (na : ∀ es, starEach (a :: es) X.env = (false, eval a X.env) :: starEach es X.env) (nb : ∀ es, starEach (b :: es) X.env = (false, eval b X.env) :: starEach es X.env) : OkE X Γ (.Call (.Name "list" p) [.Call (.Name "range" p2) [a, b] [] pos2] [] pos) (.pr .rgL2 (.cons A (.cons B .nil))) := by
  have pl : Plain X.env [b] := by unfold Plain; rw [nb]; rfl
  refine .plain (fun _ z => nomatch z) (fun _ => rfl) (PE.weak (pe_listRg o.calm (gl_of o hg).1 (o.blt _ (by decide) hU) (prg_2 (gl_of o hg2).1 (o.blt _ (by decide) hU2) ha.o hb.o (na _) (nb _) (pl.any _))) fun σ H Q h => ?_)
  have h := TO_two σ H Q (TE_pr σ H Q h)
  obtain ⟨F, Xs, T, Tm, env, op, env', g, ev, q⟩ := h
  refine ⟨F, Xs, T, Tm, env, op, env', g, ev, fun v H1 U Um r g1 => ?_⟩
  obtain ⟨F, Xs, T, Tm, env, op, env', g, ev, q⟩ := q v H1 U Um r g1
  refine ⟨F, Xs, T, Tm, env, op, env', g, ev, fun v2 H2 U Um r g1 => ?_⟩
  obtain ⟨S, ms, m, hS, pk, e, q⟩ := q v2 H2 U Um r g1
  obtain ⟨m1, m2, rfl, ⟨o1, hr1⟩, o2, hr2⟩ := pk.two'
  have e : (int? m1).bind (fun a => (int? m2).bind fun b => (rgF a b).map mList) = some m := e
  rw [bsi] at e
  obtain ⟨i, e1, e⟩ := e
  rw [bsi] at e
  obtain ⟨j, e2, e⟩ := e
  rw [msi] at e
  obtain ⟨ds, e3, rfl⟩ := e
  rw [int_of e1] at hr1
  rw [int_of e2] at hr2
  obtain ⟨ok, rfl⟩ := rgF_ok e3
  refine ⟨i, j, hr1.toInt, hr2.toInt, ok, fun p hp => q _ _ (Same.upd hp) (.lst hp ?_ hS)⟩
  rw [rgV_eq]; exact RVs.of_ints _
theorem okRgT2 {p p2 pos pos2 : Pos} {a b : Expr} {A B : E} (o : Ok X U Γ sc) (hg : isGlo sc "tuple" = true) (hU : U.G.findIdx? (fun p => p.1 == ("tuple" : Str)) = none) (hg2 : isGlo sc "range" = true) (hU2 : U.G.findIdx? (fun p => p.1 == ("range" : Str)) = none) (ha : OkE X Γ a A) (hb : OkE X Γ b B)
    (na : ∀ es, starEach (a :: es) X.env = (false, eval a X.env) :: starEach es X.env) (nb : ∀ es, starEach (b :: es) X.env = (false, eval b X.env) :: starEach es X.env) : OkE X Γ (.Call (.Name "tuple" p) [.Call (.Name "range" p2) [a, b] [] pos2] [] pos) (.pr .rgT2 (.cons A (.cons B .nil))) := by
  have pl : Plain X.env [b] := by unfold Plain; rw [nb]; rfl
  refine .plain (fun _ z => nomatch z) (fun _ => rfl) (PE.weak (pe_tupRgF o.calm (gl_of o hg).1 (o.blt _ (by decide) hU) (prg_2 (gl_of o hg2).1 (o.blt _ (by decide) hU2) ha.o hb.o (na _) (nb _) (pl.any _))) fun σ H Q h => ?_)
  have h := TO_two σ H Q (TE_pr σ H Q h)
  obtain ⟨F, Xs, T, Tm, env, op, env', g, ev, q⟩ := h
  refine ⟨F, Xs, T, Tm, env, op, env', g, ev, fun v H1 U Um r g1 => ?_⟩
  obtain ⟨F, Xs, T, Tm, env, op, env', g, ev, q⟩ := q v H1 U Um r g1
  refine ⟨F, Xs, T, Tm, env, op, env', g, ev, fun v2 H2 U Um r g1 => ?_⟩
  obtain ⟨S, ms, m, hS, pk, e, q⟩ := q v2 H2 U Um r g1
  obtain ⟨m1, m2, rfl, ⟨o1, hr1⟩, o2, hr2⟩ := pk.two'
  have e : (int? m1).bind (fun a => (int? m2).bind fun b => (rgF a b).map fun ds => M.im (.tuple ds)) = some m := e
  rw [bsi] at e
  obtain ⟨i, e1, e⟩ := e
  rw [bsi] at e
  obtain ⟨j, e2, e⟩ := e
  rw [msi] at e
  obtain ⟨ds, e3, rfl⟩ := e
  rw [int_of e1] at hr1
  rw [int_of e2] at hr2
  obtain ⟨ok, rfl⟩ := rgF_ok e3
  refine ⟨i, j, hr1.toInt, hr2.toInt, ok, fun p od hp ho => q _ _ (Same.upd hp) (.tup hp ho ?_)⟩
  rw [rgV_eq]; exact RVs.of_ints _
/-! ### xs.index(k) -/
theorem kd0 {m : M} (h : [m].map kdM = [0]) : (∃ ds, m = .im (.list ds)) ∨ ∃ ms, m = .ml ms := by
  cases m with
  | im d => cases d <;> first | exact .inl ⟨_, rfl⟩ | simp [kdM] at h
  | ml ms => exact .inr ⟨ms, rfl⟩
  | md _ => simp [kdM] at h
theorem kd0_ty {K : PySem.W.Frag} {S : Addr → Prop} {H : Hp} {v : V} {m : M} {o : List Addr} (h : RM K S H v m o) (e : [m].map kdM = [0]) : tyV K "list" v H := by
  rcases kd0 e with ⟨ds, rfl⟩ | ⟨ms, rfl⟩
  · cases h with
    | im h => cases h with
      | lst h r => exact .inl ⟨rfl, _, h.seq⟩
  · cases h with
    | ml h r => exact .inl ⟨rfl, _, SqL.of h⟩
theorem Good.peekK {K : PySem.W.Frag} {F : Hp} {Xs : List Addr} {H : Hp} {σ : L2.St} {env : EnvM} {U T : List V} {Um Tm : List M} {xs : List V} {ops : List Op} {ms : List M} (g : Good K F Xs H σ env (U ++ T) (Um ++ Tm)) (r : D8.OpR σ xs ops U Um) (e : peek env ops = some ms) : ∃ S, PKs K S H xs ms := by
  obtain ⟨O1, O2, g⟩ := g
  obtain ⟨v1, v2, o1, o2, e1, rfl, r1, r2⟩ := g.rt.split
  obtain ⟨rfl, rfl⟩ := List.append_inj e1 (r.lenU.trans r1.length.symm)
  exact ⟨_, g.peek r r1 e⟩
theorem Good.peekP {K : PySem.W.Frag} {F : Hp} {Xs : List Addr} {H : Hp} {σ : L2.St} {env : EnvM} {U T : List V} {Um Tm : List M} {xs : List V} {ops : List Op} {ms : List M} (g : Good K F Xs H σ env (U ++ T) (Um ++ Tm)) (r : D8.OpR σ xs ops U Um) (e : peek env ops = some ms) : ∃ S, PKs K S H xs ms ∧ ∀ v d, RV K S H v d → Good K F Xs H σ env (v :: (U ++ T)) (.im d :: (Um ++ Tm)) := by
  obtain ⟨O1, O2, g⟩ := g
  obtain ⟨v1, v2, o1, o2, e1, rfl, r1, r2⟩ := g.rt.split
  obtain ⟨rfl, rfl⟩ := List.append_inj e1 (r.lenU.trans r1.length.symm)
  exact ⟨_, g.peek r r1 e, fun v d h => (g.push h).good⟩
theorem peek_snoc {env : EnvM} {op : Op} {ms : List M} {y : M} (h : peek env [op] = some ms) : peek env [op, .tm y] = some (ms ++ [y]) := by
  cases op with
  | sl i =>
    simp only [peek, bsi, msi] at h ⊢
    obtain ⟨m, h1, r, h2, rfl⟩ := h
    cases h2
    exact ⟨m, h1, [y], ⟨[], rfl, rfl⟩, rfl⟩
  | tm m =>
    simp only [peek, msi] at h ⊢
    obtain ⟨r, h2, rfl⟩ := h
    cases h2
    exact ⟨[y], ⟨[], rfl, rfl⟩, rfl⟩
theorem PE.or {e : Expr} {t1 t2 : TE} (h1 : PE X e t1) (h2 : PE X e t2) : PE X e (fun σ H Q => t1 σ H Q ∨ t2 σ H Q) := ⟨fun pins s σ H Q I h => h.elim (h1.run pins s σ H Q I) (h2.run pins s σ H Q I)⟩
theorem PE.guard {e : Expr} {t : TE} {c : Prop} (h : c → PE X e t) : PE X e (fun σ H Q => c ∧ t σ H Q) := ⟨fun pins s σ H Q I z => (h z.1).run pins s σ H Q I z.2⟩
theorem okMv {e : Expr} {c : E} (h : OkE X Γ e c) : OkE X Γ e c.asMv := by
  cases c with
  | nm i =>
    refine .noT (fun _ z => nomatch z) (fun _ => rfl) (PE.weak (PE.or h.v h.o) fun σ H Q ⟨F, Xs, T, Tm, env, m, env', g, ev, q⟩ => ?_)
    unfold E.asMv evalE at ev
    rw [bsi] at ev
    obtain ⟨m0, h1, h2⟩ := ev
    cases m0 with
    | im d => cases h2; exact .inl ⟨F, Xs, T, Tm, env, _, _, g, by simp [evalE, h1], q⟩
    | ml xs => cases h2; exact .inl ⟨F, Xs, T, Tm, env, _, _, g, by simp [evalE, h1], q⟩
    | md xs =>
      cases h2
      obtain ⟨v, hr, g2⟩ := g.move h1
      refine .inr (TOn g h1 hr (q v H g2) fun v' H' e g' => ?_)
      subst e
      obtain ⟨w, hr', g3⟩ := g'.move h1
      rw [hr] at hr'
      cases hr'
      exact q _ _ g3
  | _ => exact h
theorem kd1_ty {K : PySem.W.Frag} {S : Addr → Prop} {H : Hp} {v : V} {m : M} {o : List Addr} (h : RM K S H v m o) (e : kdM m = 1) : ∃ a xs, v = .ref a ∧ SqT K H a xs ∧ NoD K H a := by
  cases h with
  | im h => cases h with
    | tup h n r => exact ⟨_, _, rfl, h, n⟩
    | _ => cases e
  | ml h r => cases e
  | md h r => cases e
theorem two_kinds {m0 : M} (h : kOk ([m0].map kdM) = true) : kdM m0 = 0 ∨ (FZ = true ∧ kdM m0 = 1) := by
  simp only [kOk, List.map_cons, List.map_nil, Bool.or_eq_true, Bool.and_eq_true, beq_iff_eq, List.cons.injEq, and_true] at h
  exact h
theorem kd0_ty' {K : PySem.W.Frag} {S : Addr → Prop} {H : Hp} {v : V} {m : M} {o : List Addr} (h : RM K S H v m o) (e : kdM m = 0) : tyV K "list" v H := kd0_ty h (by simp [e])
/-- a method with one argument, of a list or a tuple, that tells an int -/
theorem pm_core {O A : E} {pr : Pr} {ty : V → Hp → Prop} {kd : Nat} {r : V → List V → Hp → VK → Prop} (hty : ∀ {S : Addr → Prop} {H : Hp} {v : V} {m : M} {o : List Addr}, RM X.K S H v m o → kdM m = kd → ty v H)
    (hr : ∀ {S : Addr → Prop} {H : Hp} {v w : V} {m y m' : M} {o1 o2 : List Addr}, RM X.K S H v m o1 → RM X.K S H w y o2 → kdM m = kd → prF pr [m, y] = some m' → ∃ i, m' = mint i ∧ ∀ Q : VK, Q (.int i) H → r v [w] H Q)
    {σ : L2.St} {H : Hp} {Q : VK} {F : Hp} {Xs : List Addr} {T : List V} {Tm : List M} {env env1 env' : EnvM} {m : M} {op : Op} {m0 y : M} {ms : List M} (g : Good X.K F Xs H σ env T Tm) (h1 : evalO Γ O env = some (op, env1)) (h2 : peek env1 [op] = some [m0]) (k0 : kdM m0 = kd) (h3 : evalE Γ A env1 = some (y, env')) (h4 : peek env' [op] = some ms) (k1 : ms.map kdM = [m0].map kdM) (h5 : prF pr (ms ++ [y]) = some m)
    (q : ∀ v H', Good X.K F Xs H' σ env' (v :: T) (m :: Tm) → Q v H') : TOe X.K Γ O σ H fun x H1 => ty x H1 ∧ TVs X.K Γ (Es.ofL [A]) σ H1 fun xs H2 => r x xs H2 Q := by
  refine ⟨F, Xs, T, Tm, env, op, env1, g, h1, fun v H1 U Um rr g1 => ?_⟩
  obtain ⟨S, pk⟩ := g1.peekK rr h2
  obtain ⟨m1, e1, o0, r0⟩ : ∃ m1, [m0] = [m1] ∧ ∃ o, RM X.K S H1 v m1 o := pk.one'
  cases e1
  refine ⟨hty r0 k0, F, Xs, U ++ T, Um ++ Tm, env1, [y], env', g1, by simp only [Es.ofL, evalVs, h3]; rfl, fun vs H2 hlen g2 => ?_⟩
  match vs, hlen with
  | [w], _ =>
    have rr2 : D8.OpR σ [v, w] [op, .tm y] (U ++ [w]) (Um ++ [y]) := rr.append1 (.tm .nil)
    have g3 : Good X.K F Xs H2 σ env' ((U ++ [w]) ++ T) ((Um ++ [y]) ++ Tm) := by
      cases rr with
      | sl _ h => cases h; exact g2
      | tm h => cases h; exact g2.mid (U := [w]) (Um := [y]) rfl
    obtain ⟨S2, pk2⟩ := g3.peekK rr2 (peek_snoc h4)
    obtain ⟨n1, n2, e3, ⟨o1, r1⟩, o2, r2⟩ := pk2.two'
    have e4 : ms = [n1] ∧ y = n2 := by
      have e3 : ms ++ [y] = [n1] ++ [n2] := e3
      obtain ⟨h7, h8⟩ := List.append_inj' e3 rfl
      cases h8
      exact ⟨h7, rfl⟩
    obtain ⟨rfl, rfl⟩ := e4
    have k2 : kdM n1 = kd := by simp at k1; rw [k1, k0]
    obtain ⟨i, rfl, fin⟩ := hr r1 r2 k2 h5
    exact fin Q (q _ _ ((g3.popN rr2.lenU).pushC fun S => .int _))
theorem ims_ints {m : M} {ns : List Int} (h : (m.seq?.bind intsOf) = some ns) : m.seq? = some (ns.map .int) := by
  rw [bsi] at h
  obtain ⟨ds, h1, h2⟩ := h
  rw [h1, intsOf_eq h2]
theorem seq_ints {K : PySem.W.Frag} {S : Addr → Prop} {H : Hp} {v : V} {m : M} {ns : List Int} {o : List Addr} (h : RM K S H v m o) (e : m.seq? = some (ns.map .int)) : ∃ a, v = .ref a ∧ (kdM m = 0 → SqL K H a (ns.map V.int)) ∧ (kdM m = 1 → SqT K H a (ns.map V.int)) := by
  cases h with
  | im h =>
    cases h with
    | lst h r => cases e; rw [r.ints] at h; exact ⟨_, rfl, fun _ => h.seq, fun z => (by cases z)⟩
    | @tup a xs ds h nd r =>
      have e : some ds = some (ns.map PyData.int) := e
      cases e
      rw [r.ints] at h
      exact ⟨_, rfl, fun z => (by cases z), fun _ => h⟩
    | _ => cases e
  | ml h r =>
    obtain ⟨r', _⟩ := r.ims e
    rw [r'.ints] at h
    exact ⟨_, rfl, fun _ => SqL.of h, fun z => (by cases z)⟩
  | md _ _ => cases e
theorem ix_fin {S : Addr → Prop} {H : Hp} {v w : V} {m y m' : M} {o1 o2 : List Addr} (r1 : RM X.K S H v m o1) (r2 : RM X.K S H w y o2) (e : prF .index [m, y] = some m') : ∃ (a : Addr) (k : Int) (ns : List Int), v = .ref a ∧ w = .int k ∧ k ∈ ns ∧ m' = mint (ns.idxOf k : Nat) ∧ (kdM m = 0 → SqL X.K H a (ns.map V.int)) ∧ (kdM m = 1 → SqT X.K H a (ns.map V.int)) := by
  have e : indexF m y = some m' := e
  unfold indexF at e
  rw [bsi] at e
  obtain ⟨ds, f1, e⟩ := e
  rw [bsi] at e
  obtain ⟨ns, f2, e⟩ := e
  rw [bsi] at e
  obtain ⟨k, f3, e⟩ := e
  split at e
  case isFalse => cases e
  next hk =>
  cases e
  obtain ⟨a, rfl, s0, s1⟩ := seq_ints r1 (by rw [f1, intsOf_eq f2])
  rw [int_of f3] at r2
  exact ⟨a, k, ns, rfl, r2.toInt, hk, rfl, s0, s1⟩
theorem cnt_fin {S : Addr → Prop} {H : Hp} {v w : V} {m y m' : M} {o1 o2 : List Addr} (r1 : RM X.K S H v m o1) (r2 : RM X.K S H w y o2) (e : prF .count [m, y] = some m') : ∃ (a : Addr) (k : Int) (ns : List Int), v = .ref a ∧ w = .int k ∧ m' = mint (ns.count k : Nat) ∧ (kdM m = 0 → SqL X.K H a (ns.map V.int)) ∧ (kdM m = 1 → SqT X.K H a (ns.map V.int)) := by
  have e : countF m y = some m' := e
  unfold countF at e
  rw [bsi] at e
  obtain ⟨ds, f1, e⟩ := e
  rw [bsi] at e
  obtain ⟨ns, f2, e⟩ := e
  rw [msi] at e
  obtain ⟨k, f3, rfl⟩ := e
  obtain ⟨a, rfl, s0, s1⟩ := seq_ints r1 (by rw [f1, intsOf_eq f2])
  rw [int_of f3] at r2
  exact ⟨a, k, ns, rfl, r2.toInt, rfl, s0, s1⟩
theorem few1 {a : Expr} {A : E} {cp : Pos} (ha : OkEs X Γ [a] [A]) : ((backTo cp (starEach [a] X.env)).all (fun x => !x.1) && (backToKw cp (keywordEach [] X.env)).all (fun x => x.1.isSome) && decide ([a].length + ([] : List Keyword).length + (if ([] : List Keyword).isEmpty then 0 else 1) < 30)) = true := by
  rw [ha.pl.all]
  simp [keywordEach, backToKw]
theorem peek_one {env : EnvM} {op : Op} {ms : List M} (h : peek env [op] = some ms) : ∃ m, ms = [m] := by
  cases op with
  | sl i =>
    simp only [peek, bsi, msi] at h
    obtain ⟨m, h1, r, h2, rfl⟩ := h
    cases h2
    exact ⟨m, rfl⟩
  | tm m =>
    simp only [peek, msi] at h
    obtain ⟨r, h2, rfl⟩ := h
    cases h2
    exact ⟨m, rfl⟩
theorem okIxm {ob a : Expr} {O A : E} {ap cp : Pos} (hl : (ap.endLine == cp.line) = true) (hn : nmSub ob = true) (ho : OkE X Γ ob O) (ha : OkEs X Γ [a] [A]) : OkE X Γ (.Call (.Attribute ob "index" ap) [a] [] cp) (.ixm (.cons O .nil) A) := by
  have pr : Plain X.env [] := rfl
  refine .noT (fun _ z => nomatch z) (fun _ => rfl) (PE.weak (PE.or (pe_bm PySem.F.plainAttrs_list PySem.F.slot_list_index PySem.F.type_list_index (mt_ixL (X := X)) ho.o ha.v (base_ok hn) (few1 ha) hl (ha.pl.cons pr) (pr.any cp)) (PE.guard fun z => pe_tm z PySem.F.slot_tuple_index PySem.F.type_tuple_index (mt_ixT (X := X)) ho.o ha.v (base_ok hn) (few1 ha) hl (ha.pl.cons pr) (pr.any cp))) fun σ H Q ⟨F, Xs, T, Tm, env, m, env', g, ev, q⟩ => ?_)
  unfold evalE at ev
  rw [evalOs_one, bsi] at ev
  obtain ⟨⟨ops, env1⟩, h1, ev⟩ := ev
  rw [msi] at h1
  obtain ⟨⟨op, env1'⟩, h1, h1'⟩ := h1
  cases h1'
  rw [bsi] at ev
  obtain ⟨ms0, h2, ev⟩ := ev
  split at ev
  case isFalse => cases ev
  next k0 =>
  rw [bsi] at ev
  obtain ⟨⟨y, env2⟩, h3, ev⟩ := ev
  rw [bsi] at ev
  obtain ⟨ms, h4, ev⟩ := ev
  split at ev
  case isFalse => cases ev
  next k1 =>
  rw [msi] at ev
  obtain ⟨m', h5, h6⟩ := ev
  cases h6
  obtain ⟨m0, rfl⟩ := peek_one h2
  rcases two_kinds k0 with z | ⟨zz, z⟩
  · refine .inl (pm_core (pr := .index) kd0_ty' (fun r1 r2 k e => ?_) g h1 h2 z h3 h4 k1 h5 q)
    obtain ⟨a, k2, ns, rfl, rfl, hk, rfl, s0, _⟩ := ix_fin r1 r2 e
    exact ⟨_, rfl, fun Q q => ⟨a, k2, ns, rfl, rfl, s0 k, hk, q⟩⟩
  · refine .inr ⟨zz, pm_core (pr := .index) kd1_ty (fun r1 r2 k e => ?_) g h1 h2 z h3 h4 k1 h5 q⟩
    obtain ⟨a, k2, ns, rfl, rfl, hk, rfl, _, s1⟩ := ix_fin r1 r2 e
    exact ⟨_, rfl, fun Q q => ⟨a, k2, ns, rfl, rfl, s1 k, hk, q⟩⟩
theorem okCnt {ob a : Expr} {O A : E} {ap cp : Pos} (hl : (ap.endLine == cp.line) = true) (hn : nmSub ob = true) (ho : OkE X Γ ob O) (ha : OkEs X Γ [a] [A]) : OkE X Γ (.Call (.Attribute ob "count" ap) [a] [] cp) (.cnt (.cons O .nil) A) := by
  have pr : Plain X.env [] := rfl
  refine .noT (fun _ z => nomatch z) (fun _ => rfl) (PE.weak (PE.or (pe_bm PySem.F.plainAttrs_list PySem.F.slot_list_count PySem.F.type_list_count (mt_lcount (X := X)) ho.o ha.v (base_ok hn) (few1 ha) hl (ha.pl.cons pr) (pr.any cp)) (PE.guard fun z => pe_tm z PySem.F.slot_tuple_count PySem.F.type_tuple_count (mt_cntT (X := X)) ho.o ha.v (base_ok hn) (few1 ha) hl (ha.pl.cons pr) (pr.any cp))) fun σ H Q ⟨F, Xs, T, Tm, env, m, env', g, ev, q⟩ => ?_)
  unfold evalE at ev
  rw [evalOs_one, bsi] at ev
  obtain ⟨⟨ops, env1⟩, h1, ev⟩ := ev
  rw [msi] at h1
  obtain ⟨⟨op, env1'⟩, h1, h1'⟩ := h1
  cases h1'
  rw [bsi] at ev
  obtain ⟨ms0, h2, ev⟩ := ev
  split at ev
  case isFalse => cases ev
  next k0 =>
  rw [bsi] at ev
  obtain ⟨⟨y, env2⟩, h3, ev⟩ := ev
  rw [bsi] at ev
  obtain ⟨ms, h4, ev⟩ := ev
  split at ev
  case isFalse => cases ev
  next k1 =>
  rw [msi] at ev
  obtain ⟨m', h5, h6⟩ := ev
  cases h6
  obtain ⟨m0, rfl⟩ := peek_one h2
  rcases two_kinds k0 with z | ⟨zz, z⟩
  · refine .inl (pm_core (pr := .count) kd0_ty' (fun r1 r2 k e => ?_) g h1 h2 z h3 h4 k1 h5 q)
    obtain ⟨a, k2, ns, rfl, rfl, rfl, s0, _⟩ := cnt_fin r1 r2 e
    exact ⟨_, rfl, fun Q q => ⟨a, ns, k2, rfl, rfl, s0 k, q⟩⟩
  · refine .inr ⟨zz, pm_core (pr := .count) kd1_ty (fun r1 r2 k e => ?_) g h1 h2 z h3 h4 k1 h5 q⟩
    obtain ⟨a, k2, ns, rfl, rfl, rfl, _, s1⟩ := cnt_fin r1 r2 e
    exact ⟨_, rfl, fun Q q => ⟨a, ns, k2, rfl, rfl, s1 k, q⟩⟩
/-! ### d.get(k, x) -/
theorem kd4 {m : M} {K : PySem.W.Frag} {S : Addr → Prop} {H : Hp} {v : V} {o : List Addr} (h : RM K S H v m o) (e : kdM m = 4) : ∃ a, v = .ref a ∧ IsD H a := by
  cases h with
  | im h =>
    cases h with
    | dct h _ _ => exact ⟨_, rfl, .inl ⟨_, h⟩⟩
    | _ => cases e
  | ml h r => cases e
  | md h r => exact ⟨_, rfl, .inl ⟨_, .inl h⟩⟩
theorem RMk.getNone {K : PySem.W.Frag} {S : Addr → Prop} {H : Hp} {k : Key} {vs : List (Key × V)} {ms : List (Key × M)} {o : List Addr} (r : RMk K S H vs ms o) (h : mdGet ms k = none) : valV vs k = none := by
  have h1 := RMk.has k r
  cases hv : valV vs k with
  | none => rfl
  | some v =>
    rw [hv] at h1
    have : mdHas ms k = true := h1.symm
    unfold mdGet at h
    unfold mdHas at this
    rw [Option.map_eq_none_iff, List.find?_eq_none] at h
    rw [List.any_eq_true] at this
    obtain ⟨p, hp, e⟩ := this
    exact absurd e (h p hp)
theorem okGet {ob a b : Expr} {O A B : E} {ap cp : Pos} (hu : X.A.units + 1 < cLine) (hl : (ap.endLine == cp.line) = true) (hn : nmSub ob = true) (ho : OkE X Γ ob O) (hA : OkE X Γ a A) (hB : OkE X Γ b B) (ha : OkEs X Γ [a, b] [A, B]) : OkE X Γ (.Call (.Attribute ob "get" ap) [a, b] [] cp) (.get (.cons O .nil) A B) := by
  have m2 : M2 X ob "get" ap a b cp := by
    have st : starEach [a, b] X.env = [(false, eval a X.env), (false, eval b X.env)] := ha.pl
    refine ⟨base_ok hn, ?_, hl, ?_⟩
    · rw [ha.pl.all]; simp [keywordEach, backToKw]
    · rw [st]; rfl
  refine .noT (fun _ z => nomatch z) (fun _ => rfl) (PE.weak (pe_dget2 hu ho.o hA.v hB.v m2) fun σ H Q ⟨F, Xs, T, Tm, env, m, env', g, ev, q⟩ => ?_)
  unfold evalE at ev
  rw [evalOs_one, bsi] at ev
  obtain ⟨⟨ops, env1⟩, h1, ev⟩ := ev
  rw [msi] at h1
  obtain ⟨⟨op, env1'⟩, h1, h1'⟩ := h1
  cases h1'
  rw [bsi] at ev
  obtain ⟨ms0, h2, ev⟩ := ev
  split at ev
  case isFalse => cases ev
  next k0 =>
  rw [bsi] at ev
  obtain ⟨⟨y, env2⟩, h3, ev⟩ := ev
  rw [bsi] at ev
  obtain ⟨⟨z, env3⟩, h3b, ev⟩ := ev
  rw [bsi] at ev
  obtain ⟨ms, h4, ev⟩ := ev
  split at ev
  case isFalse => cases ev
  next k1 =>
  rw [msi] at ev
  obtain ⟨m', h5, h6⟩ := ev
  cases h6
  obtain ⟨m0, rfl⟩ := peek_one h2
  obtain ⟨m9, rfl⟩ := peek_one h4
  refine ⟨F, Xs, T, Tm, env, op, env1', g, h1, fun v H1 U Um rr g1 => ?_⟩
  obtain ⟨S, pk⟩ := g1.peekK rr h2
  obtain ⟨m1, e1, o0, r0⟩ : ∃ m1, [m0] = [m1] ∧ ∃ o, RM X.K S H1 v m1 o := pk.one'
  cases e1
  obtain ⟨p, rfl, isd⟩ := kd4 r0 (by simpa using k0)
  refine ⟨p, rfl, isd, F, Xs, U ++ T, Um ++ Tm, env1', y, env2, g1, h3, fun w H2 g2 => ⟨F, Xs, _, _, env2, z, env3, g2, h3b, fun w2 H3 g3 => ?_⟩⟩
  have rr2 : D8.OpR σ [.ref p, w, w2] [op, .tm y, .tm z] (U ++ [w, w2]) (Um ++ [y, z]) := rr.append1 (.tm (.tm .nil))
  have g4 : Good X.K F Xs H3 σ env3 ((U ++ [w, w2]) ++ T) ((Um ++ [y, z]) ++ Tm) := by
    have g3 : Good X.K F Xs H3 σ env3 ([w2] ++ w :: (U ++ T)) ([z] ++ y :: (Um ++ Tm)) := g3
    have g5 : Good X.K F Xs H3 σ env3 (w :: w2 :: (U ++ T)) (y :: z :: (Um ++ Tm)) := g3.mid rfl
    cases rr with
    | sl _ h => cases h; exact g5
    | tm h => cases h; exact Good.mid (U := [w, w2]) (Um := [y, z]) rfl g5
  have pk3 : peek env3 [op, .tm y, .tm z] = some [m9, y, z] := by
    cases op with
    | sl i =>
      simp only [peek, bsi, msi] at h4 ⊢
      obtain ⟨m, h1, r, h2, h7⟩ := h4
      cases h2; cases h7
      exact ⟨m9, h1, [y, z], ⟨[z], ⟨[], rfl, rfl⟩, rfl⟩, rfl⟩
    | tm i =>
      simp only [peek, msi] at h4 ⊢
      obtain ⟨r, h2, h7⟩ := h4
      cases h2; cases h7
      exact ⟨[y, z], ⟨[z], ⟨[], rfl, rfl⟩, rfl⟩, rfl⟩
  obtain ⟨S2, pk2, psh⟩ := g4.peekP rr2 pk3
  have e5 : getF m9 y z = some m := h5
  obtain ⟨n1, r1, pk2⟩ : ∃ o, RM X.K S2 H3 (.ref p) m9 o ∧ PKs X.K S2 H3 [w, w2] [y, z] := by cases pk2 with | cons h r => exact ⟨_, h, r⟩
  obtain ⟨a1, a2, e6, ⟨o1, ry⟩, o2, rz⟩ := pk2.two'
  cases e6
  obtain ⟨kvs, kd, dd, rfl, rfl, rfl, e7⟩ : ∃ kvs kd dd, m9 = .md kvs ∧ y = .im kd ∧ z = .im dd ∧ ((keyOf kd).bind fun k => match mdGet kvs k with
      | none => some (M.im dd)
      | some (.im e) => some (.im e)
      | _ => none) = some m := by
    cases m9 with
    | md kvs => cases y with
      | im kd => cases z with
        | im dd => exact ⟨_, _, _, rfl, rfl, rfl, e5⟩
        | _ => cases e5
      | _ => cases e5
    | _ => cases e5
  rw [bsi] at e7
  obtain ⟨k, f1, e7⟩ := e7
  cases r1 with
  | md hD rk =>
    have ew : w = kV k := by cases ry with | im hv => exact key_of hv f1
    subst ew
    refine ⟨_, DGet.k hD, ?_⟩
    split at e7
    · next hg =>
      cases e7
      rw [RMk.getNone rk hg]
      have g5 : Good X.K F Xs H3 σ env3 ((U ++ [kV k]) ++ w2 :: T) ((Um ++ [.im kd]) ++ .im dd :: Tm) := by simpa using g4
      have hl2 : (U ++ [kV k]).length = (Um ++ [M.im kd]).length := by have := rr2.lenU; simp at this ⊢; exact this
      exact q _ _ (Good.popN hl2 (Good.dim hl2 (Good.mid hl2 g5)))
    · next e hg =>
      cases e7
      obtain ⟨vv, o', f2, f3⟩ := RMk.get k rk hg
      rw [f2]
      cases f3 with
      | im hv => exact q _ _ (Good.popN rr2.lenU (Good.dim rr2.lenU (psh _ _ hv)))
    · cases e7
end
end D8

namespace D8
open PySem PySem.Spec PyProof.Rows L2
theorem star_ok {U : Sur} {sc : Scope} {e : Expr} {c : E} (h : cE U sc e = some c) (env : Env) (es : List Expr) : starEach (e :: es) env = (false, eval e env) :: starEach es env := by
  cases e <;> first | rfl | (simp [cE] at h)
theorem fold_ok {U : Sur} {sc : Scope} {e : Expr} {w : Wk × Es} (h : cIt U sc e = some w) (env : Env) (x : Value) : foldedSetIterable e env x = pure x := by
  cases e <;> first | rfl | (simp [cIt, itOf, cE] at h)
theorem beh_ok {U : Sur} {sc : Scope} {e : Expr} {c : E} (h : cE U sc e = some c) (op : CmpOp) : behindInMarks op e = false := by
  cases e <;> first | rfl | (simp [cE] at h)
theorem cEL_plain {U : Sur} {sc : Scope} {env : Env} : ∀ {es : List Expr} {cs : List E}, cEL U sc es = some cs → Plain env es
  | [], _, _ => rfl
  | e :: es, cs, h => by
    unfold cEL at h
    rw [bsi] at h
    obtain ⟨c, h1, h⟩ := h
    rw [msi] at h
    obtain ⟨cs', h2, _⟩ := h
    show starEach (e :: es) env = _
    rw [star_ok h1, cEL_plain h2]; rfl
theorem cEL_star {U : Sur} {sc : Scope} {env : Env} : ∀ {es : List Expr} {cs : List E}, cEL U sc es = some cs → ∀ e ∈ es, ∀ r, starEach (e :: r) env = (false, eval e env) :: starEach r env
  | [], _, _, e, he, _ => nomatch he
  | e0 :: es, cs, h, e, he, r => by
    unfold cEL at h
    rw [bsi] at h
    obtain ⟨c, h1, h⟩ := h
    rw [msi] at h
    obtain ⟨cs', h2, _⟩ := h
    rcases List.mem_cons.mp he with z | z
    · subst z; exact star_ok h1 env r
    · exact cEL_star h2 e z r
theorem cEL_tail {U : Sur} {sc : Scope} {e : Expr} {es : List Expr} {cs : List E} (h : cEL U sc (e :: es) = some cs) : ∃ c cs', cE U sc e = some c ∧ cEL U sc es = some cs' ∧ cs = c :: cs' := by
  unfold cEL at h
  rw [bsi] at h
  obtain ⟨c, h1, h⟩ := h
  rw [msi] at h
  obtain ⟨cs', h2, rfl⟩ := h
  exact ⟨c, cs', h1, h2, rfl⟩
theorem plain_ix {U : Sur} {sc : Scope} {e : Expr} {c : E} (h : cE U sc e = some c) : PlainIx e := by
  cases e <;> first | exact fun _ _ => rfl | (simp [cE] at h)
theorem ix_name {xs : List (Str × List Str)} {x : Str} {g : Nat} (h : xs.findIdx? (fun p => p.1 == x) = some g) : ∃ ps, xs[g]? = some (x, ps) := by
  obtain ⟨q, h1, h2⟩ := findIdx_get h
  obtain ⟨n, ps⟩ := q
  have := eq_of_beq h2
  simp only at this
  subst this
  exact ⟨ps, h1⟩
section
variable {U : Sur} {Γ : Gam}
theorem path_nil {O : E} {r : Nat × List E} (h : pathOf O = some r) (hr : r.2 = []) : ∃ i, O = .nm i ∧ r.1 = i := by
  cases O with
  | nm i => cases h; exact ⟨i, rfl, rfl⟩
  | pr p es =>
    exfalso
    cases p <;> first | (cases h; done) | skip
    cases es with
    | nil => cases h
    | cons a es => cases es with
      | nil => cases h
      | cons b es => cases es with
        | cons _ _ => cases h
        | nil =>
          unfold pathOf at h
          rw [msi] at h
          obtain ⟨q, _, rfl⟩ := h
          simp at hr
  | _ => cases h
theorem path_idx {A B : E} {r : Nat × List E} (h : pathOf (.pr .idx (.cons A (.cons B .nil))) = some r) : (∃ j, A = .nm j ∧ r = (j, [B])) ∨ 2 ≤ r.2.length := by
  unfold pathOf at h
  rw [msi] at h
  obtain ⟨q, h1, rfl⟩ := h
  cases hq : q.2 with
  | nil =>
    obtain ⟨i, h2, h3⟩ := path_nil h1 hq
    exact .inl ⟨i, h2, by rw [← h3]; simp [hq]⟩
  | cons _ _ => right; simp [hq]
theorem evalQs_len {Γ : Gam} : ∀ {es : List E} {env : EnvM} {ms : List M}, evalQs Γ (Es.ofL es) env = some ms → ms.length = es.length
  | [], _, _, h => by cases h; rfl
  | e :: es, env, ms, h => by
    have h : (evalE Γ e env).bind (fun r => if clean r.1.fz = true then (evalQs Γ (Es.ofL es) env).map fun q => (M.im r.1.fz :: q) else none) = some ms := h
    rw [bsi] at h
    obtain ⟨r, _, h⟩ := h
    split at h
    · rw [msi] at h
      obtain ⟨ns, h2, rfl⟩ := h
      exact congrArg (· + 1) (evalQs_len h2)
    · cases h
theorem atP_long {f : M → Option (M × M)} {ps : List M} {x : M} (h : 2 ≤ ps.length) : atP f ps x = none := by
  match ps, h with
  | a :: b :: r, _ =>
    cases a with
    | im d => cases d <;> cases x <;> rfl
    | _ => cases x <;> rfl
theorem mp_long {K : PySem.W.Frag} {op : Mt} {i : Nat} {p : List E} {es : Es} (h : 2 ≤ p.length) (σ : L2.St) (H : Hp) (Q : VK) : ¬ TEe K Γ (.mp op i (Es.ofL p) es) σ H Q := fun ⟨F, Xs, T, Tm, env, m, env', g, ev, q⟩ => by
  unfold evalE at ev
  rw [bsi] at ev
  obtain ⟨ps, h0, ev⟩ := ev
  rw [bsi] at ev
  obtain ⟨as, h1, ev⟩ := ev
  rw [bsi] at ev
  obtain ⟨x, h2, ev⟩ := ev
  rw [atP_long (by rw [evalQs_len h0]; exact h)] at ev
  cases ev
theorem sub_idx {sc : Scope} {a i : Expr} {p : Pos} {O : E} {r : Nat × List E} (h : cE U sc (.Subscript a i p) = some O) (hp : pathOf O = some r) (hn : ¬ ∃ A B, O = .pr .idx (.cons A (.cons B .nil)) ∧ cE U sc a = some A ∧ cE U sc i = some B) : False := by
  cases i with
  | Slice lo hi st q =>
    unfold cE at h
    rw [bsi] at h
    obtain ⟨A, h1, h⟩ := h
    split at h
    all_goals first
      | (cases h; cases hp; done)
      | (cases h; done)
      | (rw [msi] at h; obtain ⟨B, h2, rfl⟩ := h; cases hp; done)
      | (rw [bsi] at h; obtain ⟨B, h2, h⟩ := h; rw [msi] at h; obtain ⟨C, h3, rfl⟩ := h; cases hp; done)
  | _ =>
    unfold cE at h
    rw [bsi] at h
    obtain ⟨A, h1, h⟩ := h
    rw [msi] at h
    obtain ⟨B, h2, rfl⟩ := h
    exact hn ⟨A, B, rfl, h1, h2⟩
theorem name_path {sc : Scope} {x : Str} {p : Pos} {O : E} {r : Nat × List E} (h : cE U sc (.Name x p) = some O) (hp : pathOf O = some r) (hr : r.2 = [] → False) : False := by
  unfold cE at h
  split at h
  · rw [msi] at h
    obtain ⟨i, _, rfl⟩ := h
    cases hp
    exact hr rfl
  · split at h
    · rw [msi] at h
      obtain ⟨d, _, rfl⟩ := h
      cases hp
    · cases h
def OkA (X : Cx) (Γ : Gam) : Expr → List E → Prop
  | .Call _ es _ _, cs => OkEs X Γ es cs
  | _, _ => True
theorem okI (X : Cx) (sc : Scope) (o : Ok X U Γ sc) (e tg : Expr) (w : Wk × Es) (h : itOf U sc e (cE U sc e) (cArgs U sc e) = some w) (ht : tupW w.1 tg = true) (own : ∀ c, cE U sc e = some c → OkE X Γ e c)
    (args : ∀ cs, cArgs U sc e = some cs → OkA X Γ e cs) : PI X tg e (TIo X.K Γ w.1 w.2) := by
  have one : (cE U sc e).map (fun e => (Wk.one, Es.cons e .nil)) = some w → PI X tg e (TIo X.K Γ w.1 w.2) := fun h => by
    rw [msi] at h
    obtain ⟨c, h1, rfl⟩ := h
    exact pi1 (own c h1).o
  have no : (∀ x p es pos, e ≠ .Call (.Name x p) es [] pos) → PI X tg e (TIo X.K Γ w.1 w.2) := fun hne => by
    refine one ?_
    rw [← h]
    cases e <;> first | rfl | skip
    rename_i f es kws pos
    cases f <;> first | rfl | skip
    rename_i x p
    cases kws <;> first | rfl | exact absurd rfl (hne _ _ _ _)
  cases e with
  | Call f es kws pos => ?_
  | _ => exact no fun _ _ _ _ z => nomatch z
  cases f with
  | Name x p => ?_
  | _ => exact no fun _ _ _ _ z => nomatch z
  cases kws with
  | nil => ?_
  | cons _ _ => exact no fun _ _ _ _ z => nomatch z
  · have h : (if isGlo sc x && (U.G.findIdx? (fun p => p.1 == x)).isNone then match walkOf x es.length with
      | some w => (cArgs U sc (.Call (.Name x p) es [] pos)).map fun es => (w, Es.ofL es)
      | none => (cE U sc (.Call (.Name x p) es [] pos)).map fun e => (Wk.one, Es.cons e .nil)
    else (cE U sc (.Call (.Name x p) es [] pos)).map fun e => (Wk.one, Es.cons e .nil)) = some w := h
    split at h
    · next hg =>
      have hg' : isGlo sc x = true ∧ U.G.findIdx? (fun p => p.1 == x) = none := by simpa using hg
      obtain ⟨hgl, hd⟩ := glo_is hg'.1
      have gl : Gl X x := by show X.env.scope.names.lookup x = _; rw [o.scp]; exact hgl
      split at h
      · next w' hw' =>
        rw [msi] at h
        obtain ⟨cs, h1, rfl⟩ := h
        have oes : OkEs X Γ es cs := args cs h1
        have h1' : cEL U sc es = some cs := h1
        unfold walkOf at hw'
        split at hw'
        · next hx =>
          obtain ⟨rfl, hl⟩ := hx
          cases hw'
          match es, hl, h1', oes with
          | [a], _, h1', oes =>
          match tg, ht with
          | .Tuple elts kk tp, _ => exact piEn gl (o.blt _ (by decide) hg'.2) oes.o (cEL_star h1' a List.mem_cons_self [])
        split at hw'
        · next hx =>
          obtain ⟨rfl, hl⟩ := hx
          cases hw'
          match es, hl, h1', oes with
          | [a, b], _, h1', oes =>
          obtain ⟨_, _, _, h3, _⟩ := cEL_tail h1'
          match tg, ht with
          | .Tuple elts kk tp, _ => exact piZp gl (o.blt _ (by decide) hg'.2) oes.o (cEL_star h1' a List.mem_cons_self _) ((cEL_plain h3).any pos)
        split at hw'
        · cases hw'; cases ht
        split at hw'
        · next hx =>
          obtain ⟨rfl, hl⟩ := hx
          cases hw'
          match es, hl, h1', oes with
          | [a], _, h1', oes => exact piRg1 gl (o.blt _ (by decide) hg'.2) oes.o (cEL_star h1' a List.mem_cons_self [])
        split at hw'
        · next hx =>
          obtain ⟨rfl, hl⟩ := hx
          cases hw'
          match es, hl, h1', oes with
          | [a, b], _, h1', oes =>
          obtain ⟨_, _, _, h3, _⟩ := cEL_tail h1'
          exact piRg2 gl (o.blt _ (by decide) hg'.2) oes.o (cEL_star h1' a List.mem_cons_self _) ((cEL_plain h3).any pos)
        split at hw'
        · cases hw'; cases ht
        · cases hw'
      · exact one h
    · exact one h
theorem okEs_un : ∀ {es : List Expr} {cs : List E}, cEL U sc es = some cs → Fa2 (OkE X Γ) es cs → OkEs X Γ es (cs.map E.unown)
  | [], cs, h, f => by cases h; exact okEs_nil
  | e :: es, cs, h, f => by
    unfold cEL at h
    rw [bsi] at h
    obtain ⟨c, h1, h⟩ := h
    rw [msi] at h
    obtain ⟨cs', h2, rfl⟩ := h
    cases f with
    | cons f1 f2 => exact okEs_cons (star_ok h1 X.env) (okUn f1) (okEs_un h2 f2)
theorem isRg_is {e : Expr} (h : isRg U sc e = true) : ∃ p rs pos, e = .Call (.Name "range" p) rs [] pos ∧ isGlo sc "range" = true ∧ U.G.findIdx? (fun p => p.1 == ("range" : Str)) = none := by
  unfold isRg at h
  split at h
  · simp only [Bool.and_eq_true, beq_iff_eq] at h
    obtain ⟨⟨rfl, h2⟩, h3⟩ := h
    exact ⟨_, _, _, rfl, h2, Option.isNone_iff_eq_none.mp h3⟩
  · cases h
theorem okRgE {x : Str} {p p2 pos pos2 : Pos} {rs : List Expr} {as : List E} {c : E} (o : Ok X U Γ sc) (hg : isGlo sc x = true) (hU : U.G.findIdx? (fun p => p.1 == x) = none) (hg2 : isGlo sc "range" = true) (hU2 : U.G.findIdx? (fun p => p.1 == ("range" : Str)) = none) (h1 : cEL U sc rs = some as) (h : rgE x as = some c) (each : Fa2 (OkE X Γ) rs as) :
    OkE X Γ (.Call (.Name x p) [.Call (.Name "range" p2) rs [] pos2] [] pos) c := by
  unfold rgE at h
  split at h
  · next a =>
    obtain ⟨e, r, rfl, h3, he⟩ : ∃ e r, rs = e :: r ∧ cEL U sc r = some [] ∧ cE U sc e = some a := by
      cases rs with
      | nil => cases h1
      | cons e r =>
        unfold cEL at h1
        rw [bsi] at h1
        obtain ⟨c1, h2, h1⟩ := h1
        rw [msi] at h1
        obtain ⟨cs, h3, h4⟩ := h1
        cases h4
        exact ⟨e, r, rfl, h3, h2⟩
    have hr : r = [] := by
      cases each with
      | cons _ z => cases z; rfl
    subst hr
    have ha : OkE X Γ e a := by cases each with | cons z _ => exact z
    split at h
    · next hx => subst hx; cases h; exact okRgL1 o hg hU hg2 hU2 ha (star_ok he X.env [])
    · split at h
      · next hx => subst hx; cases h; exact okRgT1 o hg hU hg2 hU2 ha (star_ok he X.env [])
      · cases h
  · next a b =>
    obtain ⟨e, f, rfl, he, hf⟩ : ∃ e f, rs = [e, f] ∧ cE U sc e = some a ∧ cE U sc f = some b := by
      cases rs with
      | nil => cases h1
      | cons e r =>
        unfold cEL at h1
        rw [bsi] at h1
        obtain ⟨c1, h2, h1⟩ := h1
        rw [msi] at h1
        obtain ⟨cs, h3, h4⟩ := h1
        cases h4
        cases r with
        | nil => cases h3
        | cons f r =>
          unfold cEL at h3
          rw [bsi] at h3
          obtain ⟨c2, h5, h3⟩ := h3
          rw [msi] at h3
          obtain ⟨cs, h6, h7⟩ := h3
          cases h7
          cases r with
          | nil => exact ⟨e, f, rfl, h2, h5⟩
          | cons g r =>
            unfold cEL at h6
            rw [bsi] at h6
            obtain ⟨_, _, h6⟩ := h6
            rw [msi] at h6
            obtain ⟨_, _, h6⟩ := h6
            cases h6
    have ha : OkE X Γ e a := by cases each with | cons z _ => exact z
    have hb : OkE X Γ f b := by cases each with | cons _ z => cases z with | cons z _ => exact z
    split at h
    · next hx => subst hx; cases h; exact okRgL2 o hg hU hg2 hU2 ha hb (star_ok he X.env) (star_ok hf X.env)
    · split at h
      · next hx => subst hx; cases h; exact okRgT2 o hg hU hg2 hU2 ha hb (star_ok he X.env) (star_ok hf X.env)
      · cases h
  · cases h
set_option maxHeartbeats 16000000
mutual
theorem okE (n : Nat) (X : Cx) (sc : Scope) (o : Ok X U Γ sc) (e : Expr) (c : E) (h : cE U sc e = some c) (hs : sizeOf e < n) : OkE X Γ e c := by
  cases n with
  | zero => omega
  | succ n => ?_
  cases e with
  | Constant k n9 pos =>
    unfold cE at h
    split at h
    · cases h; exact okC (fun _ => rfl) pe_int fun S H => .int _
    · cases h; exact okC (fun _ => rfl) pe_bl fun S H => .bl _
    · cases h; exact okC (fun _ => rfl) pe_non fun S H => .non
    · cases h; exact okC (fun _ => rfl) pe_str fun S H => .str _
    · cases h
  | Name x pos =>
    unfold cE at h
    split at h
    · next hl =>
      rw [msi] at h
      obtain ⟨i, hi, rfl⟩ := h
      exact okNm (by rw [o.hN]; exact slot_name hi) (by rw [o.scp]; exact (loc_vis hl).1) (loc_vis hl).2
    · split at h
      · next hg =>
        rw [msi] at h
        obtain ⟨d, hd, rfl⟩ := h
        obtain ⟨v, u, h1, h2, h3⟩ := o.cst x d hd
        obtain ⟨g1, g2⟩ := glo_is hg
        exact okC (fun _ => rfl) (pe_glob (by show X.env.scope.names.lookup x = _; rw [o.scp]; exact g1) h1 h2 (dbg_no g2).1) h3
      · cases h
  | BinOp a op b pos =>
    unfold cE at h
    rw [bsi] at h
    obtain ⟨A, h1, h⟩ := h
    rw [bsi] at h
    obtain ⟨B, h2, h⟩ := h
    rw [msi] at h
    obtain ⟨p, h3, rfl⟩ := h
    exact okBin h3 (okUn (okE n X sc o a A h1 (by simp at hs ⊢; omega))) (okUn (okE n X sc o b B h2 (by simp at hs ⊢; omega)))
  | UnaryOp op a pos =>
    cases op with
    | USub =>
      unfold cE at h
      rw [msi] at h
      obtain ⟨A, h1, rfl⟩ := h
      exact okNeg (okE n X sc o a A h1 (by simp at hs ⊢; omega))
    | Not =>
      unfold cE at h
      rw [msi] at h
      obtain ⟨A, h1, rfl⟩ := h
      exact okNot (okE n X sc o a A h1 (by simp at hs ⊢; omega))
    | _ => simp [cE] at h
  | BoolOp op es pos =>
    unfold cE at h
    rw [bsi] at h
    obtain ⟨cs, h1, h2⟩ := h
    obtain ⟨v, ov, w⟩ := okBool (pos := pos) (okL n X sc o es cs h1 (by simp at hs ⊢; omega)).each h2
    exact ⟨v, ov, w.pt⟩
  | IfExp t a b pos =>
    unfold cE at h
    rw [bsi] at h
    obtain ⟨C, h1, h⟩ := h
    rw [bsi] at h
    obtain ⟨A, h2, h⟩ := h
    rw [msi] at h
    obtain ⟨B, h3, rfl⟩ := h
    exact okIf (okE n X sc o t C h1 (by simp at hs ⊢; omega)) (okE n X sc o a A h2 (by simp at hs ⊢; omega)) (okE n X sc o b B h3 (by simp at hs ⊢; omega))
  | Tuple es k pos =>
    unfold cE at h
    rw [msi] at h
    obtain ⟨cs, h1, rfl⟩ := h
    exact okTup (okL n X sc o es cs h1 (by simp at hs ⊢; omega))
  | List es pos =>
    unfold cE at h
    rw [msi] at h
    obtain ⟨cs, h1, rfl⟩ := h
    exact okMkLst (okL n X sc o es cs h1 (by simp at hs ⊢; omega))
  | Dict ks vs pos =>
    unfold cE at h
    split at h
    case isFalse => cases h
    next hh =>
    rw [bsi] at h
    obtain ⟨cks, h1, h⟩ := h
    rw [msi] at h
    obtain ⟨cvs, h2, rfl⟩ := h
    exact okDct (okK0 n X sc o ks cks h1 (by simp at hs ⊢; omega)) (okL n X sc o vs cvs h2 (by simp at hs ⊢; omega)).each hh.1 hh.2
  | Compare a ops bs pos =>
    cases ops with
    | nil => cases bs <;> cases h
    | cons op ops =>
      cases ops with
      | nil =>
        cases bs with
        | nil => cases h
        | cons b bs =>
          cases bs with
          | nil =>
            unfold cE at h
            rw [bsi] at h
            obtain ⟨A, h1, h⟩ := h
            rw [bsi] at h
            obtain ⟨B, h2, h⟩ := h
            rw [msi] at h
            obtain ⟨p, h3, rfl⟩ := h
            exact okCmp o.un h3 (okE n X sc o a A h1 (by simp at hs ⊢; omega)) (okE n X sc o b B h2 (by simp at hs ⊢; omega)) (beh_ok h2 op)
          | cons _ _ => cases h
      | cons op2 ops =>
        cases ops with
        | cons _ _ => cases bs <;> first | cases h | (rename_i bs; cases bs <;> first | cases h | (rename_i bs; cases bs <;> cases h))
        | nil =>
          cases bs with
          | nil => cases h
          | cons b bs =>
            cases bs with
            | nil => cases h
            | cons d bs =>
              cases bs with
              | cons _ _ => cases h
              | nil =>
                unfold cE at h
                rw [bsi] at h
                obtain ⟨A, h1, h⟩ := h
                rw [bsi] at h
                obtain ⟨B, h2, h⟩ := h
                rw [bsi] at h
                obtain ⟨C, h3, h⟩ := h
                rw [bsi] at h
                obtain ⟨p, h4, h⟩ := h
                rw [msi] at h
                obtain ⟨p', h5, rfl⟩ := h
                exact okChain o.un h4 h5 (okE n X sc o a A h1 (by simp at hs ⊢; omega)) (okE n X sc o b B h2 (by simp at hs ⊢; omega)) (okE n X sc o d C h3 (by simp at hs ⊢; omega)) (by show behindInMarks op2 d = false; exact beh_ok h3 op2)
  | Subscript a i pos =>
    cases i with
    | Slice lo hi st p =>
      cases st with
      | some q =>
        unfold cE at h
        rw [bsi] at h
        obtain ⟨A, h1, h⟩ := h
        split at h
        all_goals first
          | (rename_i hq; cases hq; cases h; exact okRev (okE n X sc o a A h1 (by simp at hs ⊢; omega)))
          | (rename_i z; cases z; done)
          | (cases h; done)
          | skip
      | none =>
        cases lo with
        | none =>
          cases hi with
          | none =>
            unfold cE at h
            rw [bsi] at h
            obtain ⟨A, h1, h⟩ := h
            cases h
            exact okSl0 (okE n X sc o a A h1 (by simp at hs ⊢; omega))
          | some hi =>
            unfold cE at h
            rw [bsi] at h
            obtain ⟨A, h1, h⟩ := h
            simp only at h
            rw [msi] at h
            obtain ⟨B, h2, rfl⟩ := h
            exact okSlHi (okE n X sc o a A h1 (by simp at hs ⊢; omega)) (okE n X sc o hi B h2 (by simp at hs ⊢; omega))
        | some lo =>
          cases hi with
          | none =>
            unfold cE at h
            rw [bsi] at h
            obtain ⟨A, h1, h⟩ := h
            simp only at h
            rw [msi] at h
            obtain ⟨B, h2, rfl⟩ := h
            exact okSlLo (okE n X sc o a A h1 (by simp at hs ⊢; omega)) (okE n X sc o lo B h2 (by simp at hs ⊢; omega))
          | some hi =>
            unfold cE at h
            rw [bsi] at h
            obtain ⟨A, h1, h⟩ := h
            simp only at h
            rw [bsi] at h
            obtain ⟨B, h2, h⟩ := h
            rw [msi] at h
            obtain ⟨C, h3, rfl⟩ := h
            exact okSl2 (okE n X sc o a A h1 (by simp at hs ⊢; omega)) (okE n X sc o lo B h2 (by simp at hs ⊢; omega)) (okE n X sc o hi C h3 (by simp at hs ⊢; omega))
    | _ =>
      unfold cE at h
      rw [bsi] at h
      obtain ⟨A, h1, h⟩ := h
      rw [msi] at h
      obtain ⟨B, h2, rfl⟩ := h
      exact okIdx o.un (plain_ix h2) (okE n X sc o a A h1 (by simp at hs ⊢; omega)) (okE n X sc o _ B h2 (by simp at hs ⊢; omega))
  | Call f es kws pos =>
    cases f with
    | Name x p =>
      cases kws with
      | nil =>
        unfold cE at h
        split at h
        · next hg =>
          split at h
          · next g hU =>
            rw [msi] at h
            obtain ⟨cs, h1, rfl⟩ := h
            obtain ⟨ps, hp⟩ := ix_name hU
            refine okCall o hg hp (okEs_un h1 (okL n X sc o es cs h1 (by simp at hs ⊢; omega)).each) fun e r he => ?_
            subst he
            obtain ⟨_, _, _, h3, _⟩ := cEL_tail h1
            exact cEL_plain h3
          · next hU =>
            split at h
            · next hx =>
              subst hx
              split at h
              · next a t pt =>
                split at h
                · next hgt =>
                  rw [bsi] at h
                  obtain ⟨A, h1, h⟩ := h
                  rw [msi] at h
                  obtain ⟨pr, h2, rfl⟩ := h
                  exact okIsi o hg hU ((Bool.and_eq_true _ _ ▸ hgt : _ ∧ _).1) (Option.isNone_iff_eq_none.mp (Bool.and_eq_true _ _ ▸ hgt : _ ∧ _).2) h2 (okE n X sc o a A h1 (by simp at hs ⊢; omega)) (star_ok h1 X.env)
                · cases h
              · cases h
            · split at h
              · next e =>
                split at h
                · next hrg =>
                  rw [bsi] at h
                  obtain ⟨as, h1, h⟩ := h
                  obtain ⟨p2, rs, pos2, rfl, hg2, hU2⟩ := isRg_is hrg
                  have h1 : cEL U sc rs = some as := by unfold cArgs at h1; exact h1
                  exact okRgE o hg hU hg2 hU2 h1 h (okL n X sc o rs as h1 (by simp at hs ⊢; omega)).each
                · rw [bsi] at h
                  obtain ⟨c1, h1, h⟩ := h
                  rw [msi] at h
                  obtain ⟨pr, h2, rfl⟩ := h
                  exact okBlt o hg hU (cs := [c1]) h2 (okEs_cons (star_ok h1 X.env) (okE n X sc o e c1 h1 (by simp at hs ⊢; omega)) okEs_nil) rfl
              rw [bsi] at h
              obtain ⟨cs, h1, h⟩ := h
              rw [msi] at h
              obtain ⟨pr, h2, rfl⟩ := h
              cases es with
              | nil =>
                cases h1
                simp [bltP] at h2
              | cons e es =>
                obtain ⟨_, _, _, h3, _⟩ := cEL_tail h1
                exact okBlt o hg hU h2 (okL n X sc o (e :: es) cs h1 (by simp at hs ⊢; omega)) (cEL_plain h3)
        · cases h
      | cons k kws =>
        unfold cE at h
        split at h
        · next hg =>
          rw [bsi] at h
          obtain ⟨g, hU, h⟩ := h
          rw [bsi] at h
          obtain ⟨fp, hG, h⟩ := h
          rw [bsi] at h
          obtain ⟨cs, h1, h⟩ := h
          rw [bsi] at h
          obtain ⟨ks, h2, h⟩ := h
          split at h
          · next hP =>
            rw [msi] at h
            obtain ⟨ix, h3, rfl⟩ := h
            obtain ⟨ps, hp⟩ := ix_name hU
            rw [hp] at hG
            cases hG
            refine okCallK o hg hp (okL n X sc o es cs h1 (by simp at hs ⊢; omega)) (okK n X sc o (k :: kws) ks h2 (by simp at hs ⊢; omega)) (by simpa using hP) h3 fun e r he => ?_
            subst he
            obtain ⟨_, _, _, h4, _⟩ := cEL_tail h1
            exact cEL_plain h4
          · cases h
        · cases h
    | Attribute ob m ap =>
      cases kws with
      | cons _ _ => cases h
      | nil =>
        unfold cE at h
        split at h
        · cases h
        · next hl =>
          have hl' : (ap.endLine == pos.line) = true ∧ nmSub ob = true := by simpa using hl
          rw [bsi] at h
          obtain ⟨O, h1, h⟩ := h
          rw [bsi] at h
          obtain ⟨cs, h2, h⟩ := h
          split at h
          · next op hm =>
            rw [msi] at h
            obtain ⟨r, h3, h⟩ := h
            have hpr : ∀ e r, es = e :: r → Plain X.env r := fun e r he => by
              subst he
              obtain ⟨_, _, _, h4, _⟩ := cEL_tail h2
              exact cEL_plain h4
            have ihes := okL n X sc o es cs h2 (by simp at hs ⊢; omega)
            split at h
            · next hr =>
              subst h
              obtain ⟨i, hi1, hi2⟩ := path_nil h3 hr
              subst hi1
              rw [hi2]
              exact .noT (fun _ z => nomatch z) (fun _ => rfl) (okMt o.calm hm hl'.1 hl'.2 (okE n X sc o ob _ h1 (by simp at hs ⊢; omega)) ihes hpr)
            · next hr =>
              subst h
              refine .noT (fun _ z => nomatch z) (fun _ => rfl) ?_
              cases ob with
              | Subscript a i p =>
                by_cases hsl : ∃ A B, O = .pr .idx (.cons A (.cons B .nil)) ∧ cE U sc a = some A ∧ cE U sc i = some B
                · obtain ⟨A, B, rfl, hA, hB⟩ := hsl
                  have ia := okE n X sc o a A hA (by simp at hs ⊢; omega)
                  have ib := okE n X sc o i B hB (by simp at hs ⊢; omega)
                  rcases path_idx h3 with ⟨j, rfl, hr1⟩ | hlong
                  · rw [hr1]
                    exact okMp (by have := o.un; omega) o.calm hm hl'.1 (plain_ix hB) ia ib ihes hpr (cEL_star h2)
                  · exact PE.no (mp_long hlong)
                · exact (sub_idx h1 h3 hsl).elim
              | Name x p =>
                exact (name_path h1 h3 hr).elim
              | _ => exact absurd hl'.2 (by simp [nmSub])
          · split at h
            · next a _ =>
              split at h
              · next hx =>
                subst hx
                cases h
                have ihes := okL n X sc o es [a] h2 (by simp at hs ⊢; omega)
                obtain ⟨e, rfl⟩ : ∃ e, es = [e] := by
                  have := ihes.each
                  cases this with
                  | cons _ z => cases z; exact ⟨_, rfl⟩
                exact okIxm hl'.1 hl'.2 (okE n X sc o ob O h1 (by simp at hs ⊢; omega)) ihes
              · split at h
                · next hx =>
                  subst hx
                  cases h
                  have ihes := okL n X sc o es [a] h2 (by simp at hs ⊢; omega)
                  obtain ⟨e, rfl⟩ : ∃ e, es = [e] := by
                    have := ihes.each
                    cases this with
                    | cons _ z => cases z; exact ⟨_, rfl⟩
                  exact okCnt hl'.1 hl'.2 (okE n X sc o ob O h1 (by simp at hs ⊢; omega)) ihes
                · cases h
            · next a b _ =>
              split at h
              · next hx =>
                subst hx
                cases h
                have ihes := okL n X sc o es [a, b] h2 (by simp at hs ⊢; omega)
                obtain ⟨e, f, rfl⟩ : ∃ e f, es = [e, f] := by
                  have := ihes.each
                  cases this with
                  | cons _ z => cases z with
                    | cons _ z => cases z; exact ⟨_, _, rfl⟩
                obtain ⟨c1, c2, hc1, hc2, hc3⟩ := cEL_tail h2
                cases hc3
                obtain ⟨c3, c4, hc4, hc5, hc6⟩ := cEL_tail hc2
                cases hc6
                exact okGet (by have := o.un; omega) hl'.1 hl'.2 (okE n X sc o ob O h1 (by simp at hs ⊢; omega)) (okE n X sc o e a hc1 (by simp at hs ⊢; omega)) (okE n X sc o f b hc4 (by simp at hs ⊢; omega)) ihes
              · cases h
            · cases h
    | _ => cases h
  | ListComp e gs bs pos =>
    cases gs with
    | nil => cases h
    | cons g gs =>
      cases gs with
      | cons _ _ => exact absurd h (by simp [cE])
      | nil =>
        obtain ⟨t, it, ifs, k⟩ := g
        by_cases hk : k = 0
        · subst hk
          unfold cE at h
          simp only at h
          split at h
          · next hb =>
            rw [bsi] at h
            obtain ⟨w, h1, h⟩ := h
            split at h
            · cases h
            · next hw =>
              rw [bsi] at h
              obtain ⟨t', h2, h⟩ := h
              split at h
              · cases h
              · next hts =>
                rw [bsi] at h
                obtain ⟨c', h3, h⟩ := h
                have pi : PI X t it (TIo X.K Γ w.1 w.2) := okI X sc o it t w h1 (by simpa using hw) (fun c hc => okE n X sc o it c hc (by simp at hs ⊢; omega)) (fun cs hcs => okA n X sc o it cs hcs (by simp at hs ⊢; omega))
                have hsub : ∀ i ∈ t'.slots, i ∈ (ownOf U.N bs).map (·.2) := fun i hi => by
                  have h9 : (t'.slots.all fun i => ((ownOf U.N bs).map (·.2)).contains i) = true := by simpa using hts
                  have := List.all_eq_true.mp h9 i hi
                  simpa using this
                have pe := fun (s : Shared) (H : Hp) (C : Addr) (cl : List (Str × Addr)) (fp : List Addr) => (okE n (X.blk s H bs (compEnvC bs cl C X.env) fp) (relS bs sc) (o.blk s H cl C fp) e c' h3 (by simp at hs ⊢; omega)).v
                cases ifs with
                | nil =>
                  simp only [Option.some.injEq] at h
                  subst h
                  exact .noT (fun _ z => nomatch z) (fun _ => rfl) (okLc (cond := none) (tup_tp (by simpa using hw) h2) o hb.1 hb.2 pi h2 hsub (fold_ok (U := U) (sc := sc) (w := w) h1 X.env) (fun _ _ _ _ _ => pts_nil) pe)
                | cons q qs =>
                  cases qs with
                  | cons _ _ => cases h
                  | nil =>
                    simp only [msi] at h
                    obtain ⟨d, h4, rfl⟩ := h
                    have pt := fun (s : Shared) (H : Hp) (C : Addr) (cl : List (Str × Addr)) (fp : List Addr) => (okE n (X.blk s H bs (compEnvC bs cl C X.env) fp) (relS bs sc) (o.blk s H cl C fp) q d h4 (by simp at hs ⊢; omega)).t
                    exact .noT (fun _ z => nomatch z) (fun _ => rfl) (okLc (cond := some d) (tup_tp (by simpa using hw) h2) o hb.1 hb.2 pi h2 hsub (fold_ok (U := U) (sc := sc) (w := w) h1 X.env) (fun s H C cl fp => pts_one (pt s H C cl fp)) pe)
          · cases h
        · exact absurd h (by simp [cE, hk])
  | _ => simp [cE] at h
theorem okL (n : Nat) (X : Cx) (sc : Scope) (o : Ok X U Γ sc) (es : List Expr) (cs : List E) (h : cEL U sc es = some cs) (hs : sizeOf es < n) : OkEs X Γ es cs := by
  cases n with
  | zero => omega
  | succ n => ?_
  cases es with
  | nil => cases h; exact okEs_nil
  | cons e es =>
    unfold cEL at h
    rw [bsi] at h
    obtain ⟨c, h1, h⟩ := h
    rw [msi] at h
    obtain ⟨cs', h2, rfl⟩ := h
    exact okEs_cons (star_ok h1 X.env) (okE n X sc o e c h1 (by simp at hs ⊢; omega)) (okL n X sc o es cs' h2 (by simp at hs ⊢; omega))
theorem okK0 (n : Nat) (X : Cx) (sc : Scope) (o : Ok X U Γ sc) (ks : List (Option Expr)) (cs : List E) (h : cKs U sc ks = some cs) (hs : sizeOf ks < n) : Fa2 (fun k c => ∃ e, k = some e ∧ OkE X Γ e c) ks cs := by
  cases n with
  | zero => omega
  | succ n => ?_
  cases ks with
  | nil => cases h; exact .nil
  | cons k ks =>
    cases k with
    | none => cases h
    | some e =>
      unfold cKs at h
      rw [bsi] at h
      obtain ⟨c, h1, h⟩ := h
      rw [msi] at h
      obtain ⟨cs', h2, rfl⟩ := h
      exact .cons ⟨e, rfl, okE n X sc o e c h1 (by simp at hs ⊢; omega)⟩ (okK0 n X sc o ks cs' h2 (by simp at hs ⊢; omega))
theorem okK (n : Nat) (X : Cx) (sc : Scope) (o : Ok X U Γ sc) (ks : List Keyword) (cs : List (Str × E)) (h : cKW U sc ks = some cs) (hs : sizeOf ks < n) : OkKs X Γ ks cs := by
  cases n with
  | zero => omega
  | succ n => ?_
  cases ks with
  | nil => cases h; exact okKs_nil
  | cons k ks =>
    obtain ⟨nm, e, p⟩ := k
    cases nm with
    | none => cases h
    | some nm =>
      unfold cKW at h
      rw [bsi] at h
      obtain ⟨c, h1, h⟩ := h
      rw [msi] at h
      obtain ⟨cs', h2, rfl⟩ := h
      exact okKs_cons (okE n X sc o e c h1 (by simp at hs ⊢; omega)) (okK n X sc o ks cs' h2 (by simp at hs ⊢; omega))
theorem okA (n : Nat) (X : Cx) (sc : Scope) (o : Ok X U Γ sc) (e : Expr) (cs : List E) (h : cArgs U sc e = some cs) (hs : sizeOf e < n) : OkA X Γ e cs := by
  cases n with
  | zero => omega
  | succ n => ?_
  cases e with
  | Call f es kws pos =>
    unfold cArgs at h
    exact okL n X sc o es cs h (by simp at hs ⊢; omega)
  | _ => trivial
end
end
end D8

namespace D8
open PySem PySem.Spec PyProof.Rows L2
/-! ### statements -/
def Kept (pn : List Nat) (σ σ' : L2.St) : Prop := ∀ j ∈ pn, σ'[j]? = σ[j]?
theorem Kept.refl {pn : List Nat} {σ : L2.St} : Kept pn σ σ := fun _ _ => rfl
theorem Kept.trans {pn : List Nat} {a b c : L2.St} (h : Kept pn a b) (h' : Kept pn b c) : Kept pn a c := fun j hj => (h' j hj).trans (h j hj)
def EndsW (K : PySem.W.Frag) (F : Hp) (Xs : List Addr) (T : List V) (Tm : List M) (pn : List Nat) (σ : L2.St) (env' : EnvM) (fl : Fl) (D : Ends) : Prop :=
  match fl with
  | .nx => ∀ σ' H', Good K F Xs H' σ' env' T Tm → Kept pn σ σ' → D.nx σ' H'
  | .rt m => ∀ v σ' H', Good K F Xs H' σ' env' (v :: T) (m :: Tm) → Kept pn σ σ' → D.rt v H'
  | .bk => ∀ σ' H', Good K F Xs H' σ' env' T Tm → Kept pn σ σ' → D.bk σ' H'
  | .ct => ∀ σ' H', Good K F Xs H' σ' env' T Tm → Kept pn σ σ' → D.ct σ' H'
def TSx (K : PySem.W.Frag) (pn : List Nat) (run : EnvM → Option (Fl × EnvM)) : TS := fun D σ H => ∃ F Xs T Tm env fl env', Good K F Xs H σ env T Tm ∧ run env = some (fl, env') ∧ EndsW K F Xs T Tm pn σ env' fl D
section
variable {X : Cx} {U : Sur} {Γ : Gam} {sc : Scope} {pn : List Nat}
theorem EndsW.after {K : PySem.W.Frag} {F : Hp} {Xs : List Addr} {T : List V} {Tm : List M} {σ σ1 : L2.St} {env' : EnvM} {fl : Fl} {D : Ends} (h : EndsW K F Xs T Tm pn σ env' fl D) (k : Kept pn σ σ1) : EndsW K F Xs T Tm pn σ1 env' fl D := by
  cases fl with
  | nx => exact fun σ' H' g k' => h σ' H' g (k.trans k')
  | rt m => exact fun v σ' H' g k' => h v σ' H' g (k.trans k')
  | bk => exact fun σ' H' g k' => h σ' H' g (k.trans k')
  | ct => exact fun σ' H' g k' => h σ' H' g (k.trans k')
theorem psx_nil : PSs X [] (TSx X.K pn (execSs Γ pn .nil)) := PSs.weak pss_nil fun D σ H ⟨F, Xs, T, Tm, env, fl, env', g, ev, q⟩ => by
  cases ev
  exact q σ H g .refl
theorem psx_cons {s : Stmt} {ss : List Stmt} {S' : S} {Ss' : Ss} (h : PS X s (TSx X.K pn (execS Γ pn S'))) (hs : PSs X ss (TSx X.K pn (execSs Γ pn Ss'))) : PSs X (s :: ss) (TSx X.K pn (execSs Γ pn (.cons S' Ss'))) := by
  refine PSs.weak (pss_cons h hs) fun D σ H ⟨F, Xs, T, Tm, env, fl, env', g, ev, q⟩ => ?_
  unfold execSs at ev
  rw [bsi] at ev
  obtain ⟨⟨f1, e1⟩, h1, h2⟩ := ev
  refine ⟨F, Xs, T, Tm, env, f1, e1, g, h1, ?_⟩
  cases f1 with
  | nx => exact fun σ' H' g' k => ⟨F, Xs, T, Tm, e1, fl, env', g', h2, q.after k⟩
  | rt m => cases h2; exact q
  | bk => cases h2; exact q
  | ct => cases h2; exact q
theorem psx_ex {e : Expr} {c : E} {pos : Pos} (h : OkE X Γ e c) (hs : swapsWith e none pos.line X.env = pure false) : PS X (.Expr e pos) (TSx X.K pn (execS Γ pn (.ex c))) :=
  PS.weak (ps_expr h.v hs) fun D σ H ⟨F, Xs, T, Tm, env, fl, env', g, ev, q⟩ => by
    unfold execS at ev
    rw [msi] at ev
    obtain ⟨⟨m, e1⟩, h1, h2⟩ := ev
    cases h2
    exact ⟨F, Xs, T, Tm, env, m, e1, g, h1, fun v H' g' => q σ H' g'.pop .refl⟩
theorem psx_ret {e : Expr} {c : E} {pos : Pos} (h : OkE X Γ e c) : PS X (.Return (some e) pos) (TSx X.K pn (execS Γ pn (.ret c))) :=
  PS.weak (ps_ret h.v) fun D σ H ⟨F, Xs, T, Tm, env, fl, env', g, ev, q⟩ => by
    unfold execS at ev
    rw [msi] at ev
    obtain ⟨⟨m, e1⟩, h1, h2⟩ := ev
    cases h2
    exact ⟨F, Xs, T, Tm, env, m, e1, g, h1, fun v H' g' => q v σ H' g' .refl⟩
theorem psx_retN {pos : Pos} : PS X (.Return none pos) (TSx X.K pn (execS Γ pn .retN)) :=
  PS.weak ps_retN fun D σ H ⟨F, Xs, T, Tm, env, fl, env', g, ev, q⟩ => by
    cases ev
    exact q .non σ H (g.pushC fun S => .non) .refl
theorem psx_pass {pos : Pos} : PS X (.Pass pos) (TSx X.K pn (execS Γ pn .pass)) :=
  PS.weak ps_pass fun D σ H ⟨F, Xs, T, Tm, env, fl, env', g, ev, q⟩ => by
    cases ev
    exact q σ H g .refl
theorem psx_if {t : Expr} {c : E} {a b : List Stmt} {A B : Ss} {pos : Pos} (h : OkE X Γ t c) (ha : PSs X a (TSx X.K pn (execSs Γ pn A))) (hb : PSs X b (TSx X.K pn (execSs Γ pn B))) : PS X (.If t a b pos) (TSx X.K pn (execS Γ pn (.ite c A B))) :=
  PS.weak (ps_if h.t ha hb) fun D σ H ⟨F, Xs, T, Tm, env, fl, env', g, ev, q⟩ => by
    unfold execS at ev
    rw [bsi] at ev
    obtain ⟨⟨d, e1⟩, h1, h2⟩ := ev
    refine ⟨F, Xs, T, Tm, env, d, e1, g, h1, fun H1 g1 => ?_⟩
    cases d with
    | true => exact ⟨F, Xs, T, Tm, e1, fl, env', g1, h2, q⟩
    | false => exact ⟨F, Xs, T, Tm, e1, fl, env', g1, h2, q⟩
/-! ### loops -/
theorem psx_whl {t : Expr} {c : E} {a : List Stmt} {A : Ss} {pos : Pos} (o : Ok X U Γ sc) (h : OkE X Γ t c) (ha : PSs X a (TSx X.K pn (execSs Γ pn A))) : PS X (.While t a [] pos) (TSx X.K pn (execS Γ pn (.whl c A))) := by
  refine PS.weak (ps_while o.pass h.t ha) fun D σ H ⟨F, Xs, T, Tm, env, fl, env', g, ev, q⟩ => ?_
  unfold execS at ev
  obtain ⟨n, hI⟩ := whLp_I _ _ ev
  refine ⟨fun m σ1 H1 => ∃ env1, WhI (fun env => evalT Γ c env) (fun env => execSs Γ pn A env) m env1 (fl, env') ∧ Good X.K F Xs H1 σ1 env1 T Tm ∧ Kept pn σ σ1, ⟨n, env, hI, g, .refl⟩, ?_⟩
  rintro m σ1 H1 ⟨env1, hI, g1, k1⟩
  generalize hr : (fl, env') = r at hI
  cases hI with
  | stop hc =>
    cases hr
    exact ⟨F, Xs, T, Tm, env1, false, _, g1, hc, fun H2 g2 => Eq.mpr (if_neg Bool.false_ne_true) (q σ1 H2 g2 k1)⟩
  | @go n _ e2 e3 f _ hc hb hf rest =>
    subst hr
    refine ⟨F, Xs, T, Tm, env1, true, e2, g1, hc, fun H2 g2 => ?_⟩
    refine Eq.mpr (if_pos rfl) ?_
    refine ⟨fun σ' H' => ∃ env1, WhI (fun env => evalT Γ c env) (fun env => execSs Γ pn A env) n env1 (fl, env') ∧ Good X.K F Xs H' σ' env1 T Tm ∧ Kept pn σ σ', fun σ' H' hN => ⟨n, Nat.lt_succ_self _, hN⟩, F, Xs, T, Tm, e2, f, e3, g2, hb, ?_⟩
    rcases hf with rfl | rfl
    · exact fun σ' H' g' k' => ⟨e3, rest, g', k1.trans k'⟩
    · exact fun σ' H' g' k' => ⟨e3, rest, g', k1.trans k'⟩
  | @bk n _ e2 e3 hc hb =>
    cases hr
    refine ⟨F, Xs, T, Tm, env1, true, e2, g1, hc, fun H2 g2 => ?_⟩
    refine Eq.mpr (if_pos rfl) ?_
    exact ⟨fun _ _ => False, fun _ _ z => z.elim, F, Xs, T, Tm, e2, .bk, _, g2, hb, fun σ' H' g' k' => q σ' H' g' (k1.trans k')⟩
  | @rt n _ e2 e3 m hc hb =>
    cases hr
    refine ⟨F, Xs, T, Tm, env1, true, e2, g1, hc, fun H2 g2 => ?_⟩
    refine Eq.mpr (if_pos rfl) ?_
    exact ⟨fun _ _ => False, fun _ _ z => z.elim, F, Xs, T, Tm, e2, .rt m, _, g2, hb, fun v σ' H' g' k' => q v σ' H' g' (k1.trans k')⟩
theorem free_kept {is : List Nat} {σ σ' : L2.St} (h : freeOf pn is = true) (k : ∀ i, i ∉ is → σ'[i]? = σ[i]?) : Kept pn σ σ' := fun j hj => k j fun z => by
  have := List.all_eq_true.mp h j z
  simp only [Bool.not_eq_true', List.contains_eq_mem, decide_eq_false_iff_not] at this
  exact this hj
theorem psx_for {tg it : Expr} {t : Tg} {w : Wk × Es} {a : List Stmt} {A : Ss} {pos : Pos} (htp : (w.1 = .en ∨ w.1 = .zp) → ∃ ts, t = .tp ts) (o : Ok X U Γ sc) (hi : PI X tg it (TIo X.K Γ w.1 w.2)) (hg : PG X tg (TGt X.K t)) (ha : ∀ pn, PSs X a (TSx X.K pn (execSs Γ pn A))) (hf : ∀ x, foldedSetIterable it X.env x = pure x) : PS X (.For tg it a [] pos) (TSx X.K pn (execS Γ pn (.loop t w.1 w.2 A))) := by
  refine ⟨fun pins s σ H D I hh => ?_⟩
  obtain ⟨F, Xs, T, Tm, env, fl, env', g, ev, q⟩ := hh
  unfold execS at ev
  rw [bsi] at ev
  obtain ⟨⟨ops, env1⟩, h1, ev⟩ := ev
  rw [bsi] at ev
  obtain ⟨ms, h2, ev⟩ := ev
  obtain ⟨n, hI⟩ := forLp_I _ _ _ ev
  simp only at h2
  refine (ps_for o.pass o.calm hi hg (ha (opSlots ops ++ pn)) hf).run pins s σ H D I ?_
  have hne : nextI w.1 ms 0 ≠ none := by
    have hk : ∃ o, nextK w.1 ops (ms.map kdM) 0 env1 = some o := by
      generalize (fl, env') = r at hI
      cases hI with
      | stop h => exact ⟨_, h⟩
      | go h => exact ⟨_, h⟩
      | bk h => exact ⟨_, h⟩
      | rt h => exact ⟨_, h⟩
    obtain ⟨o, ho⟩ := hk
    unfold nextK at ho
    rw [h2, Option.bind_some, if_pos rfl] at ho
    rw [ho]
    exact fun z => nomatch z
  refine ⟨F, Xs, T, Tm, env, ops, env1, ms, g, h1, h2, hne, fun xs H1 U1 Um J r g1 hw => ?_⟩
  refine ⟨fun i m σ1 H1 => ∃ env2, FoI (nextK w.1 ops (ms.map kdM)) (setTp (opSlots ops ++ pn) t) (fun env => execSs Γ (opSlots ops ++ pn) A env) m i env2 (fl, env') ∧ Good X.K F Xs H1 σ1 env2 (U1 ++ T) (Um ++ Tm) ∧ Kept (opSlots ops ++ pn) σ σ1, ⟨n, env1, hI, g1, .refl⟩, ?_⟩
  rintro i m σ1 H2 ⟨env2, hI, g2, k2⟩
  have hsl : ∀ j ∈ opSlots ops, ∀ v m, σ[j]? = some (some v) → slot env2 j = some m → σ1[j]? = some (some v) := fun j hj v m hv _ => by
    rw [k2 j (List.mem_append_left _ hj)]; exact hv
  have tn := Good.turn (A := []) (Am := []) (k := i) g2 rfl r hsl htp hw
  have kp : ∀ {σ' : L2.St}, Kept (opSlots ops ++ pn) σ1 σ' → Kept pn σ σ' := fun k3 j hj => by
    rw [k3 j (List.mem_append_right _ hj), k2 j (List.mem_append_right _ hj)]
  have set : ∀ {d : PyData} {e3 : EnvM}, setTp (opSlots ops ++ pn) t d env2 = some e3 → setT t d env2 = some e3 ∧ freeOf (opSlots ops ++ pn) t.slots = true := fun {d e3} h => by
    unfold setTp at h
    split at h
    · next hf => exact ⟨h, hf⟩
    · cases h
  generalize hr : (fl, env') = rr at hI
  cases hI with
  | stop hs =>
    cases hr
    exact .inl ⟨tn.2 hs, q σ1 H2 (g2.popN r.lenU) fun j hj => k2 j (List.mem_append_right _ hj)⟩
  | @go n _ _ e3 e4 d f _ hs hst hbd hf2 rest =>
    subst hr
    obtain ⟨st, fr⟩ := set hst
    refine .inr ⟨(tn.1 d hs).1, fun σ' H' => ∃ env2, FoI (nextK w.1 ops (ms.map kdM)) (setTp (opSlots ops ++ pn) t) (fun env => execSs Γ (opSlots ops ++ pn) A env) n (i + 1) env2 (fl, env') ∧ Good X.K F Xs H' σ' env2 (U1 ++ T) (Um ++ Tm) ∧ Kept (opSlots ops ++ pn) σ σ', fun σ' H' hN => ⟨n, Nat.lt_succ_self _, hN⟩, fun x H3 hy => ?_⟩
    refine ⟨F, Xs, U1 ++ T, Um ++ Tm, env2, d, e3, (tn.1 d hs).2 x H3 hy, st, fun σ3 g3 k3 => ?_⟩
    have k3' := free_kept fr k3
    refine ⟨F, Xs, U1 ++ T, Um ++ Tm, e3, f, e4, g3, hbd, ?_⟩
    rcases hf2 with rfl | rfl
    · exact fun σ' H' g' k' => ⟨e4, rest, g', (k2.trans k3').trans k'⟩
    · exact fun σ' H' g' k' => ⟨e4, rest, g', (k2.trans k3').trans k'⟩
  | @bk n _ _ e3 e4 d hs hst hbd =>
    cases hr
    obtain ⟨st, fr⟩ := set hst
    refine .inr ⟨(tn.1 d hs).1, fun _ _ => False, fun _ _ z => z.elim, fun x H3 hy => ?_⟩
    refine ⟨F, Xs, U1 ++ T, Um ++ Tm, env2, d, e3, (tn.1 d hs).2 x H3 hy, st, fun σ3 g3 k3 => ?_⟩
    have k3' := free_kept fr k3
    exact ⟨F, Xs, U1 ++ T, Um ++ Tm, e3, .bk, _, g3, hbd, fun σ' H' g' k' => q σ' H' (g'.popN r.lenU) (kp (k3'.trans k'))⟩
  | @rt n _ _ e3 e4 d m hs hst hbd =>
    cases hr
    obtain ⟨st, fr⟩ := set hst
    refine .inr ⟨(tn.1 d hs).1, fun _ _ => False, fun _ _ z => z.elim, fun x H3 hy => ?_⟩
    refine ⟨F, Xs, U1 ++ T, Um ++ Tm, env2, d, e3, (tn.1 d hs).2 x H3 hy, st, fun σ3 g3 k3 => ?_⟩
    have k3' := free_kept fr k3
    exact ⟨F, Xs, U1 ++ T, Um ++ Tm, e3, .rt m, _, g3, hbd, fun v σ' H' g' k' => q v σ' H' ((Good.dim r.lenU g').popN r.lenU) (kp (k3'.trans k'))⟩
end
end D8

namespace D8
open PySem PySem.Spec PyProof.Rows L2
/-! ### assignments -/
def TGa (K : PySem.W.Frag) (Γ : Gam) (pn : List Nat) (t : At) : TG := fun v σ H Q => ∃ F Xs T Tm env m env', Good K F Xs H σ env (v :: T) (m :: Tm) ∧ store Γ pn t m env = some env' ∧ ∀ σ' H', Good K F Xs H' σ' env' T Tm → Kept pn σ σ' → Q σ' H'
def TGas (K : PySem.W.Frag) (Γ : Gam) (pn : List Nat) (ts : List At) : TGs := fun vs σ H Q => ∃ F Xs T Tm env ms env', Good K F Xs H σ env (vs ++ T) (ms ++ Tm) ∧ vs.length = ms.length ∧ storeAll Γ pn ts ms env = some env' ∧ ∀ σ' H', Good K F Xs H' σ' env' T Tm → Kept pn σ σ' → Q σ' H'
section
variable {X : Cx} {U : Sur} {Γ : Gam} {sc : Scope} {pn : List Nat}
theorem store_nm {Γ : Gam} {pn : List Nat} {i : Nat} {m : M} {env : EnvM} : store Γ pn (.nm i) m env = if freeOf pn [i] = true ∧ i < env.length then some (env.set i (some m)) else none := by rw [store]
theorem store_tp {Γ : Gam} {pn : List Nat} {ts : Tgs} {d : PyData} {env : EnvM} : store Γ pn (.tp ts) (.im d) env = setTp pn (.tp ts) d env := by rw [store]
theorem kept_set {i : Nat} {σ : L2.St} {u : Option V} (h : freeOf pn [i] = true) : Kept pn σ (σ.set i u) := free_kept h fun j hj => List.getElem?_set_ne (fun z => hj (by simp [z]))
theorem pga_nm {x : Str} {i : Nat} {pos : Pos} (nd : X.N.Nodup) (hi : X.N[i]? = some x) (tk : Tok X sc) (ho : isOwn sc x = true) : PG X (.Name x pos) (TGa X.K Γ pn (.nm i)) :=
  PG.weak (pg_name nd hi (tk x ho).1 (tk x ho).2) fun v σ H Q ⟨F, Xs, T, Tm, env, m, env', g, e, q⟩ => by
    rw [store_nm] at e
    split at e
    · next hc => cases e; exact q _ _ (g.set hc.2) (kept_set hc.1)
    · cases e
theorem pga_tp {ts : Tgs} {tg : Expr} (h : PG X tg (TGt X.K (.tp ts))) : PG X tg (TGa X.K Γ pn (.tp ts)) :=
  PG.weak h fun v σ H Q ⟨F, Xs, T, Tm, env, m, env', g, e, q⟩ => by
    cases m with
    | im d =>
      rw [store_tp] at e
      unfold setTp at e
      split at e
      · next hf => exact ⟨F, Xs, T, Tm, env, d, env', .inl g, e, fun σ' g' k => q σ' H g' (free_kept hf k)⟩
      · cases e
    | ml xs =>
      rw [store] at e
      unfold setTp at e
      split at e
      · next hf => exact ⟨F, Xs, T, Tm, env, .list (fzs xs), env', .inr (.inr (g.unml)), e, fun σ' g' k => q σ' H g' (free_kept hf k)⟩
      · cases e
    | _ => simp [store] at e
theorem pset_ok (hu : X.A.units + 1 < cLine) : PSet X (fun o i v H Q => mtO X.K .setIx o [i, v] H fun _ H' => Q H') := by
  intro pins s σ H o i v ov iv u Q I ro ri rv h
  obtain ⟨i', y, e, h⟩ := h
  cases e
  rcases h with h | ⟨a, kvs, k, rfl, rfl, hD, hl, q⟩
  · exact set_list pins s σ H o i v ov iv u Q I ro ri rv h
  · cases ro
    exact d_setItem hu I (DPut.k hD hl) ri rv fun s' I' => ⟨_, I', q⟩
theorem store_ix {i : Nat} {path : Es} {k : E} {m : M} {env env' : EnvM} (h : store Γ pn (.ix i path k) m env = some env') : ∃ ps kd e' x q, evalQs Γ path (frzE env) = some ps ∧ evalE Γ k (frzE env) = some (kd, e') ∧ clean kd.fz = true ∧ slot env i = some x ∧ atP (fun x => mtF .setIx x ([.im kd.fz] ++ [m])) ps x = some q ∧ env' = env.set i (some q.1) := by
  unfold store at h
  rw [bsi] at h
  obtain ⟨ps, h1, h⟩ := h
  rw [bsi] at h
  obtain ⟨as, h2, h⟩ := h
  rw [bsi] at h
  obtain ⟨x, h3, h⟩ := h
  rw [msi] at h
  obtain ⟨q, h4, rfl⟩ := h
  obtain ⟨kd, e', h5, h6, rfl⟩ := evalQs_one (e := k) h2
  exact ⟨ps, kd, e', x, q, h1, h5, h6, h3, h4, rfl⟩
/-- the last step: at the receiver, the key, the value -/
theorem set_fin {F : Hp} {Xs : List Addr} {T : List V} {Tm : List M} {env : EnvM} {m kd x : M} {q : M × M} {ps : List M} {e' : EnvM} {k : E} {i : Nat} {σ : L2.St} {H1 : Hp} {v w : V} {Q : L2.St → Hp → Prop} (g : Good X.K F Xs H1 σ env (v :: T) (m :: Tm)) (h5 : evalE Γ k (frzE env) = some (kd, e')) (h6 : clean kd.fz = true) (h3 : slot env i = some x)
    (h4 : atP (fun x => mtF .setIx x ([.im kd.fz] ++ [m])) ps x = some q) (pt : ∃ root, σ[i]? = some (some root) ∧ PtV H1 root ps w) (hq : ∀ σ' H', Good X.K F Xs H' σ' (env.set i (some q.1)) T Tm → Kept pn σ σ' → Q σ' H') :
    TQ1 X.K Γ k σ H1 fun kv H2 => mtO X.K .setIx w [kv, v] H2 fun _ H3 => Q σ H3 := by
  refine ⟨F, Xs, v :: T, m :: Tm, env, kd, e', g, h5, h6, fun kv H2 sm g2 => ?_⟩
  obtain ⟨root, hr, p1⟩ := pt
  obtain ⟨x', r⟩ := q
  obtain ⟨root', w', hr', p2, fin⟩ := Good.op (A := [kv, v]) (Am := [.im kd.fz, m]) g2 rfl h3 h4
  rw [hr] at hr'
  cases hr'
  have := p1.inj sm p2
  subst this
  exact fin _ fun rv H' g' => hq σ H' g'.pop .refl
theorem pga_ix0 {a k : Expr} {B : E} {i : Nat} {pos : Pos} (hu : X.A.units + 1 < cLine) (hn : ∀ lo hi st q, k ≠ .Slice lo hi st q) (ha : OkE X Γ a (.nm i)) (hk : OkE X Γ k B) : PG X (.Subscript a k pos) (TGa X.K Γ pn (.ix i .nil B)) :=
  PG.weak (pg_sub ha.o (PE.weak hk.v TQ1_of) (pset_ok hu) (fun v => by cases k <;> first | rfl | exact absurd rfl (hn _ _ _ _))) fun v σ H Q ⟨F, Xs, T, Tm, env, m, env', g, e, q⟩ => by
    obtain ⟨ps, kd, e', x, qq, h1, h5, h6, h3, h4, rfl⟩ := store_ix e
    cases h1
    obtain ⟨root, w, hr, pt, _⟩ := g.pt h3 h4
    rcases pt with ⟨_, rfl⟩ | ⟨_, _, _, z, _⟩ | ⟨_, _, _, _, z, _⟩
    · refine TOn g h3 hr (set_fin g h5 h6 h3 h4 ⟨_, hr, .inl ⟨rfl, rfl⟩⟩ q) fun v' H' e g' => ?_
      subst e
      exact set_fin g' h5 h6 h3 h4 ⟨_, hr, .inl ⟨rfl, rfl⟩⟩ q
    · cases z
    · cases z
theorem pga_ix1 {a b k : Expr} {A B : E} {i : Nat} {p pos : Pos} (hu : X.A.units + 1 < cLine) (hs : PlainIx b) (ha : OkE X Γ a (.nm i)) (hb : OkE X Γ b A) (hn : ∀ lo hi st q, k ≠ .Slice lo hi st q) (hk : OkE X Γ k B) : PG X (.Subscript (.Subscript a b p) k pos) (TGa X.K Γ pn (.ix i (Es.ofL [A]) B)) :=
  PG.weak (pg_sub (rec_ix (p := p) hu hs ha hb) (PE.weak hk.v TQ1_of) (pset_ok hu) (fun v => by cases k <;> first | rfl | exact absurd rfl (hn _ _ _ _))) fun v σ H Q ⟨F, Xs, T, Tm, env, m, env', g, e, q⟩ => by
    obtain ⟨ps, kd, e', x, qq, h1, h5, h6, h3, h4, rfl⟩ := store_ix e
    exact rec_w g h3 h1 h4 fun w H' g' pt _ => set_fin g' h5 h6 h3 h4 pt q
theorem PG.no {e : Expr} {t : TG} (h : ∀ v σ H Q, ¬ t v σ H Q) : PG X e t := ⟨fun pins s σ H v u Q I r q => (h _ _ _ _ q).elim⟩
theorem psx_asg {tg e : Expr} {c : E} {t : At} {pos : Pos} (he : PE X e (TEe X.K Γ c)) (hg : PG X tg (TGa X.K Γ pn t)) (hs : swapsWithSole [tg] e pos.line X.env = pure false) (hw : swappedStores [tg] e X.env = pure none) (h1 : (assignEach [tg] X.env).map (·.2) = [assign tg X.env]) :
    PS X (.Assign [tg] e pos) (TSx X.K pn (execS Γ pn (.asg t c))) :=
  PS.weak (ps_asg he hg hs hw h1) fun D σ H ⟨F, Xs, T, Tm, env, fl, env', g, ev, q⟩ => by
    unfold execS at ev
    rw [bsi] at ev
    obtain ⟨⟨m, e1⟩, h1, ev⟩ := ev
    rw [msi] at ev
    obtain ⟨e2, h2, h3⟩ := ev
    cases h3
    exact ⟨F, Xs, T, Tm, env, m, e1, g, h1, fun v H' g' => ⟨F, Xs, T, Tm, e1, m, _, g', h2, fun σ' H2 g2 k => q σ' H2 g2 k⟩⟩
theorem psx_lc {s : Stmt} {c : E} {i : Nat} (h : PS X s (tAsg (TEe X.K Γ c) (gName i))) : PS X s (TSx X.K pn (execS Γ pn (.asg (.nm i) c))) :=
  PS.weak h fun D σ H ⟨F, Xs, T, Tm, env, fl, env', g, ev, q⟩ => by
    unfold execS at ev
    rw [bsi] at ev
    obtain ⟨⟨m, e1⟩, h1, ev⟩ := ev
    rw [msi] at ev
    obtain ⟨e2, h2, h3⟩ := ev
    cases h3
    rw [store_nm] at h2
    split at h2
    · next hc =>
      cases h2
      exact ⟨F, Xs, T, Tm, env, m, e1, g, h1, fun v H' g' => q _ _ (g'.set hc.2) (kept_set hc.1)⟩
    · cases h2
/-! several at once -/
theorem pgas_nil : PGs X [] (TGas X.K Γ pn []) := PGs.weak pgs_nil fun vs σ H Q ⟨F, Xs, T, Tm, env, ms, env', g, hl, e, q⟩ => by
  cases ms with
  | nil =>
    unfold storeAll at e
    cases e
    obtain rfl := List.length_eq_zero_iff.mp hl
    exact ⟨rfl, q σ H g .refl⟩
  | cons _ _ => cases e
theorem pgas_cons {t : Expr} {ts : List Expr} {a : At} {as : List At} (h : PG X t (TGa X.K Γ pn a)) (hs : PGs X ts (TGas X.K Γ pn as)) (h1 : (assignEach (t :: ts) X.env).map (·.2) = assign t X.env :: (assignEach ts X.env).map (·.2)) : PGs X (t :: ts) (TGas X.K Γ pn (a :: as)) :=
  PGs.weak (pgs_cons h hs h1) fun vs σ H Q ⟨F, Xs, T, Tm, env, ms, env', g, hl, e, q⟩ => by
    cases ms with
    | nil => cases e
    | cons m ms =>
      unfold storeAll at e
      rw [bsi] at e
      obtain ⟨e1, h2, h3⟩ := e
      match vs, hl with
      | v :: vs, hl => exact ⟨v, vs, rfl, F, Xs, vs ++ T, ms ++ Tm, env, m, e1, g, h2, fun σ' H' g' k => ⟨F, Xs, T, Tm, e1, ms, env', g', by simpa using hl, h3, fun σ2 H2 g2 k2 => q σ2 H2 g2 (k.trans k2)⟩⟩
theorem storeAll_len {Γ : Gam} {pn : List Nat} : ∀ {ts : List At} {ms : List M} {env env' : EnvM}, storeAll Γ pn ts ms env = some env' → ms.length = ts.length
  | [], [], _, _, _ => rfl
  | [], _ :: _, _, _, h => nomatch h
  | _ :: _, [], _, _, h => nomatch h
  | t :: ts, m :: ms, env, env', h => by
    unfold storeAll at h
    rw [bsi] at h
    obtain ⟨e1, _, h2⟩ := h
    exact congrArg (· + 1) (storeAll_len h2)
/-- a tuple is laid, kept by nobody -/
theorem Good.laid {K : PySem.W.Frag} {F : Hp} {Xs : List Addr} {H : Hp} {σ : L2.St} {env : EnvM} {T vs : List V} {Tm : List M} {p : Addr} {od : Obj} (g : Good K F Xs H σ env T Tm) (hp : H p = none) : Good K F Xs (upd H p (tupO od vs)) σ env T Tm := g.same (Same.upd hp)
theorem psx_parT {ts es : List Expr} {as : List At} {cs : List E} {k k2 : Nat} {p p2 pos : Pos} (o : Ok X U Γ sc) (hz : as.length ≤ sizeLine) (he : PA X es (TVs X.K Γ (Es.ofL cs))) (hg : PGs X ts (TGas X.K Γ pn as)) (hl : (assignEach ts X.env).length = as.length) (hst : (assignEach ts X.env).findIdx? (·.1) = none)
    (hw : swappedStores [.Tuple ts k p] (.Tuple es k2 p2) X.env = pure none) : PS X (.Assign [.Tuple ts k p] (.Tuple es k2 p2) pos) (TSx X.K pn (execS Γ pn (.par as (Es.ofL cs)))) :=
  PS.weak (ps_asg (pe_tupF he) (pg_tup o.calm hg hl hst) rfl hw rfl) fun D σ H ⟨F, Xs, T, Tm, env, fl, env', g, ev, q⟩ => by
    unfold execS at ev
    rw [bsi] at ev
    obtain ⟨⟨ms, e1⟩, h1, ev⟩ := ev
    rw [msi] at ev
    obtain ⟨e2, h2, h3⟩ := ev
    cases h3
    refine ⟨F, Xs, T, Tm, env, ms, e1, g, h1, fun vs H1 hv g1 => ⟨?_, fun p od hp _ => ⟨p, vs, rfl, tupO_sq upd_same, ?_, F, Xs, T, Tm, e1, ms, _, g1.laid hp, hv, h2, fun σ' H2 g2 k => q σ' H2 g2 k⟩⟩⟩
    · rw [hv, storeAll_len h2]; exact hz
    · rw [hv, storeAll_len h2]
theorem psx_par2 {x y : Str} {a b : Expr} {i j : Nat} {cs : List E} {k k2 : Nat} {px py p p2 pos : Pos} (o : Ok X U Γ sc) (hi : X.N[i]? = some x) (hj : X.N[j]? = some y) (hij : i ≠ j) (hx : X.env.scope.names.lookup x = some .local) (hy : X.env.scope.names.lookup y = some .local) (he : PA X [a, b] (TVs X.K Γ (Es.ofL cs)))
    (hw : swappedStores [.Tuple [.Name x px, .Name y py] k p] (.Tuple [a, b] k2 p2) X.env = pure (some [x, y])) : PS X (.Assign [.Tuple [.Name x px, .Name y py] k p] (.Tuple [a, b] k2 p2) pos) (TSx X.K pn (execS Γ pn (.par [.nm i, .nm j] (Es.ofL cs)))) :=
  PS.weak (ps_par o.calm o.nd hi hj hij hx hy he hw) fun D σ H ⟨F, Xs, T, Tm, env, fl, env', g, ev, q⟩ => by
    unfold execS at ev
    rw [bsi] at ev
    obtain ⟨⟨ms, e1⟩, h1, ev⟩ := ev
    rw [msi] at ev
    obtain ⟨e2, h2, h3⟩ := ev
    cases h3
    refine ⟨F, Xs, T, Tm, env, ms, e1, g, h1, fun vs H1 hv g1 => ?_⟩
    have hl := storeAll_len h2
    match ms, vs, hl, hv, h2, g1 with
    | [m, n], [v, w], _, _, h2, g1 =>
      unfold storeAll at h2
      rw [bsi] at h2
      obtain ⟨e3, h4, h2⟩ := h2
      unfold storeAll at h2
      rw [bsi] at h2
      obtain ⟨e4, h5, h2⟩ := h2
      cases h2
      rw [store_nm] at h4 h5
      split at h4
      · next c1 =>
        cases h4
        split at h5
        · next c2 =>
          cases h5
          exact ⟨v, w, rfl, q _ _ ((g1.set c1.2).set c2.2) ((kept_set c1.1).trans (kept_set c2.1))⟩
        · cases h5
      · cases h4
theorem psx_par3 {x y z : Str} {a b d : Expr} {i j l : Nat} {cs : List E} {k k2 : Nat} {px py pz p p2 pos : Pos} (o : Ok X U Γ sc) (hi : X.N[i]? = some x) (hj : X.N[j]? = some y) (hl : X.N[l]? = some z) (hij : i ≠ j) (hil : i ≠ l) (hjl : j ≠ l) (hx : X.env.scope.names.lookup x = some .local) (hy : X.env.scope.names.lookup y = some .local) (hz : X.env.scope.names.lookup z = some .local) (he : PA X [a, b, d] (TVs X.K Γ (Es.ofL cs)))
    (hw : swappedStores [.Tuple [.Name x px, .Name y py, .Name z pz] k p] (.Tuple [a, b, d] k2 p2) X.env = pure (some [x, y, z])) : PS X (.Assign [.Tuple [.Name x px, .Name y py, .Name z pz] k p] (.Tuple [a, b, d] k2 p2) pos) (TSx X.K pn (execS Γ pn (.par [.nm i, .nm j, .nm l] (Es.ofL cs)))) :=
  PS.weak (ps_par3 o.calm o.nd hi hj hl hij hil hjl hx hy hz he hw) fun D σ H ⟨F, Xs, T, Tm, env, fl, env', g, ev, q⟩ => by
    unfold execS at ev
    rw [bsi] at ev
    obtain ⟨⟨ms, e1⟩, h1, ev⟩ := ev
    rw [msi] at ev
    obtain ⟨e2, h2, h3⟩ := ev
    cases h3
    refine ⟨F, Xs, T, Tm, env, ms, e1, g, h1, fun vs H1 hv g1 => ?_⟩
    have hl := storeAll_len h2
    match ms, vs, hl, hv, h2, g1 with
    | [m, n, r], [v, w, u], _, _, h2, g1 =>
      unfold storeAll at h2
      rw [bsi] at h2
      obtain ⟨e3, h4, h2⟩ := h2
      unfold storeAll at h2
      rw [bsi] at h2
      obtain ⟨e4, h5, h2⟩ := h2
      unfold storeAll at h2
      rw [bsi] at h2
      obtain ⟨e5, h6, h2⟩ := h2
      cases h2
      rw [store_nm] at h4 h5 h6
      split at h4
      · next c1 =>
        cases h4
        split at h5
        · next c2 =>
          cases h5
          split at h6
          · next c3 =>
            cases h6
            exact ⟨v, w, u, rfl, q _ _ (((g1.set c1.2).set c2.2).set c3.2) (((kept_set c1.1).trans (kept_set c2.1)).trans (kept_set c3.1))⟩
          · cases h6
        · cases h5
      · cases h4
end
end D8

namespace D8
open PySem PySem.Spec PyProof.Rows L2
theorem swp_eq {env : Env} {ts es : List Expr} {k k2 : Nat} {p p2 : Pos} (hb : env.blockKind = .function) : swappedStores [.Tuple ts k p] (.Tuple es k2 p2) env = (if (!(ts.length == 2 || ts.length == 3) || es.length != ts.length) = true then pure none else if es.any starB = true then pure none else
    if ((ts.filterMap (locN env.scope ((ts.head?.map (·.pos.line)).getD 0))).length != ts.length || (ts.filterMap (locN env.scope ((ts.head?.map (·.pos.line)).getD 0))).eraseDups.length != (ts.filterMap (locN env.scope ((ts.head?.map (·.pos.line)).getD 0))).length) = true then pure none
    else if es.all (foldedForSure 8) = true then pure none else if es.all (constantsAlone 8) = true then (do unsupported "assign.tuple-of-constant-expressions:order-of-the-stores"; pure (some (ts.filterMap (locN env.scope ((ts.head?.map (·.pos.line)).getD 0))))) else pure (some (ts.filterMap (locN env.scope ((ts.head?.map (·.pos.line)).getD 0))))) := by
  have h0 : (!(ts.length == 2 || ts.length == 3) || es.length != ts.length || env.blockKind != .function) = (!(ts.length == 2 || ts.length == 3) || es.length != ts.length) := by rw [hb]; simp
  rw [← h0]
  rfl

theorem swp_no {env : Env} {ts es : List Expr} {k k2 : Nat} {p p2 : Pos} (hb : env.blockKind = .function) (h : swp env.scope ts es = some false) : swappedStores [.Tuple ts k p] (.Tuple es k2 p2) env = pure none := by
  rw [swp_eq hb]
  unfold swp at h
  split at h
  · next c => rw [if_pos c]
  · next c =>
    rw [if_neg c]
    split at h
    · next c => rw [if_pos c]
    · next c =>
      rw [if_neg c]
      split at h
      · next c => rw [if_pos c]
      · next c =>
        rw [if_neg c]
        split at h
        · next c => rw [if_pos c]
        · split at h <;> cases h
theorem swp_yes {env : Env} {ts es : List Expr} {k k2 : Nat} {p p2 : Pos} (hb : env.blockKind = .function) (h : swp env.scope ts es = some true) : ∃ names, swappedStores [.Tuple ts k p] (.Tuple es k2 p2) env = pure (some names) ∧ names = ts.filterMap (locN env.scope ((ts.head?.map (·.pos.line)).getD 0)) ∧ names.length = ts.length ∧ names.eraseDups.length = names.length ∧ (ts.length = 2 ∨ ts.length = 3) ∧ es.length = ts.length := by
  unfold swp at h
  split at h
  · cases h
  · next c1 =>
    split at h
    · cases h
    · next c2 =>
      split at h
      · cases h
      · next c3 =>
        split at h
        · cases h
        · next c4 =>
          split at h
          · cases h
          · next c5 =>
            refine ⟨_, by rw [swp_eq hb, if_neg c1, if_neg c2, if_neg c3, if_neg c4, if_neg c5], rfl, ?_, ?_, ?_, ?_⟩
            · simp only [Bool.or_eq_true, bne_iff_ne, ne_eq, not_or, Decidable.not_not] at c3; exact c3.1
            · simp only [Bool.or_eq_true, bne_iff_ne, ne_eq, not_or, Decidable.not_not] at c3; exact c3.2
            · simp only [Bool.or_eq_true, Bool.not_eq_true', Bool.or_eq_false_iff, beq_eq_false_iff_ne, bne_iff_ne, ne_eq, not_or, Decidable.not_not, not_and] at c1
              by_cases z : ts.length = 2
              · exact .inl z
              · exact .inr (c1.1 z)
            · simp only [Bool.or_eq_true, bne_iff_ne, ne_eq, not_or, Decidable.not_not] at c1; exact c1.2
theorem locN_is {sc : Scope} {line : Nat} {t : Expr} {x : Str} (h : locN sc line t = some x) : ∃ pos, t = .Name x pos ∧ sc.names.lookup x = some .local := by
  cases t with
  | Name y pos =>
    have h : (if (sc.names.lookup y == some .local && pos.line == line) = true then some y else none) = some x := h
    split at h
    · next c =>
      cases h
      simp only [Bool.and_eq_true, beq_iff_eq] at c
      exact ⟨pos, rfl, c.1⟩
    · cases h
  | _ => simp [locN] at h
theorem fm_cons {α β : Type} {f : α → Option β} {a : α} {l : List α} (h : ((a :: l).filterMap f).length = (a :: l).length) : ∃ b, f a = some b ∧ (a :: l).filterMap f = b :: l.filterMap f ∧ (l.filterMap f).length = l.length := by
  cases e : f a with
  | none =>
    rw [List.filterMap_cons_none e] at h
    have := List.length_filterMap_le f l
    simp only [List.length_cons] at h
    omega
  | some b =>
    rw [List.filterMap_cons_some e] at h ⊢
    simp only [List.length_cons] at h
    exact ⟨b, rfl, rfl, by omega⟩
section
variable {X : Cx} {U : Sur} {Γ : Gam} {sc : Scope} {pn : List Nat}
theorem okE' (o : Ok X U Γ sc) {e : Expr} {c : E} (h : cE U sc e = some c) : OkE X Γ e c := okE (sizeOf e + 1) X sc o e c h (by omega)
theorem okL' (o : Ok X U Γ sc) {e : List Expr} {c : List E} (h : cEL U sc e = some c) : OkEs X Γ e c := okL (sizeOf e + 1) X sc o e c h (by omega)
theorem okI' (o : Ok X U Γ sc) {e tg : Expr} {w : Wk × Es} (h : cIt U sc e = some w) (ht : tupW w.1 tg = true) : PI X tg e (TIo X.K Γ w.1 w.2) :=
  okI X sc o e tg w h ht (fun c hc => okE' o hc) (fun cs hcs => okA (sizeOf e + 1) X sc o e cs hcs (by omega))
theorem ps_lcSet (o : Ok X U Γ sc) {e : Expr} {gs : List Comprehension} {bs : Scope} {pos spos py : Pos} {c : E} {y : Str} {i : Nat} (h : cE U sc (.ListComp e gs bs pos) = some c) (hy : X.N[i]? = some y) (hyl : X.env.scope.names.lookup y = some .local)
    (hsw : swapsWith (.ListComp e gs bs pos) (some (.Name y py)) spos.line X.env = pure true) : PS X (.Assign [.Name y py] (.ListComp e gs bs pos) spos) (tAsg (TEe X.K Γ c) (gName i)) := by
  cases gs with
  | nil => cases h
  | cons g gs =>
    cases gs with
    | cons _ _ => exact absurd h (by simp [cE])
    | nil =>
      obtain ⟨t, it, ifs, k⟩ := g
      by_cases hk : k = 0
      · subst hk
        unfold cE at h
        simp only at h
        split at h
        · next hb =>
          rw [bsi] at h
          obtain ⟨w, h1, h⟩ := h
          split at h
          · cases h
          · next hw =>
            rw [bsi] at h
            obtain ⟨t', h2, h⟩ := h
            split at h
            · cases h
            · next hts =>
              rw [bsi] at h
              obtain ⟨c', h3, h⟩ := h
              have pi : PI X t it (TIo X.K Γ w.1 w.2) := okI' o h1 (by simpa using hw)
              have hsub : ∀ i ∈ t'.slots, i ∈ (ownOf U.N bs).map (·.2) := fun i hi => by
                have h9 : (t'.slots.all fun i => ((ownOf U.N bs).map (·.2)).contains i) = true := by simpa using hts
                have := List.all_eq_true.mp h9 i hi
                simpa using this
              have pe := fun (s : Shared) (H : Hp) (C : Addr) (cl : List (Str × Addr)) (fp : List Addr) => (okE' (o.blk (bs := bs) s H cl C fp) h3).v
              cases ifs with
              | nil =>
                simp only [Option.some.injEq] at h
                subst h
                exact okSetLc (cond := none) (tup_tp (by simpa using hw) h2) o hy hyl hsw hb.1 hb.2 pi h2 hsub (fold_ok (U := U) (sc := sc) (w := w) h1 X.env) (fun _ _ _ _ _ => pts_nil) pe
              | cons q qs =>
                cases qs with
                | cons _ _ => cases h
                | nil =>
                  simp only [msi] at h
                  obtain ⟨d, h4, rfl⟩ := h
                  have pt := fun (s : Shared) (H : Hp) (C : Addr) (cl : List (Str × Addr)) (fp : List Addr) => (okE' (o.blk (bs := bs) s H cl C fp) h4).t
                  exact okSetLc (cond := some d) (tup_tp (by simpa using hw) h2) o hy hyl hsw hb.1 hb.2 pi h2 hsub (fold_ok (U := U) (sc := sc) (w := w) h1 X.env) (fun s H C cl fp => pts_one (pt s H C cl fp)) pe
        · cases h
      · exact absurd h (by simp [cE, hk])
theorem sw_no {e : Expr} {t : Option Expr} {line : Nat} {env : Env} {c : E} (h : cE U sc e = some c) (hl : isLc e = false) : swapsWith e t line env = pure false := by
  cases e <;> first | rfl | exact absurd h (by simp [cE]) | cases hl
/-- one target -/
theorem pgA (o : Ok X U Γ sc) (tk : Tok X sc) {tg : Expr} {t : At} (h : cA U sc tg = some t) : PG X tg (TGa X.K Γ pn t) := by
  cases tg with
  | Name x pos =>
    have h : (if isOwn sc x = true then (U.N.findIdx? (· == x)).map At.nm else none) = some t := h
    split at h
    · next ho =>
      rw [msi] at h
      obtain ⟨i, hi, rfl⟩ := h
      exact pga_nm o.nd (by rw [o.hN]; exact slot_name hi) tk ho
    · cases h
  | Tuple es k pos =>
    have h : (cTs U.N sc es).map At.tp = some t := h
    rw [msi] at h
    obtain ⟨ts, h1, rfl⟩ := h
    exact pga_tp (pgT (U := U) o.nd o.hN o.calm tk (.Tuple es k pos) (.tp ts) (by simp [cT, h1]))
  | Subscript a k pos =>
    have h : (if nmSub a = false then none else (cE U sc a).bind fun o => (pathOf o).bind fun r => (cE U sc k).map fun k => At.ix r.1 (.ofL r.2) k) = some t := h
    split at h
    · cases h
    next hns =>
    rw [bsi] at h
    obtain ⟨O, h1, h⟩ := h
    rw [bsi] at h
    obtain ⟨r, h2, h⟩ := h
    rw [msi] at h
    obtain ⟨B, h3, rfl⟩ := h
    have hu : X.A.units + 1 < cLine := by have := o.un; omega
    have hn : ∀ lo hi st q, k ≠ .Slice lo hi st q := fun lo hi st q z => by subst z; simp [cE] at h3
    by_cases hr : r.2 = []
    · obtain ⟨i, rfl, e2⟩ := path_nil h2 hr
      rw [hr, e2]
      exact pga_ix0 hu hn (okE' o h1) (okE' o h3)
    · cases a with
      | Subscript a b p =>
        by_cases hsl : ∃ A B, O = .pr .idx (.cons A (.cons B .nil)) ∧ cE U sc a = some A ∧ cE U sc b = some B
        · obtain ⟨A, B2, rfl, hA, hB⟩ := hsl
          rcases path_idx h2 with ⟨j, rfl, hr1⟩ | hlong
          · rw [hr1]
            exact pga_ix1 hu (plain_ix hB) (okE' o hA) (okE' o hB) hn (okE' o h3)
          · refine PG.no fun v σ H Q ⟨F, Xs, T, Tm, env, m, env', g, e, q⟩ => ?_
            obtain ⟨ps, kd, e', x, qq, k1, k2, k3, k4, k5, _⟩ := store_ix e
            rw [atP_long (by rw [evalQs_len k1]; exact hlong)] at k5
            cases k5
        · exact (sub_idx h1 h2 hsl).elim
      | Name x p => exact (name_path h1 h2 hr).elim
      | _ => exact absurd rfl hns
  | _ => simp [cA] at h
end
end D8

namespace D8
open PySem PySem.Spec PyProof.Rows L2
section
variable {X : Cx} {U : Sur} {Γ : Gam} {sc : Scope} {pn : List Nat}
theorem eras3 {α : Type} [BEq α] [LawfulBEq α] {x y z : α} (h : [x, y, z].eraseDups.length = [x, y, z].length) : x ≠ y ∧ x ≠ z ∧ y ≠ z := by
  have two : ∀ (a : α) (l : List α), l.length ≤ 1 → (a :: l).eraseDups.length ≤ 2 := by
    intro a l hl
    match l, hl with
    | [], _ => simp [List.eraseDups_cons]
    | [b], _ =>
      rw [List.eraseDups_cons]
      have := List.length_filter_le (fun b => !b == a) [b]
      generalize List.filter (fun b => !b == a) [b] = q at *
      match q, this with
      | [], _ => simp
      | [c], _ => simp [List.eraseDups_cons]
  rw [List.eraseDups_cons] at h
  simp only [List.length_cons, List.length_nil] at h
  have one : ∀ l : List α, l.length ≤ 1 → l.eraseDups.length ≤ 1 := by
    intro l hl
    match l, hl with
    | [], _ => simp
    | [b], _ => simp [List.eraseDups_cons]
  refine ⟨fun e => ?_, fun e => ?_, fun e => ?_⟩
  · subst e
    have := one (List.filter (fun b => !b == x) [x, z]) (by simp only [List.filter_cons, beq_self_eq_true, Bool.not_true, Bool.false_eq_true, if_false, List.filter_nil]; split <;> simp)
    omega
  · subst e
    have := one (List.filter (fun b => !b == x) [y, x]) (by simp only [List.filter_cons, beq_self_eq_true, Bool.not_true, Bool.false_eq_true, if_false, List.filter_nil]; split <;> simp)
    omega
  · subst e
    have : (List.filter (fun b => !b == x) [y, y]).eraseDups.length ≤ 1 := by
      by_cases e : (!y == x) = true
      · simp only [List.filter_cons, e, if_true, List.filter_nil]
        rw [List.eraseDups_cons]
        simp
      · simp only [List.filter_cons, e, if_false, List.filter_nil]
        simp
    omega
theorem cA_nm {x : Str} {p : Pos} {a : At} (h : cA U sc (.Name x p) = some a) : ∃ i, a = .nm i ∧ U.N[i]? = some x := by
  have h : (if isOwn sc x = true then (U.N.findIdx? (· == x)).map At.nm else none) = some a := h
  split at h
  · rw [msi] at h
    obtain ⟨i, hi, rfl⟩ := h
    exact ⟨i, rfl, slot_name hi⟩
  · cases h
theorem pgAs (o : Ok X U Γ sc) (tk : Tok X sc) : ∀ {ts : List Expr} {as : List At}, cAs U sc ts = some as → PGs X ts (TGas X.K Γ pn as) ∧ (assignEach ts X.env).length = as.length ∧ (assignEach ts X.env).findIdx? (·.1) = none
  | [], as, h => by cases h; exact ⟨pgas_nil, rfl, rfl⟩
  | t :: ts, as, h => by
    have h : (cA U sc t).bind (fun t => (cAs U sc ts).map fun ts => t :: ts) = some as := h
    rw [bsi] at h
    obtain ⟨a, h1, h⟩ := h
    rw [msi] at h
    obtain ⟨as', h2, rfl⟩ := h
    obtain ⟨p, l, f⟩ := pgAs o tk h2
    have hst : assignEach (t :: ts) X.env = (false, assign t X.env) :: assignEach ts X.env := by
      cases t <;> first | rfl | (simp [cA] at h1)
    exact ⟨pgas_cons (pgA o tk h1) p (by rw [hst]; rfl), by rw [hst, List.length_cons, l, List.length_cons], by rw [hst, List.findIdx?_cons]; simp [f]⟩
theorem psPar (o : Ok X U Γ sc) (tk : Tok X sc) (hk : X.env.scope.kind = .function) {ts es : List Expr} {as : List At} {cs : List E} {k k2 : Nat} {p p2 pos : Pos} (hw : ¬ (swp sc ts es = none ∨ 100 < ts.length)) (h1 : cAs U sc ts = some as) (h2 : cEL U sc es = some cs) :
    PS X (.Assign [.Tuple ts k p] (.Tuple es k2 p2) pos) (TSx X.K pn (execS Γ pn (.par as (Es.ofL cs)))) := by
  have hb : X.env.blockKind = .function := by unfold Env.blockKind; rw [hk]; rfl
  have oes := okL' o h2
  obtain ⟨pg, gl, gf⟩ := pgAs (pn := pn) o tk h1
  simp only [not_or] at hw
  cases hs : swp sc ts es with
  | none => exact absurd hs hw.1
  | some b =>
    rw [← o.scp] at hs
    cases b with
    | false =>
      have hl : ts.length = as.length := by
        have : ∀ {ts : List Expr} {as : List At}, cAs U sc ts = some as → ts.length = as.length := by
          intro ts
          induction ts with
          | nil => intro as h; cases h; rfl
          | cons t ts ih =>
            intro as h
            have h : (cA U sc t).bind (fun t => (cAs U sc ts).map fun ts => t :: ts) = some as := h
            rw [bsi] at h
            obtain ⟨a, _, h⟩ := h
            rw [msi] at h
            obtain ⟨as', h2, rfl⟩ := h
            exact congrArg (· + 1) (ih h2)
        exact this h1
      exact psx_parT o (by have := hw.2; have := sizeLine_eq; omega) oes.v pg gl gf (swp_no hb hs)
    | true =>
      obtain ⟨names, e1, e2, e3, e4, e5, e6⟩ := swp_yes (k := k) (k2 := k2) (p := p) (p2 := p2) hb hs
      rcases e5 with e5 | e5
      · match ts, e5, es, e6 with
        | [t1, t2], _, [a, b], _ =>
          obtain ⟨x, f1, f2, f3⟩ := fm_cons (e2 ▸ e3)
          obtain ⟨y, g1, g2, g3⟩ := fm_cons f3
          obtain ⟨px, rfl, lx⟩ := locN_is f1
          obtain ⟨py, rfl, ly⟩ := locN_is g1
          have en : names = [x, y] := by rw [e2, f2, g2]; rfl
          subst en
          have hxy : x ≠ y := fun z => by subst z; simp [List.eraseDups] at e4; revert e4; simp [List.eraseDupsBy, List.eraseDupsBy.loop]
          have h1' : (cA U sc (.Name x px)).bind (fun t => ((cA U sc (.Name y py)).bind fun t2 => some [t2]).map fun ts => t :: ts) = some as := h1
          rw [bsi] at h1'
          obtain ⟨a1, k1, h1'⟩ := h1'
          rw [msi] at h1'
          obtain ⟨r, h1', rfl⟩ := h1'
          rw [bsi] at h1'
          obtain ⟨a2, k3, h1'⟩ := h1'
          cases h1'
          obtain ⟨i, rfl, hi⟩ := cA_nm k1
          obtain ⟨j, rfl, hj⟩ := cA_nm k3
          exact psx_par2 o (by rw [o.hN]; exact hi) (by rw [o.hN]; exact hj) (fun z => by subst z; rw [hi] at hj; exact hxy (Option.some.inj hj)) lx ly oes.v e1
      · match ts, e5, es, e6 with
        | [t1, t2, t3], _, [a, b, d], _ =>
          obtain ⟨x, f1, f2, f3⟩ := fm_cons (e2 ▸ e3)
          obtain ⟨y, g1, g2, g3⟩ := fm_cons f3
          obtain ⟨z, m1, m2, m3⟩ := fm_cons g3
          obtain ⟨px, rfl, lx⟩ := locN_is f1
          obtain ⟨py, rfl, ly⟩ := locN_is g1
          obtain ⟨pz, rfl, lz⟩ := locN_is m1
          have en : names = [x, y, z] := by rw [e2, f2, g2, m2]; rfl
          subst en
          obtain ⟨hxy, hxz, hyz⟩ : x ≠ y ∧ x ≠ z ∧ y ≠ z := eras3 e4
          have h1' : (cA U sc (.Name x px)).bind (fun t => ((cA U sc (.Name y py)).bind fun t2 => ((cA U sc (.Name z pz)).bind fun t3 => some [t3]).map fun ts => t2 :: ts).map fun ts => t :: ts) = some as := h1
          rw [bsi] at h1'
          obtain ⟨a1, k1, h1'⟩ := h1'
          rw [msi] at h1'
          obtain ⟨r, h1', rfl⟩ := h1'
          rw [bsi] at h1'
          obtain ⟨a2, k3, h1'⟩ := h1'
          rw [msi] at h1'
          obtain ⟨r, h1', rfl⟩ := h1'
          rw [bsi] at h1'
          obtain ⟨a3, k4, h1'⟩ := h1'
          cases h1'
          obtain ⟨i, rfl, hi⟩ := cA_nm k1
          obtain ⟨j, rfl, hj⟩ := cA_nm k3
          obtain ⟨l, rfl, hl⟩ := cA_nm k4
          exact psx_par3 o (by rw [o.hN]; exact hi) (by rw [o.hN]; exact hj) (by rw [o.hN]; exact hl) (fun z => by subst z; rw [hi] at hj; exact hxy (Option.some.inj hj)) (fun z => by subst z; rw [hi] at hl; exact hxz (Option.some.inj hl)) (fun z => by subst z; rw [hj] at hl; exact hyz (Option.some.inj hl)) lx ly lz oes.v e1
end
end D8

set_option maxHeartbeats 16000000
namespace D8
open PySem PySem.Spec PyProof.Rows L2
section
variable {X : Cx} {U : Sur} {Γ : Gam} {sc : Scope}
theorem psAsg {pn : List Nat} (o : Ok X U Γ sc) (tk : Tok X sc) (hk : X.env.scope.kind = .function) {t e : Expr} {a : At} {c : E} {pos : Pos} (hp : ¬ ∃ ts k p es k2 p2, t = .Tuple ts k p ∧ e = .Tuple es k2 p2) (h1 : cA U sc t = some a) (h2 : cE U sc e = some c) : PS X (.Assign [t] e pos) (TSx X.K pn (execS Γ pn (.asg a c))) := by
  have hw : swappedStores [t] e X.env = pure none := by
    cases t <;> first | rfl | (simp [cA] at h1; done) | (cases e <;> first | rfl | exact absurd ⟨_, _, _, _, _, _, rfl, rfl⟩ hp)
  have h3 : (assignEach [t] X.env).map (·.2) = [assign t X.env] := by
    cases t <;> first | rfl | (simp [cA] at h1; done)
  have go : swapsWithSole [t] e pos.line X.env = pure false → PS X (.Assign [t] e pos) (TSx X.K pn (execS Γ pn (.asg a c))) := fun hs => psx_asg (okE' o h2).v (pgA o tk h1) hs hw h3
  by_cases hl : isLc e = true
  · cases e with
    | ListComp el gs bs p =>
      cases t with
      | Name y py =>
        have hsw : swapsWithSole [.Name y py] (.ListComp el gs bs p) pos.line X.env = pure (X.env.blockKind == .function && X.env.kindOf y == some .local && py.line == p.line && !(bs.names.any fun (n, k) => n == y && (k == .local || k == .cell))) := rfl
        cases hb : (X.env.blockKind == .function && X.env.kindOf y == some .local && py.line == p.line && !(bs.names.any fun (n, k) => n == y && (k == .local || k == .cell))) with
        | false => exact go (by rw [hsw, hb])
        | true =>
          rw [hb] at hsw
          simp only [Bool.and_eq_true, beq_iff_eq] at hb
          obtain ⟨i, rfl, hi⟩ := cA_nm h1
          exact psx_lc (ps_lcSet o h2 (by rw [o.hN]; exact hi) hb.1.1.2 hsw)
      | Tuple _ _ _ => exact go rfl
      | Subscript _ _ _ => exact go rfl
      | _ => simp [cA] at h1
    | _ => cases hl
  · exact go (sw_no h2 (by simpa using hl))
mutual
theorem okS (n : Nat) (o : Ok X U Γ sc) (tk : Tok X sc) (hk : X.env.scope.kind = .function) (pn : List Nat) (s : Stmt) (c : S) (h : cS U sc s = some c) (hs : sizeOf s < n) : PS X s (TSx X.K pn (execS Γ pn c)) := by
  cases n with
  | zero => omega
  | succ n => ?_
  cases s with
  | Assign ts e pos =>
    cases ts with
    | nil => exact absurd h (by simp [cS])
    | cons t ts =>
      cases ts with
      | cons t2 ts => exact absurd h (by cases t <;> cases e <;> simp [cS])
      | nil =>
        by_cases hp : ∃ ts k p es k2 p2, t = .Tuple ts k p ∧ e = .Tuple es k2 p2
        · obtain ⟨ts, k, p, es, k2, p2, rfl, rfl⟩ := hp
          have h : (if swp sc ts es = none ∨ 100 < ts.length then none else (cAs U sc ts).bind fun ts => (cEL U sc es).map fun es => S.par ts (.ofL es)) = some c := h
          split at h
          · cases h
          · next hw =>
            rw [bsi] at h
            obtain ⟨as, h1, h⟩ := h
            rw [msi] at h
            obtain ⟨cs, h2, rfl⟩ := h
            exact psPar o tk hk hw h1 h2
        · have h' : ((cA U sc t).bind fun t => (cE U sc e).map fun e => S.asg t e) = some c := by
            rw [← h]
            cases t <;> first | rfl | (cases e <;> first | rfl | exact absurd ⟨_, _, _, _, _, _, rfl, rfl⟩ hp)
          rw [bsi] at h'
          obtain ⟨a, h1, h'⟩ := h'
          rw [msi] at h'
          obtain ⟨c', h2, rfl⟩ := h'
          exact psAsg o tk hk hp h1 h2
  | Expr e pos =>
    have h : (if isLc e then none else (cE U sc e).map S.ex) = some c := h
    split at h
    · cases h
    · next hl =>
      rw [msi] at h
      obtain ⟨c', h1, rfl⟩ := h
      exact psx_ex (okE' o h1) (sw_no h1 (by simpa using hl))
  | Return v pos =>
    cases v with
    | none => cases h; exact psx_retN
    | some e =>
      have h : (cE U sc e).map (fun c => S.ret c.asMv) = some c := h
      rw [msi] at h
      obtain ⟨c', h1, rfl⟩ := h
      exact psx_ret (okMv (okE' o h1))
  | If t a b pos =>
    have h : ((cE U sc t).bind fun c => (cSs U sc a).bind fun a => (cSs U sc b).map fun b => S.ite c a b) = some c := h
    rw [bsi] at h
    obtain ⟨c', h1, h⟩ := h
    rw [bsi] at h
    obtain ⟨A, h2, h⟩ := h
    rw [msi] at h
    obtain ⟨B, h3, rfl⟩ := h
    exact psx_if (okE' o h1) (okSs n o tk hk pn a A h2 (by simp at hs ⊢; omega)) (okSs n o tk hk pn b B h3 (by simp at hs ⊢; omega))
  | While t a b pos =>
    cases b with
    | cons _ _ => exact absurd h (by simp [cS])
    | nil =>
      have h : ((cE U sc t).bind fun c => (cSs U sc a).map fun a => S.whl c a) = some c := h
      rw [bsi] at h
      obtain ⟨c', h1, h⟩ := h
      rw [msi] at h
      obtain ⟨A, h2, rfl⟩ := h
      exact psx_whl o (okE' o h1) (okSs n o tk hk pn a A h2 (by simp at hs ⊢; omega))
  | For t it a b pos =>
    cases b with
    | cons _ _ => exact absurd h (by simp [cS])
    | nil =>
      have h : ((cIt U sc it).bind fun w => if tupW w.1 t = false then none else (cT U.N sc t).bind fun t => (cSs U sc a).map fun b => S.loop t w.1 w.2 b) = some c := h
      rw [bsi] at h
      obtain ⟨w, h1, h⟩ := h
      split at h
      · cases h
      · next hw =>
        rw [bsi] at h
        obtain ⟨t', h2, h⟩ := h
        rw [msi] at h
        obtain ⟨A, h3, rfl⟩ := h
        exact psx_for (tup_tp (by simpa using hw) h2) o (okI' o h1 (by simpa using hw)) (pgT (U := U) o.nd o.hN o.calm tk t t' h2) (fun pn => okSs n o tk hk pn a A h3 (by simp at hs ⊢; omega)) (fold_ok h1 X.env)
  | Pass pos => cases h; exact psx_pass
  | _ => simp [cS] at h
theorem okSs (n : Nat) (o : Ok X U Γ sc) (tk : Tok X sc) (hk : X.env.scope.kind = .function) (pn : List Nat) (ss : List Stmt) (c : Ss) (h : cSs U sc ss = some c) (hs : sizeOf ss < n) : PSs X ss (TSx X.K pn (execSs Γ pn c)) := by
  cases n with
  | zero => omega
  | succ n => ?_
  cases ss with
  | nil => cases h; exact psx_nil
  | cons s ss =>
    have h : ((cS U sc s).bind fun s => (cSs U sc ss).map fun ss => Ss.cons s ss) = some c := h
    rw [bsi] at h
    obtain ⟨c', h1, h⟩ := h
    rw [msi] at h
    obtain ⟨A, h2, rfl⟩ := h
    exact psx_cons (okS n o tk hk pn s c' h1 (by simp at hs ⊢; omega)) (okSs n o tk hk pn ss A h2 (by simp at hs ⊢; omega))
end
end
end D8

namespace D8
open PySem PySem.Spec PyProof.Rows L2
theorem pins_mem : ∀ {ms : List M} {j k : Nat} {m : M}, ms[k]? = some m → owned m = true → j + k ∈ pins ms j
  | [], _, _, _, h, _ => by simp at h
  | x :: ms, j, 0, m, h, ho => by
    simp at h
    subst h
    unfold pins
    rw [if_pos ho]
    simp
  | x :: ms, j, k + 1, m, h, ho => by
    have := pins_mem (ms := ms) (j := j + 1) (k := k) (by simpa using h) ho
    have e : j + (k + 1) = j + 1 + k := by omega
    unfold pins
    split
    · rw [e]; exact List.mem_cons_of_mem _ this
    · rw [e]; exact this
section
variable {K : PySem.W.Frag} {S : Addr → Prop} {F : Hp} {Xs : List Addr} {H H' : Hp}
theorem RMs.slots : ∀ {vs : List V} {ms : List M} {O : List Addr} (n : Nat), RMs K S H vs ms O → RE K S H (vs.map some ++ List.replicate n none) (ms.map some ++ List.replicate n none) O
  | _, _, _, n, .nil => by
    induction n with
    | zero => exact .nil
    | succ n ih => exact RE.cons (o := []) .no ih
  | _, _, _, n, .cons h r => RE.cons (.so h) (RMs.slots n r)
theorem Good.enter {vs : List V} {ms : List M} (g : Good K F Xs H [] [] vs ms) (n : Nat) : Good K F Xs H (vs.map some ++ List.replicate n none) (ms.map some ++ List.replicate n none) [] [] := by
  obtain ⟨O1, O2, g⟩ := g
  have h1 : O1 = [] := by have := g.re; cases this; rfl
  subst h1
  refine ⟨O2, [], by simpa using g.nd, ?_, .nil, g.frame, fun a ha => g.dis a (by simpa using ha), g.xs⟩
  have := g.rt.slots n
  simpa using this
theorem back_RE (ms : List M) : ∀ {vs : List V} {σ : L2.St} {env : EnvM} {O : List Addr}, vs.length = ms.length → (∀ (i : Nat) (m : M) (v : V), ms[i]? = some m → vs[i]? = some v → owned m = true → σ[i]? = some (some v)) → RE K S H σ env O →
    ∃ O', O'.Sublist O ∧ RMs K S H (keepV vs (backs ms env)) (keepM (backs ms env)) O' := by
  induction ms with
  | nil =>
    intro vs σ env O hl h re
    cases vs with
    | nil => exact ⟨[], List.nil_sublist _, .nil⟩
    | cons _ _ => cases hl
  | cons m ms ih =>
    intro vs σ env O hl h re
    cases vs with
    | nil => cases hl
    | cons v vs =>
      cases re with
      | nil =>
        obtain ⟨O', s, r⟩ := ih (vs := vs) (σ := []) (env := []) (by simpa using hl) (fun i m' v' h1 h2 h3 => by
          have := h (i + 1) m' v' (by simpa using h1) (by simpa using h2) h3
          simp at this) (.nil (K := K) (S := S) (H := H))
        exact ⟨O', s, r⟩
      | @cons x y xs ys o os h0 r =>
        obtain ⟨O', s, r'⟩ := ih (vs := vs) (σ := xs) (env := ys) (by simpa using hl) (fun i m' v' h1 h2 h3 => by
          have := h (i + 1) m' v' (by simpa using h1) (by simpa using h2) h3
          simpa using this) r
        by_cases ho : owned m = true
        · have hx := h 0 m v rfl rfl ho
          simp only [List.getElem?_cons_zero, Option.some.injEq] at hx
          subst hx
          cases h0 with
          | no =>
            refine ⟨O', s.trans (List.sublist_append_right _ _), ?_⟩
            show RMs K S H (keepV (v :: vs) ((if owned m = true then none else none) :: backs ms ys)) (keepM ((if owned m = true then none else none) :: backs ms ys)) O'
            rw [if_pos ho]; exact r'
          | @so _ m1 _ h1 =>
            refine ⟨o ++ O', s.append_left o, ?_⟩
            show RMs K S H (keepV (v :: vs) ((if owned m = true then some m1 else none) :: backs ms ys)) (keepM ((if owned m = true then some m1 else none) :: backs ms ys)) (o ++ O')
            rw [if_pos ho]; exact .cons h1 r'
        · refine ⟨O', s.trans (List.sublist_append_right _ _), ?_⟩
          show RMs K S H (keepV (v :: vs) ((if owned m = true then y else none) :: backs ms ys)) (keepM ((if owned m = true then y else none) :: backs ms ys)) O'
          rw [if_neg ho]; exact r'
theorem Good.leave {ms : List M} {vs : List V} {σ : L2.St} {env : EnvM} {v : V} {m : M} (g : Good K F Xs H σ env [v] [m]) (hl : vs.length = ms.length) (h : ∀ (i : Nat) (m : M) (v : V), ms[i]? = some m → vs[i]? = some v → owned m = true → σ[i]? = some (some v)) : Good K F Xs H [] [] (v :: keepV vs (backs ms env)) (m :: keepM (backs ms env)) := by
  obtain ⟨O1, O2, g⟩ := g
  obtain ⟨O', s, r⟩ := back_RE ms hl h g.re
  have gt := g.rt
  cases gt with
  | @cons _ _ _ _ o o2 hv hn =>
    cases hn
    have sub : ∀ a ∈ [] ++ (o ++ O'), a ∈ O1 ++ (o ++ []) := fun a ha => by
      simp only [List.nil_append, List.append_nil, List.mem_append] at ha ⊢
      exact ha.elim .inr fun z => .inl (s.mem z)
    have k : Kp (Sx (O1 ++ (o ++ [])) Xs) (Sx ([] ++ (o ++ O')) Xs) H H := .same (.refl _) (Sx.mono sub)
    refine ⟨[], o ++ O', ?_, .nil, .cons (hv.kp k fun _ _ => rfl) (r.kp k fun _ _ => rfl), g.frame, fun a ha => g.dis a (sub a ha), g.xs⟩
    have nd := g.nd
    simp only [List.append_nil, List.nodup_append] at nd
    rw [List.nil_append, List.nodup_append]
    exact ⟨nd.2.1, s.nodup nd.1, fun a ha b hb e => nd.2.2 b (s.mem hb) a ha e.symm⟩
end
end D8

namespace D8
open PySem PySem.Spec PyProof.Rows L2
/-- a def, from what its body computes -/
theorem fn_D {P : Program} {w : World} {K : PySem.W.Frag} {mg : Str → Option Value} {base : Heap} {k : Nat} {x qual : Str} {st : Stmt} {f : Addr} {fd : FuncData} {U : Sur} {Γ : Gam} {ps : List Str} {B : Ss} (Fn : Fun K x qual st f fd) (Sc : FnScope U.N ps (defScope st)) (hc : cSs U (defScope st) (defBody st) = some B)
    (hok : ∀ (cd : Value) (A : Around) (up : List Env) (s : Shared) (H : Hp), Room k (A.deeper (envOfC qual (defScope st) s.heap.objs.size f cd)) → A.guards = some [] → Ok (cxOf CX0 P w K mg base U.N qual (defScope st) f cd A up s H E0).nox U Γ (defScope st)) :
    FnG P w K mg base (k + 1) f fd ps (spG K ps.length (callD Γ ⟨ps.length, U.N.length, B⟩)) := by
  refine fn_ofG Fn Sc (fun vs H Q h => h.1) fun cd A up s H vs Q room hg hsp => ?_
  obtain ⟨hl, F, Xs, ms, r, bs, g, ec, hb, q⟩ := hsp
  have o := hok cd A up s H room hg
  have tk : Tok (cxOf CX0 P w K mg base U.N qual (defScope st) f cd A up s H E0).nox (defScope st) := Tok.dfn rfl fun _ => rfl
  unfold callD at ec
  split at ec
  case isFalse => cases ec
  next hml =>
  rw [bsi] at ec
  obtain ⟨⟨fl, env'⟩, h1, h2⟩ := ec
  have hml : ms.length = ps.length := hml
  refine ⟨_, okSs (sizeOf (defBody st) + 1) o tk Sc.kind (pins ms 0) (defBody st) B hc (by omega), F, Xs, [], [], _, fl, env', ?_, h1, ?_⟩
  · have := g.enter (U.N.length - ps.length)
    have e : L2.start U.N vs = vs.map some ++ List.replicate (U.N.length - ps.length) none := by unfold L2.start; rw [hl]
    rw [e]
    exact this
  · have hk : ∀ (σ' : L2.St), Kept (pins ms 0) (L2.start U.N vs) σ' → ∀ (i : Nat) (m : M) (v : V), ms[i]? = some m → vs[i]? = some v → owned m = true → σ'[i]? = some (some v) := fun σ' kept i m v e1 e2 ho => by
      have hi := pins_mem (j := 0) e1 ho
      rw [Nat.zero_add] at hi
      rw [kept i hi]
      unfold L2.start
      have hlt := (List.getElem?_eq_some_iff.mp e2).1
      rw [List.getElem?_append_left (by simpa using hlt), List.getElem?_map, e2]
      rfl
    cases fl with
    | nx =>
      cases h2
      exact fun σ' H' g' kept => q .non H' (Good.leave (g'.pushC fun S => .non) (hl.trans hml.symm) (hk σ' kept))
    | rt m =>
      cases h2
      exact fun v σ' H' g' kept => q v H' (Good.leave g' (hl.trans hml.symm) (hk σ' kept))
    | bk => cases h2
    | ct => cases h2
end D8

namespace D8
open PySem PySem.Spec PyProof.Rows L2
/-! ### all defs of a program -/
structure TD where
  name : Str
  ps : List Str
  N : List Str
  st : Stmt
  B : Ss
def tNames (T : List TD) : List (Str × List Str) := T.map fun d => (d.name, d.ps)
def gamT (T : List TD) : Nat → Gam
  | 0 => fun _ _ => none
  | n + 1 => fun g ms => match T[g]? with
    | some d => callD (gamT T n) ⟨d.ps.length, d.N.length, d.B⟩ ms
    | none => none
/-- what is known of a def before it runs: its text -/
structure TS (T : List TD) (P : List (Nat × Nat × List Str)) (C : List (Str × PyData)) (d : TD) : Prop where
  sc : FnScope d.N d.ps (defScope d.st)
  cc : cSs ⟨d.N, tNames T, P, C⟩ (defScope d.st) (defBody d.st) = some d.B
/-- .. where it stands -/
structure TK (K : PySem.W.Frag) (mg : Str → Option Value) (P : List (Nat × Nat × List Str)) (g : Nat) (d : TD) (f : Addr) (fd : FuncData) : Prop where
  fn : Fun K d.name d.name d.st f fd
  gl : mg d.name = some (.ref f)
  bd : ∀ (s : Shared) (us : List Value), us.length = d.ps.length → BindsTo s fd ⟨us, []⟩ (d.ps.zip us)
  kw : ∀ n ks ix, (g, n, ks) ∈ P → kwIx d.ps n ks = some ix → ∀ (s : Shared) (us ws zs : List Value), us.length = n → ws.length = ks.length → perm ix (us ++ ws) = some zs → BindsTo s fd ⟨us, ks.zip ws⟩ (d.ps.zip zs)
inductive TAll (R : Nat → TD → Prop) : Nat → List TD → Prop
  | nil {i : Nat} : TAll R i []
  | cons {i : Nat} {d : TD} {ds : List TD} : R i d → TAll R (i + 1) ds → TAll R i (d :: ds)
theorem TAll.get {R : Nat → TD → Prop} : ∀ {ds : List TD} {i g : Nat} {d : TD}, TAll R i ds → ds[g]? = some d → R (i + g) d
  | _, _, 0, _, .cons h _, e => by simp at e; subst e; exact h
  | _, i, g + 1, _, .cons _ r, e => by
    have := TAll.get (g := g) r (by simpa using e)
    rwa [Nat.add_right_comm, Nat.add_assoc] at this
def cstOk (K : PySem.W.Frag) (mg : Str → Option Value) (C : List (Str × PyData)) : Prop := ∀ x d, C.lookup x = some d → ∃ v u, mg x = some u ∧ RelV v u ∧ ∀ S H, RV K S H v d
theorem gam_len {T : List TD} {n g : Nat} {ms : List M} {r : M × List (Option M)} {d : TD} (hd : T[g]? = some d) (h : gamT T n g ms = some r) : ms.length = d.ps.length := by
  cases n with
  | zero => cases h
  | succ n =>
    unfold gamT at h
    simp only [hd] at h
    unfold callD at h
    split at h
    · next hl => exact hl
    · cases h
theorem tab {P : Program} {w : World} {K : PySem.W.Frag} {mg : Str → Option Value} {T : List TD} {Pk : List (Nat × Nat × List Str)} {C : List (Str × PyData)} (hS : ∀ (g : Nat) (d : TD), T[g]? = some d → TS T Pk C d) (hK : ∀ (g : Nat) (d : TD), T[g]? = some d → ∃ f fd, TK K mg Pk g d f fd)
    (hb : ∀ x ∈ bltNs, (tNames T).findIdx? (fun p => p.1 == x) = none → mg x = none) (hC : cstOk K mg C) :
    ∀ (n : Nat) (g : Nat) (d : TD), T[g]? = some d → ∀ f fd, TK K mg Pk g d f fd → ∀ base, FnG P w K mg base n f fd d.ps (spG K d.ps.length (gamT T n g)) := by
  intro n
  induction n with
  | zero =>
    intro g d hd f fd k base
    exact ⟨fun vs H Q h => h.1, fun A up s H args us vs Q _ _ _ _ _ h => by
      obtain ⟨_, _, _, _, _, _, _, h, _⟩ := h
      cases h⟩
  | succ n ih =>
    intro g d hd f fd k base
    have hs := hS g d hd
    have e : gamT T (n + 1) g = callD (gamT T n) ⟨d.ps.length, d.N.length, d.B⟩ := by
      funext ms
      simp only [gamT, hd]
    rw [e]
    refine fn_D (U := ⟨d.N, tNames T, Pk, C⟩) k.fn hs.sc hs.cc fun cd A up s H room hg => ?_
    refine ⟨rfl, rfl, hs.sc.nd, rfl, .never, hg, ?_, hb, hC, fun g' x ps hx => ?_⟩
    · have := room.un
      have hc : cLine = cLine := rfl
      show (A.deeper _).units + 150 < cLine
      omega
    · unfold tNames at hx
      rw [List.getElem?_map] at hx
      cases hd' : T[g']? with
      | none => rw [hd'] at hx; cases hx
      | some d' =>
        rw [hd'] at hx
        cases hx
        obtain ⟨f', fd', k'⟩ := hK g' d' hd'
        exact ⟨n, f', fd', ih g' d' hd' f' fd' k' base, room, k'.gl, k'.fn.kp, k'.bd, fun ms r h => gam_len hd' h, k'.kw⟩
end D8

namespace D8
open PySem PySem.Spec PyProof.Rows L2
/-! ### what a run gives -/
def Ev {α : Type} (x : Option α) (Q : α → Prop) : Prop := ∃ a, x = some a ∧ Q a
theorem Ev.mk {α : Type} {x : Option α} {a : α} {Q : α → Prop} (h : x = some a) (q : Q a) : Ev x Q := ⟨a, h, q⟩
@[simp] theorem ev_some {α : Type} {a : α} {Q : α → Prop} : Ev (some a) Q ↔ Q a := ⟨fun ⟨_, e, q⟩ => by cases e; exact q, fun q => ⟨a, rfl, q⟩⟩
theorem Ev.bind {α β : Type} {x : Option α} {f : α → Option β} {P : α → Prop} {Q : β → Prop} (h : Ev x P) (k : ∀ a, P a → Ev (f a) Q) : Ev (x.bind f) Q := by
  obtain ⟨a, rfl, p⟩ := h
  exact k a p
theorem Ev.map {α β : Type} {x : Option α} {f : α → β} {P : α → Prop} {Q : β → Prop} (h : Ev x P) (k : ∀ a, P a → Q (f a)) : Ev (x.map f) Q := by
  obtain ⟨a, rfl, p⟩ := h
  exact ⟨_, rfl, k a p⟩
theorem Ev.mono {α : Type} {x : Option α} {P Q : α → Prop} (h : Ev x P) (k : ∀ a, P a → Q a) : Ev x Q := by
  obtain ⟨a, rfl, p⟩ := h
  exact ⟨_, rfl, k a p⟩
theorem Ev.bind_r {α β : Type} {x : Option α} {f : α → Option β} {Q : β → Prop} (h : Ev (x.bind f) Q) : Ev x fun a => Ev (f a) Q := by
  obtain ⟨b, e, q⟩ := h
  cases x with
  | none => cases e
  | some a => exact ⟨a, rfl, b, e, q⟩
/-! ### loops -/
section
variable {nxt : Nat → EnvM → Option (Option PyData)} {st : PyData → EnvM → Option EnvM} {body : EnvM → Option (Fl × EnvM)}
theorem forLp_from (ds : List PyData) (I : Nat → EnvM → Prop) (R : M → EnvM → Prop) (hn : ∀ k env, I k env → nxt k env = nth ds.length k ds[k]?)
    (hb : ∀ k d env, ds[k]? = some d → I k env → Ev ((st d env).bind body) fun r => match r.1 with
      | .nx => I (k + 1) r.2
      | .ct => I (k + 1) r.2
      | .bk => False
      | .rt m => R m r.2) : ∀ (j k : Nat) (env : EnvM), k + j = ds.length → I k env → Ev (forLp nxt st body k env) fun r => match r.1 with
      | .nx => I ds.length r.2
      | .rt m => R m r.2
      | _ => False
  | 0, k, env, hk, i => by
    rw [forLp, hn k env i]
    have e : k = ds.length := by omega
    subst e
    simp only [nth, Nat.lt_irrefl, if_false, if_true, ev_some]
    exact i
  | j + 1, k, env, hk, i => by
    have hlt : k < ds.length := by omega
    rw [forLp, hn k env i]
    have e : ds[k]? = some ds[k] := List.getElem?_eq_getElem hlt
    simp only [nth, hlt, if_true, e, Option.map_some]
    obtain ⟨⟨fl, env2⟩, h1, h2⟩ := hb k ds[k] env e i
    rw [bsi] at h1
    obtain ⟨env1, h3, h4⟩ := h1
    simp only [h3, h4]
    cases fl with
    | nx => exact forLp_from ds I R hn hb j (k + 1) env2 (by omega) h2
    | ct => exact forLp_from ds I R hn hb j (k + 1) env2 (by omega) h2
    | bk => exact absurd h2 id
    | rt m => exact ⟨_, rfl, h2⟩
theorem forLp_ev (ds : List PyData) (I : Nat → EnvM → Prop) (R : M → EnvM → Prop) {env : EnvM} (h0 : I 0 env) (hn : ∀ k env, I k env → nxt k env = nth ds.length k ds[k]?)
    (hb : ∀ k d env, ds[k]? = some d → I k env → Ev ((st d env).bind body) fun r => match r.1 with
      | .nx => I (k + 1) r.2
      | .ct => I (k + 1) r.2
      | .bk => False
      | .rt m => R m r.2) : Ev (forLp nxt st body 0 env) fun r => match r.1 with
      | .nx => I ds.length r.2
      | .rt m => R m r.2
      | _ => False := forLp_from ds I R hn hb ds.length 0 env (by omega) h0
theorem whLp_ev {c : EnvM → Option (Bool × EnvM)} {I : Nat → EnvM → Prop} {J : EnvM → Prop} {R : M → EnvM → Prop}
    (hb : ∀ n env, I n env → Ev (c env) fun r => (r.1 = false ∧ J r.2) ∨ (r.1 = true ∧ Ev (body r.2) fun q => match q.1 with
      | .nx => ∃ m, m < n ∧ I m q.2
      | .ct => ∃ m, m < n ∧ I m q.2
      | .bk => J q.2
      | .rt m => R m q.2)) : ∀ (n : Nat) (env : EnvM), I n env → Ev (whLp c body env) fun r => match r.1 with
      | .nx => J r.2
      | .rt m => R m r.2
      | _ => False := by
  intro n
  induction n using Nat.strongRecOn with
  | ind n ih =>
    intro env i
    rw [whLp]
    obtain ⟨⟨b, env1⟩, h1, h2⟩ := hb n env i
    rw [h1]
    rcases h2 with ⟨e, j⟩ | ⟨e, ⟨⟨fl, env2⟩, h3, h4⟩⟩
    · subst e; exact ⟨_, rfl, j⟩
    · subst e
      simp only [h3]
      cases fl with
      | nx => obtain ⟨m, hm, i2⟩ := h4; exact ih m hm env2 i2
      | ct => obtain ⟨m, hm, i2⟩ := h4; exact ih m hm env2 i2
      | bk => exact ⟨_, rfl, h4⟩
      | rt m => exact ⟨_, rfl, h4⟩
/-- a comprehension: each item passed over or taken -/
theorem lcLp_from {c : EnvM → Option (Bool × EnvM)} {e : EnvM → Option (M × EnvM)} {w : EnvM → EnvM} (ds : List PyData) (I : Nat → List M → EnvM → Prop) (hn : ∀ k acc env, I k acc env → nxt k env = nth ds.length k ds[k]?)
    (hb : ∀ k d acc env, ds[k]? = some d → I k acc env → Ev ((st d env).bind c) fun r => (r.1 = false ∧ I (k + 1) acc (w r.2)) ∨ (r.1 = true ∧ Ev (e r.2) fun q => acc.length < sizeLine ∧ I (k + 1) (acc ++ [q.1]) (w q.2))) :
    ∀ (j k : Nat) (acc : List M) (env : EnvM), k + j = ds.length → I k acc env → Ev (lcLp nxt st c e w k acc env) fun r => I ds.length r.1 r.2
  | 0, k, acc, env, hk, i => by
    rw [lcLp, hn k acc env i]
    have e : k = ds.length := by omega
    subst e
    simp only [nth, Nat.lt_irrefl, if_false, if_true, ev_some]
    exact i
  | j + 1, k, acc, env, hk, i => by
    have hlt : k < ds.length := by omega
    rw [lcLp, hn k acc env i]
    have e : ds[k]? = some ds[k] := List.getElem?_eq_getElem hlt
    simp only [nth, hlt, if_true, e, Option.map_some]
    obtain ⟨⟨b, env2⟩, h1, h2⟩ := hb k ds[k] acc env e i
    rw [bsi] at h1
    obtain ⟨env1, h3, h4⟩ := h1
    simp only [h3, h4]
    rcases h2 with ⟨eb, h2⟩ | ⟨eb, ⟨⟨m, env3⟩, h5, h6, h7⟩⟩
    · subst eb
      exact lcLp_from ds I hn hb j (k + 1) acc _ (by omega) h2
    · subst eb
      simp only [h5, h6, if_true]
      exact lcLp_from ds I hn hb j (k + 1) _ _ (by omega) h7
theorem lcLp_ev {c : EnvM → Option (Bool × EnvM)} {e : EnvM → Option (M × EnvM)} {w : EnvM → EnvM} (ds : List PyData) (I : Nat → List M → EnvM → Prop) {env : EnvM} (h0 : I 0 [] env) (hn : ∀ k acc env, I k acc env → nxt k env = nth ds.length k ds[k]?)
    (hb : ∀ k d acc env, ds[k]? = some d → I k acc env → Ev ((st d env).bind c) fun r => (r.1 = false ∧ I (k + 1) acc (w r.2)) ∨ (r.1 = true ∧ Ev (e r.2) fun q => acc.length < sizeLine ∧ I (k + 1) (acc ++ [q.1]) (w q.2))) :
    Ev (lcLp nxt st c e w 0 [] env) fun r => I ds.length r.1 r.2 := lcLp_from ds I hn hb ds.length 0 [] env (by omega) h0
end
/-! ### steps -/
theorem ex_nx {Γ : Gam} {pn : List Nat} {s : S} {ss : Ss} {env : EnvM} {P : EnvM → Prop} {Q : Fl × EnvM → Prop} (h : Ev (execS Γ pn s env) fun r => r.1 = .nx ∧ P r.2) (k : ∀ env, P env → Ev (execSs Γ pn ss env) Q) : Ev (execSs Γ pn (.cons s ss) env) Q := by
  obtain ⟨⟨fl, env1⟩, h1, h2, h3⟩ := h
  simp only at h2 h3
  subst h2
  rw [execSs, h1]
  exact k env1 h3
end D8

namespace D8
open PySem PySem.Spec PyProof.Rows L2
/-! ### a law's end, over all its defs -/
def KW (d : TD) (fd : FuncData) (n : Nat) (ks : List Str) : Prop := ∀ ix, kwIx d.ps n ks = some ix → ∀ (s : Shared) (us ws zs : List Value), us.length = n → ws.length = ks.length → perm ix (us ++ ws) = some zs → BindsTo s fd ⟨us, ks.zip ws⟩ (d.ps.zip zs)
theorem tk_mk {K : PySem.W.Frag} {h : Heap} {mg : Str → Option Value} {Pk : List (Nat × Nat × List Str)} {g : Nat} (d : TD) (X : K.In h) (G : h.Ns mainGlobals mg) {f : Addr} {oc : Value} {od an : Option Addr} {sl : Array (Option Value)} {kV dc pm cd ct : Value}
    (a : PySem.W.nsIn K mainGlobals d.name = some (some (.ref f))) (l : K.lookup f = some ⟨oc, od, .func (PySem.W.fnOf d.name d.name (defArgs d.st) (defBody d.st) (defScope d.st) .none kV dc pm an cd ct), sl⟩) (c : PySem.W.codeIn K cd d.name = true) (k : PySem.W.keepIn K (.ref f) = true)
    (bd : ∀ (kV dc pm : Value) (an : Option Addr) (cd ct : Value) (us : List Value), us.length = d.ps.length → bindArgs (PySem.W.fnOf d.name d.name (defArgs d.st) (defBody d.st) (defScope d.st) .none kV dc pm an cd ct) ⟨us, []⟩ = pure (d.ps.zip us))
    (P1 : List (Nat × Nat × List Str)) (hP : Pk.filter (fun q => q.1 == g) = P1)
    (kw : ∀ (kV dc pm : Value) (an : Option Addr) (cd ct : Value), ∀ q ∈ P1, KW d (PySem.W.fnOf d.name d.name (defArgs d.st) (defBody d.st) (defScope d.st) .none kV dc pm an cd ct) q.2.1 q.2.2) : TK K mg Pk g d f (PySem.W.fnOf d.name d.name (defArgs d.st) (defBody d.st) (defScope d.st) .none kV dc pm an cd ct) :=
  ⟨fun_mk l c k, PySem.W.mg_of X G a, fun s us hl => .of_eq (bd _ _ _ _ _ _ us hl), fun n ks ix hm => kw _ _ _ _ _ _ (g, n, ks) (hP ▸ List.mem_filter.mpr ⟨hm, by simp⟩) ix⟩
theorem cst_nil {K : PySem.W.Frag} {mg : Str → Option Value} : cstOk K mg [] := fun _ _ h => nomatch h
theorem cst_cons {K : PySem.W.Frag} {h : Heap} {mg : Str → Option Value} {x : Str} {d : PyData} {v : V} {u : Value} {C : List (Str × PyData)} (X : K.In h) (G : h.Ns mainGlobals mg) (a : PySem.W.nsIn K mainGlobals x = some (some u)) (r : RelV v u) (rv : ∀ S H, RV K S H v d) (rest : cstOk K mg C) : cstOk K mg ((x, d) :: C) := by
  intro y e hy
  rw [List.lookup_cons] at hy
  split at hy
  · next q =>
    cases hy
    have : y = x := by simpa using q
    subst this
    exact ⟨v, u, PySem.W.mg_of X G a, r, rv⟩
  · exact rest y e hy
theorem cst_int {K : PySem.W.Frag} {h : Heap} {mg : Str → Option Value} {x : Str} {i : Int} {t : PySem.Tok} {C : List (Str × PyData)} (X : K.In h) (G : h.Ns mainGlobals mg) (a : PySem.W.nsIn K mainGlobals x = some (some (.int i t))) (rest : cstOk K mg C) : cstOk K mg ((x, .int i) :: C) :=
  cst_cons X G a (v := .int i) ⟨t, rfl⟩ (fun _ _ => .int i) rest
theorem blt_of {K : PySem.W.Frag} {h : Heap} {mg : Str → Option Value} (X : K.In h) (G : h.Ns mainGlobals mg) {T : List TD} (a : ∀ x ∈ bltNs, (tNames T).findIdx? (fun p => p.1 == x) = none → PySem.W.nsIn K mainGlobals x = some none) :
    ∀ x ∈ bltNs, (tNames T).findIdx? (fun p => p.1 == x) = none → mg x = none := fun x hx hn => PySem.W.mg_none_of X G (a x hx hn)
/-- the law, from what callD gives -/
theorem holds_of {l : PySem.W.OpenLaw} {n k gl : Nat} {q : Program} {loose : List Str} {XP : (Str → Option Value) → Heap → Prop} {YP : World → Heap → Prop} {d : DefRec} {K : Params → PySem.W.Frag} {x : Str} {T : List TD} {Pk : List (Nat × Nat × List Str)} {C : List (Str × PyData)} {dl : TD}
    (hn : l.most = some n) (hn2 : n ≤ sizeLine) (hdf : d.params.defaults = []) (room : Room k callerA) (hY : ∀ (w : World) (h : Heap), YP w h → (K w.params).In h)
    (hl : T[gl]? = some dl) (hdl : dl.name = d.name) (hps : dl.ps = [x]) (hS : TAll (fun _ d => TS T Pk C d) 0 T)
    (hK : ∀ (w : World) (mg : Str → Option Value) (h : Heap), (K w.params).In h → h.Ns mainGlobals mg → cstOk (K w.params) mg C ∧ (∀ x ∈ bltNs, (tNames T).findIdx? (fun p => p.1 == x) = none → mg x = none) ∧ TAll (fun g d => ∃ f fd, TK (K w.params) mg Pk g d f fd) 0 T)
    (law : ∀ ns : List Int, ns.length ≤ n → (∀ z ∈ ns, Builtin.Int.intBits z ≤ 1048576) → Ev (gamT T k gl [.im (.list (ns.map .int))]) fun r => r.1 = mbl true ∧ r.2.length = 1) :
    PySem.W.WalkO q loose XP YP l.row.toRowW d [] (fun f vs => PySem.call f vs) := by
  refine end_law (l := l) (sp := fun w => spG (K w.params) 1 (gamT T k gl)) (x := x) hn hn2 hdf room hY (fun w mg fa h X G hmg => ?_) fun w H a ns hlen hb hO hA => ?_
  · obtain ⟨hC, hB, hT⟩ := hK w mg h X G
    have hT' : ∀ (g : Nat) (d : TD), T[g]? = some d → ∃ f fd, TK (K w.params) mg Pk g d f fd := fun g d e => by
      have := hT.get e
      rwa [Nat.zero_add] at this
    obtain ⟨f, fd, tk⟩ := hT' gl dl hl
    have e := tk.gl
    rw [hdl] at e
    have e := hmg.symm.trans e
    cases e
    refine ⟨fd, fun s u => ?_, fun base _ _ => ?_⟩
    · have := tk.bd s [u] (by rw [hps]; rfl)
      rwa [hps] at this
    · have := tab (P := l.prog) (w := w) (fun g d e => hS.get e) hT' hB hC k gl dl hl fa fd tk base
      rw [hps] at this
      exact this
  · obtain ⟨⟨m, bs⟩, h1, h2, h3⟩ := law ns hlen hb
    refine ⟨rfl, H, [], [.im (.list (ns.map .int))], m, bs, ?_, h1, h3, fun v H' g => ?_⟩
    · have hS : LsS (K w.params) (Sx [] []) H a (ns.map V.int) := hA.imp (fun z => ⟨z, List.not_mem_nil, List.not_mem_nil⟩) id
      refine ⟨[], [], List.nodup_nil, .nil, .cons (os := []) (os' := []) (.im (.lst hS (RVs.of_ints ns))) .nil, fun _ _ e => e, fun _ h => absurd h List.not_mem_nil, fun _ h => absurd h List.not_mem_nil⟩
    · simp only at h2
      subst h2
      obtain ⟨O1, O2, g⟩ := g
      cases g.rt with
      | cons hv _ => exact hv.toBl
end D8

namespace D8
open PySem PySem.Spec PyProof.Rows L2
/-! ### runs, step by step: for simp -/
inductive Tag {α : Type} (x : α) : Type where
  | mk
/-- a run, whose end simp leaves alone until the run has come to it -/
def Et {α : Type} (x : Option α) (Q : α → Prop) (_ : Tag Q := .mk) : Prop := Ev x Q
@[simp ↓] theorem ev_et {α : Type} {x : Option α} {Q : α → Prop} : Ev x Q = Et x Q := rfl
def P2 {α β : Type} (f : α → β → Prop) (r : α × β) : Prop := f r.1 r.2
@[simp ↓] theorem P2_mk {α β : Type} {f : α → β → Prop} {a : α} {b : β} : P2 f (a, b) = f a b := rfl
section
variable {α β : Type}
theorem Ev.congr {x y : Option α} {Q : α → Prop} (h : x = y) : Ev x Q = Ev y Q := by rw [h]
theorem Ev.eq_bind {x : Option α} {f : α → Option β} {Q : β → Prop} : Ev (x.bind f) Q = Ev x fun a => Ev (f a) Q := by
  cases x with
  | none => exact propext ⟨fun ⟨_, e, _⟩ => (by cases e), fun ⟨_, e, _⟩ => (by cases e)⟩
  | some a => exact propext ⟨fun h => ⟨a, rfl, h⟩, fun ⟨_, e, h⟩ => by cases e; exact h⟩
theorem Ev.eq_map {x : Option α} {f : α → β} {Q : β → Prop} : Ev (x.map f) Q = Ev x fun a => Q (f a) := by
  cases x with
  | none => exact propext ⟨fun ⟨_, e, _⟩ => (by cases e), fun ⟨_, e, _⟩ => (by cases e)⟩
  | some a => exact propext ⟨fun ⟨_, e, h⟩ => by cases e; exact ⟨a, rfl, h⟩, fun ⟨_, e, h⟩ => by cases e; exact ⟨_, rfl, h⟩⟩
theorem Ev.eq_some {a : α} {Q : α → Prop} : Ev (some a) Q = Q a := propext ev_some
theorem Ev.eq_none {Q : α → Prop} : Ev (none : Option α) Q = False := propext ⟨fun ⟨_, e, _⟩ => (by cases e), fun h => h.elim⟩
theorem Ev.eq_if {c : Prop} [Decidable c] {x : Option α} {Q : α → Prop} : Ev (if c then x else none) Q = (c ∧ Ev x Q) := by
  split
  · next h => exact propext ⟨fun q => ⟨h, q⟩, fun q => q.2⟩
  · next h => exact propext ⟨fun ⟨_, e, _⟩ => (by cases e), fun q => absurd q.1 h⟩
@[simp] theorem ite_two {c : Prop} [Decidable c] {P Q : Prop} : (if c then P else Q) = ((c → P) ∧ (¬ c → Q)) := by
  split
  · next h => exact propext ⟨fun p => ⟨fun _ => p, fun n => absurd h n⟩, fun p => p.1 h⟩
  · next h => exact propext ⟨fun p => ⟨fun n => absurd n h, fun _ => p⟩, fun p => p.2 h⟩
end
section
variable {Γ : Gam} {pn : List Nat} {env : EnvM}
def thn (Γ : Gam) (pn : List Nat) (ss : Ss) (Q : Fl × EnvM → Prop) (r : Fl × EnvM) : Prop := match r.1 with
  | .nx => Ev (execSs Γ pn ss r.2) Q
  | f => Q (f, r.2)
theorem thn_nx {ss : Ss} {Q : Fl × EnvM → Prop} : thn Γ pn ss Q (.nx, env) = Ev (execSs Γ pn ss env) Q := rfl
@[simp ↓] theorem thn_rt {ss : Ss} {Q : Fl × EnvM → Prop} {m : M} : thn Γ pn ss Q (.rt m, env) = Q (.rt m, env) := rfl
theorem ev_Ss_nil {Q : Fl × EnvM → Prop} : Ev (execSs Γ pn .nil env) Q = Q (.nx, env) := by rw [execSs]; exact Ev.eq_some
theorem ev_Ss_cons {s : S} {ss : Ss} {Q : Fl × EnvM → Prop} : Ev (execSs Γ pn (.cons s ss) env) Q = Ev (execS Γ pn s env) (thn Γ pn ss Q) := by
  rw [execSs, Ev.eq_bind]
  congr 1
  funext r
  obtain ⟨f, e⟩ := r
  cases f <;> first | rfl | exact Ev.eq_some
theorem ev_asg_r {t : At} {e : E} {Q : Fl × EnvM → Prop} : Ev (execS Γ pn (.asg t e) env) Q = Ev (evalE Γ e env) fun r => Ev (store Γ pn t r.1 r.2) fun env => Q (.nx, env) := by simp only [execS, Ev.eq_bind, Ev.eq_map]
theorem ev_par_r {ts : List At} {es : Es} {Q : Fl × EnvM → Prop} : Ev (execS Γ pn (.par ts es) env) Q = Ev (evalVs Γ es env) fun r => Ev (storeAll Γ pn ts r.1 r.2) fun env => Q (.nx, env) := by simp only [execS, Ev.eq_bind, Ev.eq_map]
theorem ev_ex_r {e : E} {Q : Fl × EnvM → Prop} : Ev (execS Γ pn (.ex e) env) Q = Ev (evalE Γ e env) fun r => Q (.nx, r.2) := by simp only [execS, Ev.eq_map]
theorem ev_ret_r {e : E} {Q : Fl × EnvM → Prop} : Ev (execS Γ pn (.ret e) env) Q = Ev (evalE Γ e env) fun r => Q (.rt r.1, r.2) := by simp only [execS, Ev.eq_map]
theorem ev_retN {Q : Fl × EnvM → Prop} : Ev (execS Γ pn .retN env) Q = Q (.rt (.im .none), env) := by simp only [execS, Ev.eq_some]
theorem ev_pass {Q : Fl × EnvM → Prop} : Ev (execS Γ pn .pass env) Q = Q (.nx, env) := by simp only [execS, Ev.eq_some]
/-- both ways -/
def two (Γ : Gam) (pn : List Nat) (a b : Ss) (Q : Fl × EnvM → Prop) (r : Bool × EnvM) : Prop := if r.1 = true then Ev (execSs Γ pn a r.2) Q else Ev (execSs Γ pn b r.2) Q
theorem two_t {a b : Ss} {Q : Fl × EnvM → Prop} : two Γ pn a b Q (true, env) = Ev (execSs Γ pn a env) Q := rfl
theorem two_f {a b : Ss} {Q : Fl × EnvM → Prop} : two Γ pn a b Q (false, env) = Ev (execSs Γ pn b env) Q := rfl
theorem two_d {a b : Ss} {Q : Fl × EnvM → Prop} {c : Prop} [Decidable c] : two Γ pn a b Q (decide c, env) = ((c → Ev (execSs Γ pn a env) Q) ∧ (¬ c → Ev (execSs Γ pn b env) Q)) := by
  unfold two
  simp only [decide_eq_true_eq]
  exact ite_two
@[simp ↓] theorem two_nd {a b : Ss} {Q : Fl × EnvM → Prop} {c : Bool} : two Γ pn a b Q (!c, env) = two Γ pn b a Q (c, env) := by
  unfold two
  cases c <;> rfl
theorem ev_ite {c : E} {a b : Ss} {Q : Fl × EnvM → Prop} : Ev (execS Γ pn (.ite c a b) env) Q = Ev (evalT Γ c env) (two Γ pn a b Q) := by
  simp only [execS, Ev.eq_bind]
  congr 1
  funext r
  unfold two
  split <;> rfl
theorem ev_loop_r {t : Tg} {w : Wk} {src : Es} {body : Ss} {Q : Fl × EnvM → Prop} : Ev (execS Γ pn (.loop t w src body) env) Q =
    Ev (evalOs Γ src env) fun r => Ev (peek r.2 r.1) fun ms => Ev (forLp (nextK w r.1 (ms.map kdM)) (setTp (opSlots r.1 ++ pn) t) (fun env => execSs Γ (opSlots r.1 ++ pn) body env) 0 r.2) Q := by simp only [execS, Ev.eq_bind]
theorem ev_whl {c : E} {body : Ss} {Q : Fl × EnvM → Prop} : Ev (execS Γ pn (.whl c body) env) Q = Ev (whLp (fun env => evalT Γ c env) (fun env => execSs Γ pn body env) env) Q := by simp only [execS]
theorem ev_st_nm {i : Nat} {m : M} {Q : EnvM → Prop} : Ev (store Γ pn (.nm i) m env) Q = ((freeOf pn [i] = true ∧ i < env.length) ∧ Q (env.set i (some m))) := by simp only [store, Ev.eq_if, Ev.eq_some]
theorem ev_st_ix_r {i : Nat} {path : Es} {k : E} {m : M} {Q : EnvM → Prop} : Ev (store Γ pn (.ix i path k) m env) Q =
    Ev (evalQs Γ path (frzE env)) fun ps => Ev (evalQs Γ (.cons k .nil) (frzE env)) fun as => Ev (slot env i) fun x => Ev (atP (fun x => mtF .setIx x (as ++ [m])) ps x) fun q => Q (env.set i (some q.1)) := by simp only [store, Ev.eq_bind, Ev.eq_map]
theorem ev_st_tp {ts : Tgs} {d : PyData} {Q : EnvM → Prop} : Ev (store Γ pn (.tp ts) (.im d) env) Q = Ev (setTp pn (.tp ts) d env) Q := by simp only [store]
theorem ev_sta_nil {Q : EnvM → Prop} : Ev (storeAll Γ pn [] [] env) Q = Q env := by simp only [storeAll, Ev.eq_some]
theorem ev_sta_cons {t : At} {ts : List At} {m : M} {ms : List M} {Q : EnvM → Prop} : Ev (storeAll Γ pn (t :: ts) (m :: ms) env) Q = Ev (store Γ pn t m env) fun env => Ev (storeAll Γ pn ts ms env) Q := by simp only [storeAll, Ev.eq_bind]
theorem ev_setTp {t : Tg} {d : PyData} {Q : EnvM → Prop} : Ev (setTp pn t d env) Q = (freeOf pn t.slots = true ∧ Ev (setT t d env) Q) := by simp only [setTp, Ev.eq_if]
theorem ev_setT_nm {i : Nat} {d : PyData} {Q : EnvM → Prop} : Ev (setT (.nm i) d env) Q = (i < env.length ∧ Q (env.set i (some (.im d)))) := by simp only [setT, Ev.eq_if, Ev.eq_some]
theorem ev_setT_tp {ts : Tgs} {ds : List PyData} {Q : EnvM → Prop} : Ev (setT (.tp ts) (.tuple ds) env) Q = Ev (setTs ts ds env) Q := by simp only [setT]
theorem ev_setTs_nil {Q : EnvM → Prop} : Ev (setTs .nil [] env) Q = Q env := by simp only [setTs, Ev.eq_some]
theorem ev_setTs_cons {t : Tg} {ts : Tgs} {d : PyData} {ds : List PyData} {Q : EnvM → Prop} : Ev (setTs (.cons t ts) (d :: ds) env) Q = Ev (setT t d env) fun env => Ev (setTs ts ds env) Q := by simp only [setTs, Ev.eq_bind]
@[simp] theorem freeOf_s {is : List Nat} : freeOf pn is = is.all fun i => !pn.contains i := rfl
@[simp] theorem opSlots_0 : opSlots [] = [] := rfl
@[simp] theorem opSlots_1 {i : Nat} {os : List Op} : opSlots (.sl i :: os) = i :: opSlots os := rfl
@[simp] theorem opSlots_2 {m : M} {os : List Op} : opSlots (.tm m :: os) = opSlots os := rfl
@[simp] theorem slots_0 {i : Nat} : (Tg.nm i).slots = [i] := by simp only [Tg.slots]
@[simp] theorem slots_1 {ts : Tgs} : (Tg.tp ts).slots = ts.slots := by simp only [Tg.slots]
@[simp] theorem slots_2 : Tgs.nil.slots = [] := by simp only [Tgs.slots]
@[simp] theorem slots_3 {t : Tg} {ts : Tgs} : (Tgs.cons t ts).slots = t.slots ++ ts.slots := by simp only [Tgs.slots]
/-! expressions -/
theorem peek_sl {i : Nat} {os : List Op} {Q : List M → Prop} : Ev (peek env (.sl i :: os)) Q = Ev (slot env i) fun m => Ev (peek env os) fun ms => Q (m :: ms) := by simp only [peek, Ev.eq_bind, Ev.eq_map]
theorem peek_tm {m : M} {os : List Op} {Q : List M → Prop} : Ev (peek env (.tm m :: os)) Q = Ev (peek env os) fun ms => Q (m :: ms) := by simp only [peek, Ev.eq_map]
theorem peek_nil {Q : List M → Prop} : Ev (peek env []) Q = Q [] := by simp only [peek, Ev.eq_some]
theorem take_nil {Q : List M × EnvM → Prop} : Ev (D8.take env []) Q = Q ([], env) := by simp only [D8.take, Ev.eq_some]
theorem take_tm_r {m : M} {os : List Op} {Q : List M × EnvM → Prop} : Ev (D8.take env (.tm m :: os)) Q = Ev (D8.take env os) fun r => Q (m :: r.1, r.2) := by simp only [D8.take, Ev.eq_map]
/-- what a slot gives away -/
def tk1 (i : Nat) (os : List Op) (env : EnvM) (Q : List M × EnvM → Prop) : M → Prop
  | .im d => Ev (D8.take env os) fun r => Q (.im d :: r.1, r.2)
  | m => Ev (D8.take (env.set i none) os) fun r => Q (m :: r.1, r.2)
theorem tk1_im_r {i : Nat} {os : List Op} {Q : List M × EnvM → Prop} {d : PyData} : tk1 i os env Q (.im d) = Ev (D8.take env os) fun r => Q (.im d :: r.1, r.2) := rfl
theorem tk1_ml_r {i : Nat} {os : List Op} {Q : List M × EnvM → Prop} {d : List M} : tk1 i os env Q (.ml d) = Ev (D8.take (env.set i none) os) fun r => Q (.ml d :: r.1, r.2) := rfl
theorem tk1_md_r {i : Nat} {os : List Op} {Q : List M × EnvM → Prop} {d : List (Key × M)} : tk1 i os env Q (.md d) = Ev (D8.take (env.set i none) os) fun r => Q (.md d :: r.1, r.2) := rfl
theorem take_sl {i : Nat} {os : List Op} {Q : List M × EnvM → Prop} : Ev (D8.take env (.sl i :: os)) Q = Ev (slot env i) (tk1 i os env Q) := by
  simp only [D8.take, Ev.eq_bind]
  congr 1
  funext m
  cases m <;> simp only [Ev.eq_map, tk1]
@[simp] theorem slot_s {i : Nat} : slot env i = (env[i]?).join := rfl
@[simp] theorem give_0 {ms : List M} {rs : List (Option M)} : D8.give env [] ms rs = env := by simp only [D8.give]
@[simp] theorem give_1 {i : Nat} {os : List Op} {d : PyData} {ms : List M} {r : Option M} {rs : List (Option M)} : D8.give env (.sl i :: os) (.im d :: ms) (r :: rs) = D8.give env os ms rs := by simp only [D8.give]
@[simp] theorem give_2 {i : Nat} {os : List Op} {xs ms : List M} {r : Option M} {rs : List (Option M)} : D8.give env (.sl i :: os) (.ml xs :: ms) (r :: rs) = D8.give (env.set i r) os ms rs := by simp only [D8.give]
@[simp] theorem give_3 {i : Nat} {os : List Op} {xs : List (Key × M)} {ms : List M} {r : Option M} {rs : List (Option M)} : D8.give env (.sl i :: os) (.md xs :: ms) (r :: rs) = D8.give (env.set i r) os ms rs := by simp only [D8.give]
@[simp] theorem give_4 {x : M} {os : List Op} {m : M} {ms : List M} {r : Option M} {rs : List (Option M)} : D8.give env (.tm x :: os) (m :: ms) (r :: rs) = D8.give env os ms rs := by simp only [D8.give]
theorem ev_Os_nil {Q : List Op × EnvM → Prop} : Ev (evalOs Γ .nil env) Q = Q ([], env) := by simp only [evalOs, Ev.eq_some]
theorem ev_Os_nm_r {i : Nat} {es : Es} {Q : List Op × EnvM → Prop} : Ev (evalOs Γ (.cons (.nm i) es) env) Q = Ev (slot env i) fun _ => Ev (evalOs Γ es env) fun q => Q (.sl i :: q.1, q.2) := by simp only [evalOs, Ev.eq_bind, Ev.eq_map]
theorem ev_Os_e_r {e : E} {es : Es} {Q : List Op × EnvM → Prop} (h : ∀ i, e ≠ .nm i) : Ev (evalOs Γ (.cons e es) env) Q = Ev (evalE Γ e env) fun r => Ev (evalOs Γ es r.2) fun q => Q (.tm r.1 :: q.1, q.2) := by
  cases e with
  | nm i => exact absurd rfl (h i)
  | _ => simp only [evalOs, Ev.eq_bind, Ev.eq_map]
theorem ev_Vs_nil {Q : List M × EnvM → Prop} : Ev (evalVs Γ .nil env) Q = Q ([], env) := by simp only [evalVs, Ev.eq_some]
theorem ev_Vs_cons_r {e : E} {es : Es} {Q : List M × EnvM → Prop} : Ev (evalVs Γ (.cons e es) env) Q = Ev (evalE Γ e env) fun r => Ev (evalVs Γ es r.2) fun q => Q (r.1 :: q.1, q.2) := by simp only [evalVs, Ev.eq_bind, Ev.eq_map]
theorem ev_Qs_nil {Q : List M → Prop} : Ev (evalQs Γ .nil env) Q = Q [] := by simp only [evalQs, Ev.eq_some]
theorem ev_Qs_cons_r {e : E} {es : Es} {Q : List M → Prop} : Ev (evalQs Γ (.cons e es) env) Q = Ev (evalE Γ e env) fun r => clean r.1.fz = true ∧ Ev (evalQs Γ es env) fun q => Q (.im r.1.fz :: q) := by
  simp only [evalQs, Ev.eq_bind, Ev.eq_if, Ev.eq_map]
/-- what a name gives -/
def nm1 (i : Nat) (env : EnvM) (Q : M × EnvM → Prop) : M → Prop
  | .im d => Q (.im d, env)
  | m => Q (.im m.fz, env.set i (some (.im m.fz)))
@[simp ↓] theorem nm1_im {i : Nat} {Q : M × EnvM → Prop} {d : PyData} : nm1 i env Q (.im d) = Q (.im d, env) := rfl
@[simp ↓] theorem nm1_ml {i : Nat} {Q : M × EnvM → Prop} {d : List M} : nm1 i env Q (.ml d) = Q (.im (M.ml d).fz, env.set i (some (.im (M.ml d).fz))) := rfl
@[simp ↓] theorem nm1_md {i : Nat} {Q : M × EnvM → Prop} {d : List (Key × M)} : nm1 i env Q (.md d) = Q (.im (M.md d).fz, env.set i (some (.im (M.md d).fz))) := rfl
theorem ev_nm {i : Nat} {Q : M × EnvM → Prop} : Ev (evalE Γ (.nm i) env) Q = Ev (slot env i) (nm1 i env Q) := by
  simp only [evalE, Ev.eq_bind]
  congr 1
  funext m
  cases m <;> simp only [Ev.eq_some, nm1]
/-- what a name gives that is returned -/
def mv1 (i : Nat) (env : EnvM) (Q : M × EnvM → Prop) : M → Prop
  | .im d => Q (.im d, env)
  | .ml xs => Q (.im (M.ml xs).fz, env.set i (some (.im (M.ml xs).fz)))
  | .md kvs => Q (.md kvs, env.set i none)
@[simp ↓] theorem mv1_im {i : Nat} {Q : M × EnvM → Prop} {d : PyData} : mv1 i env Q (.im d) = Q (.im d, env) := rfl
@[simp ↓] theorem mv1_ml {i : Nat} {Q : M × EnvM → Prop} {d : List M} : mv1 i env Q (.ml d) = Q (.im (M.ml d).fz, env.set i (some (.im (M.ml d).fz))) := rfl
@[simp ↓] theorem mv1_md {i : Nat} {Q : M × EnvM → Prop} {d : List (Key × M)} : mv1 i env Q (.md d) = Q (.md d, env.set i none) := rfl
theorem ev_mv {i : Nat} {Q : M × EnvM → Prop} : Ev (evalE Γ (.mv i) env) Q = Ev (slot env i) (mv1 i env Q) := by
  simp only [evalE, Ev.eq_bind]
  congr 1
  funext m
  cases m <;> simp only [Ev.eq_some, mv1]
theorem ev_cs {d : PyData} {Q : M × EnvM → Prop} : Ev (evalE Γ (.cs d) env) Q = Q (.im d, env) := by simp only [evalE, Ev.eq_some]
theorem ev_pr_r {p : Pr} {es : Es} {Q : M × EnvM → Prop} : Ev (evalE Γ (.pr p es) env) Q = Ev (evalOs Γ es env) fun r => Ev (peek r.2 r.1) fun ms => Ev (prF p ms) fun m => Q (m, r.2) := by simp only [evalE, Ev.eq_bind, Ev.eq_map]
theorem ev_qt_r {e : E} {Q : M × EnvM → Prop} : Ev (evalE Γ (.qt e) env) Q = Ev (evalE Γ e (frzE env)) fun r => clean r.1.fz = true ∧ Q (r.1, env) := by simp only [evalE, Ev.eq_bind, Ev.eq_if, Ev.eq_some]
def twoE (Γ : Gam) (a b : E) (Q : M × EnvM → Prop) (r : Bool × EnvM) : Prop := if r.1 = true then Ev (evalE Γ a r.2) Q else Ev (evalE Γ b r.2) Q
theorem twoE_t {a b : E} {Q : M × EnvM → Prop} : twoE Γ a b Q (true, env) = Ev (evalE Γ a env) Q := rfl
theorem twoE_f {a b : E} {Q : M × EnvM → Prop} : twoE Γ a b Q (false, env) = Ev (evalE Γ b env) Q := rfl
theorem twoE_d {a b : E} {Q : M × EnvM → Prop} {c : Prop} [Decidable c] : twoE Γ a b Q (decide c, env) = ((c → Ev (evalE Γ a env) Q) ∧ (¬ c → Ev (evalE Γ b env) Q)) := by
  unfold twoE
  simp only [decide_eq_true_eq]
  exact ite_two
@[simp ↓] theorem twoE_nd {a b : E} {Q : M × EnvM → Prop} {c : Bool} : twoE Γ a b Q (!c, env) = twoE Γ b a Q (c, env) := by
  unfold twoE
  cases c <;> rfl
theorem ev_Eite {c a b : E} {Q : M × EnvM → Prop} : Ev (evalE Γ (.ite c a b) env) Q = Ev (evalT Γ c env) (twoE Γ a b Q) := by
  simp only [evalE, Ev.eq_bind]
  congr 1
  funext r
  unfold twoE
  split <;> rfl
/-- the second part of and, or -/
def andE (Γ : Gam) (b : E) (env : EnvM) (Q : M × EnvM → Prop) (t : Bool) : Prop := if t = true then Ev (evalE Γ b env) Q else Q (mbl false, env)
def orE (Γ : Gam) (b : E) (env : EnvM) (Q : M × EnvM → Prop) (t : Bool) : Prop := if t = true then Q (mbl true, env) else Ev (evalE Γ b env) Q
theorem andE_t {b : E} {Q : M × EnvM → Prop} : andE Γ b env Q true = Ev (evalE Γ b env) Q := rfl
@[simp ↓] theorem andE_f {b : E} {Q : M × EnvM → Prop} : andE Γ b env Q false = Q (mbl false, env) := rfl
theorem andE_d {b : E} {Q : M × EnvM → Prop} {c : Prop} [Decidable c] : andE Γ b env Q (decide c) = ((c → Ev (evalE Γ b env) Q) ∧ (¬ c → Q (mbl false, env))) := by
  unfold andE
  simp only [decide_eq_true_eq]
  exact ite_two
@[simp ↓] theorem orE_t {b : E} {Q : M × EnvM → Prop} : orE Γ b env Q true = Q (mbl true, env) := rfl
theorem orE_f {b : E} {Q : M × EnvM → Prop} : orE Γ b env Q false = Ev (evalE Γ b env) Q := rfl
theorem orE_d {b : E} {Q : M × EnvM → Prop} {c : Prop} [Decidable c] : orE Γ b env Q (decide c) = ((c → Q (mbl true, env)) ∧ (¬ c → Ev (evalE Γ b env) Q)) := by
  unfold orE
  simp only [decide_eq_true_eq]
  exact ite_two
theorem andE_nd {b : E} {Q : M × EnvM → Prop} {c : Bool} : andE Γ b env Q (!c) = ((c = false → Ev (evalE Γ b env) Q) ∧ (c = true → Q (mbl false, env))) := by
  cases c <;> simp [andE]
theorem orE_nd {b : E} {Q : M × EnvM → Prop} {c : Bool} : orE Γ b env Q (!c) = ((c = false → Q (mbl true, env)) ∧ (c = true → Ev (evalE Γ b env) Q)) := by
  cases c <;> simp [orE]
theorem ev_and_r {a b : E} {Q : M × EnvM → Prop} : Ev (evalE Γ (.and a b) env) Q = Ev (evalE Γ a env) fun r => Ev (bool? r.1) (andE Γ b r.2 Q) := by
  simp only [evalE, Ev.eq_bind]
  congr 1; funext r; congr 1; funext t
  cases t <;> first | rfl | exact Ev.eq_some
theorem ev_or_r {a b : E} {Q : M × EnvM → Prop} : Ev (evalE Γ (.or a b) env) Q = Ev (evalE Γ a env) fun r => Ev (bool? r.1) (orE Γ b r.2 Q) := by
  simp only [evalE, Ev.eq_bind]
  congr 1; funext r; congr 1; funext t
  cases t <;> first | rfl | exact Ev.eq_some
theorem ev_not_r {a : E} {Q : M × EnvM → Prop} : Ev (evalE Γ (.not a) env) Q = Ev (evalE Γ a env) fun r => Ev (bool? r.1) fun t => Q (mbl (!t), r.2) := by simp only [evalE, Ev.eq_bind, Ev.eq_map]
/-- the second part of a chain -/
def chE (Γ : Gam) (q : Pr) (b : M) (c : E) (env : EnvM) (Q : Bool × EnvM → Prop) (t : Bool) : Prop := if t = true then Ev (evalE Γ c env) fun rc => Ev (prF q [b, rc.1]) fun y => Ev (bool? y) fun u => Q (u, rc.2) else Q (false, env)
theorem chE_t_r {q : Pr} {b : M} {c : E} {Q : Bool × EnvM → Prop} : chE Γ q b c env Q true = Ev (evalE Γ c env) fun rc => Ev (prF q [b, rc.1]) fun y => Ev (bool? y) fun u => Q (u, rc.2) := rfl
@[simp ↓] theorem chE_f {q : Pr} {b : M} {c : E} {Q : Bool × EnvM → Prop} : chE Γ q b c env Q false = Q (false, env) := rfl
theorem chE_d_r {q : Pr} {b : M} {e : E} {Q : Bool × EnvM → Prop} {c : Prop} [Decidable c] : chE Γ q b e env Q (decide c) = ((c → Ev (evalE Γ e env) fun rc => Ev (prF q [b, rc.1]) fun y => Ev (bool? y) fun u => Q (u, rc.2)) ∧ (¬ c → Q (false, env))) := by
  unfold chE
  simp only [decide_eq_true_eq]
  exact ite_two
theorem ev_ch_r {p q : Pr} {a b c : E} {Q : M × EnvM → Prop} : Ev (evalE Γ (.ch p q a b c) env) Q = Ev (evalE Γ a env) fun ra => Ev (evalE Γ b ra.2) fun rb => Ev (prF p [ra.1, rb.1]) fun x => Ev (bool? x) (chE Γ q rb.1 c rb.2 fun r => Q (mbl r.1, r.2)) := by
  simp only [evalE, Ev.eq_bind]
  congr 1; funext ra; congr 1; funext rb; congr 1; funext x; congr 1; funext t
  cases t
  · exact Ev.eq_some
  · simp only [if_true, chE, Ev.eq_bind, Ev.eq_map]
theorem ev_tup_r {es : Es} {Q : M × EnvM → Prop} : Ev (evalE Γ (.tup es) env) Q = Ev (evalVs Γ es env) fun r => r.1.length ≤ sizeLine ∧ Q (.im (.tuple (fzs r.1)), r.2) := by simp only [evalE, Ev.eq_bind, Ev.eq_if, Ev.eq_some]
theorem ev_lst_r {es : Es} {Q : M × EnvM → Prop} : Ev (evalE Γ (.lst es) env) Q = Ev (evalVs Γ es env) fun r => r.1.length ≤ sizeLine ∧ Q (.ml r.1, r.2) := by simp only [evalE, Ev.eq_bind, Ev.eq_if, Ev.eq_some]
theorem ev_lsf_r {es : Es} {Q : M × EnvM → Prop} : Ev (evalE Γ (.lsf es) env) Q = Ev (evalVs Γ es env) fun r => r.1.length ≤ sizeLine ∧ Q (mList (fzs r.1), r.2) := by simp only [evalE, Ev.eq_bind, Ev.eq_if, Ev.eq_some]
theorem ev_dct {es : Es} {Q : M × EnvM → Prop} : Ev (evalE Γ (.dct es) env) Q = Ev (evalVs Γ es env) (P2 fun r1 r2 => Ev (kvsOf r1) fun kvs => (kvs.length ≤ 15 ∧ (kvs.map (·.1)).Nodup) ∧ Q (.md kvs, r2)) := by
  simp only [evalE, Ev.eq_bind, Ev.eq_if, Ev.eq_some]
  rfl
theorem ev_call_r {g : Nat} {es : Es} {Q : M × EnvM → Prop} : Ev (evalE Γ (.call g es) env) Q = Ev (evalOs Γ es env) fun r => Ev (D8.take r.2 r.1) fun a => Ev (Γ g a.1) fun q => q.2.length = a.1.length ∧ Q (q.1, D8.give a.2 r.1 a.1 q.2) := by simp only [evalE, Ev.eq_bind, Ev.eq_if, Ev.eq_some]
theorem ev_callK_r {g : Nat} {ix : List Nat} {es : Es} {Q : M × EnvM → Prop} : Ev (evalE Γ (.callK g ix es) env) Q = Ev (evalVs Γ es env) fun r => Ev (ims r.1) fun ds => Ev (perm ix ds) fun ds => Ev (Γ g (ds.map .im)) fun q => q.2.length = ds.length ∧ Q (q.1, r.2) := by simp only [evalE, Ev.eq_bind, Ev.eq_if, Ev.eq_some]
theorem ev_mt_r {m : Mt} {i : Nat} {es : Es} {Q : M × EnvM → Prop} : Ev (evalE Γ (.mt m i es) env) Q = Ev (slot env i) fun x0 => recOk m x0 = true ∧ Ev (evalVs Γ es env) fun r => Ev (slot r.2 i) fun x => Ev (mtF m x r.1) fun q => Q (q.2, r.2.set i (some q.1)) := by
  simp only [evalE, Ev.eq_bind]
  congr 1; funext x0
  cases recOk m x0 with
  | true => simp only [Bool.true_eq_false, if_false, Ev.eq_bind, Ev.eq_map, true_and]
  | false => simp only [if_true, Ev.eq_none, Bool.false_eq_true, false_and]
theorem ev_mp_r {m : Mt} {i : Nat} {path es : Es} {Q : M × EnvM → Prop} : Ev (evalE Γ (.mp m i path es) env) Q = Ev (evalQs Γ path (frzE env)) fun ps => Ev (evalQs Γ es (frzE env)) fun as => Ev (slot env i) fun x => Ev (atP (fun x => mtF m x as) ps x) fun q => Q (q.2, env.set i (some q.1)) := by simp only [evalE, Ev.eq_bind, Ev.eq_map]
theorem ev_lc0_r {own : List Nat} {t : Tg} {w : Wk} {src : Es} {e : E} {Q : M × EnvM → Prop} : Ev (evalE Γ (.lc own t w src none e) env) Q = Ev (evalOs Γ src env) fun r => Ev (peek r.2 r.1) fun ms =>
      Ev (lcLp (nextK w r.1 (ms.map kdM)) (setT t) (fun env => some (true, env)) (fun env => evalE Γ e env) (fun env => wipeE env own) 0 [] (wipeE r.2 own)) fun (q : List M × EnvM) => Q (.ml q.1, backE r.2 q.2 own) := by simp only [evalE, Ev.eq_bind, Ev.eq_map]
theorem ev_lc1_r {own : List Nat} {t : Tg} {w : Wk} {src : Es} {c e : E} {Q : M × EnvM → Prop} : Ev (evalE Γ (.lc own t w src (some c) e) env) Q = Ev (evalOs Γ src env) fun r => Ev (peek r.2 r.1) fun ms =>
      Ev (lcLp (nextK w r.1 (ms.map kdM)) (setT t) (fun env => evalT Γ c env) (fun env => evalE Γ e env) (fun env => wipeE env own) 0 [] (wipeE r.2 own)) fun (q : List M × EnvM) => Q (.ml q.1, backE r.2 q.2 own) := by simp only [evalE, Ev.eq_bind, Ev.eq_map]
@[simp] theorem wipe_0 : wipeE env [] = env := rfl
@[simp] theorem wipe_1 {v : Nat} {vs : List Nat} : wipeE env (v :: vs) = (wipeE env vs).set v none := rfl
@[simp] theorem back_0 {old : EnvM} : backE old env [] = env := rfl
@[simp] theorem back_1 {old : EnvM} {v : Nat} {vs : List Nat} : backE old env (v :: vs) = (backE old env vs).set v (old[v]?.join) := rfl
/-! tests -/
def andT (Γ : Gam) (b : E) (Q : Bool × EnvM → Prop) (r : Bool × EnvM) : Prop := if r.1 = true then Ev (evalT Γ b r.2) Q else Q (false, r.2)
def orT (Γ : Gam) (b : E) (Q : Bool × EnvM → Prop) (r : Bool × EnvM) : Prop := if r.1 = true then Q (true, r.2) else Ev (evalT Γ b r.2) Q
theorem andT_t {b : E} {Q : Bool × EnvM → Prop} : andT Γ b Q (true, env) = Ev (evalT Γ b env) Q := rfl
@[simp ↓] theorem andT_f {b : E} {Q : Bool × EnvM → Prop} : andT Γ b Q (false, env) = Q (false, env) := rfl
theorem andT_d {b : E} {Q : Bool × EnvM → Prop} {c : Prop} [Decidable c] : andT Γ b Q (decide c, env) = ((c → Ev (evalT Γ b env) Q) ∧ (¬ c → Q (false, env))) := by
  unfold andT
  simp only [decide_eq_true_eq]
  exact ite_two
@[simp ↓] theorem orT_t {b : E} {Q : Bool × EnvM → Prop} : orT Γ b Q (true, env) = Q (true, env) := rfl
theorem orT_f {b : E} {Q : Bool × EnvM → Prop} : orT Γ b Q (false, env) = Ev (evalT Γ b env) Q := rfl
theorem orT_d {b : E} {Q : Bool × EnvM → Prop} {c : Prop} [Decidable c] : orT Γ b Q (decide c, env) = ((c → Q (true, env)) ∧ (¬ c → Ev (evalT Γ b env) Q)) := by
  unfold orT
  simp only [decide_eq_true_eq]
  exact ite_two
theorem andT_nd {b : E} {Q : Bool × EnvM → Prop} {c : Bool} : andT Γ b Q (!c, env) = ((c = false → Ev (evalT Γ b env) Q) ∧ (c = true → Q (false, env))) := by
  cases c <;> simp [andT]
theorem orT_nd {b : E} {Q : Bool × EnvM → Prop} {c : Bool} : orT Γ b Q (!c, env) = ((c = false → Q (true, env)) ∧ (c = true → Ev (evalT Γ b env) Q)) := by
  cases c <;> simp [orT]
theorem ev_Tand {a b : E} {Q : Bool × EnvM → Prop} : Ev (evalT Γ (.and a b) env) Q = Ev (evalT Γ a env) (andT Γ b Q) := by
  simp only [evalT, Ev.eq_bind]
  congr 1; funext r
  obtain ⟨t, e⟩ := r
  cases t <;> first | rfl | exact Ev.eq_some
theorem ev_Tor {a b : E} {Q : Bool × EnvM → Prop} : Ev (evalT Γ (.or a b) env) Q = Ev (evalT Γ a env) (orT Γ b Q) := by
  simp only [evalT, Ev.eq_bind]
  congr 1; funext r
  obtain ⟨t, e⟩ := r
  cases t <;> first | rfl | exact Ev.eq_some
theorem ev_Tnot_r {a : E} {Q : Bool × EnvM → Prop} : Ev (evalT Γ (.not a) env) Q = Ev (evalT Γ a env) fun r => Q (!r.1, r.2) := by simp only [evalT, Ev.eq_map]
theorem ev_Tnm {i : Nat} {Q : Bool × EnvM → Prop} : Ev (evalT Γ (.nm i) env) Q = Ev (slot env i) fun m => Ev (bool? m) fun b => Q (b, env) := by simp only [evalT, Ev.eq_bind, Ev.eq_map]
theorem ev_Tcs {b : Bool} {Q : Bool × EnvM → Prop} : Ev (evalT Γ (.cs (.bool b)) env) Q = Q (b, env) := by simp only [evalT, Ev.eq_some]
theorem ev_Tpr_r {p : Pr} {es : Es} {Q : Bool × EnvM → Prop} : Ev (evalT Γ (.pr p es) env) Q = Ev (evalOs Γ es env) fun r => Ev (peek r.2 r.1) fun ms => Ev (prF p ms) fun m => Ev (bool? m) fun b => Q (b, r.2) := by simp only [evalT, Ev.eq_bind, Ev.eq_map]
theorem ev_Tqt_r {e : E} {Q : Bool × EnvM → Prop} : Ev (evalT Γ (.qt e) env) Q = Ev (evalE Γ e (frzE env)) fun r => Ev (bool? r.1) fun b => Q (b, env) := by simp only [evalT, Ev.eq_bind, Ev.eq_map]
theorem ev_Tch_r {p q : Pr} {a b c : E} {Q : Bool × EnvM → Prop} : Ev (evalT Γ (.ch p q a b c) env) Q = Ev (evalE Γ a env) fun ra => Ev (evalE Γ b ra.2) fun rb => Ev (prF p [ra.1, rb.1]) fun x => Ev (bool? x) (chE Γ q rb.1 c rb.2 Q) := by
  simp only [evalT, Ev.eq_bind]
  congr 1; funext ra; congr 1; funext rb; congr 1; funext x; congr 1; funext t
  cases t
  · exact Ev.eq_some
  · simp only [if_true, chE, Ev.eq_bind, Ev.eq_map]
theorem ev_Tcall_r {g : Nat} {es : Es} {Q : Bool × EnvM → Prop} : Ev (evalT Γ (.call g es) env) Q = Ev (evalOs Γ es env) fun r => Ev (D8.take r.2 r.1) fun a => Ev (Γ g a.1) fun q => q.2.length = a.1.length ∧ Ev (bool? q.1) fun b => Q (b, D8.give a.2 r.1 a.1 q.2) := by simp only [evalT, Ev.eq_bind, Ev.eq_if, Ev.eq_some, Ev.eq_map]
theorem ev_TcallK_r {g : Nat} {ix : List Nat} {es : Es} {Q : Bool × EnvM → Prop} : Ev (evalT Γ (.callK g ix es) env) Q = Ev (evalVs Γ es env) fun r => Ev (ims r.1) fun ds => Ev (perm ix ds) fun ds => Ev (Γ g (ds.map .im)) fun q => q.2.length = ds.length ∧ Ev (bool? q.1) fun b => Q (b, r.2) := by simp only [evalT, Ev.eq_bind, Ev.eq_if, Ev.eq_some, Ev.eq_map]
@[simp] theorem bool_bl {b : Bool} : bool? (.im (.bool b)) = some b := rfl
/-! the same, pairs taken apart -/
theorem ev_asg {t : At} {e : E} {Q : Fl × EnvM → Prop} : Ev (execS Γ pn (.asg t e) env) Q = Ev (evalE Γ e env) (P2 fun r_1 r_2 => Ev (store Γ pn t r_1 r_2) fun env => Q (.nx, env)) := ev_asg_r
theorem ev_par {ts : List At} {es : Es} {Q : Fl × EnvM → Prop} : Ev (execS Γ pn (.par ts es) env) Q = Ev (evalVs Γ es env) (P2 fun r_1 r_2 => Ev (storeAll Γ pn ts r_1 r_2) fun env => Q (.nx, env)) := ev_par_r
theorem ev_ex {e : E} {Q : Fl × EnvM → Prop} : Ev (execS Γ pn (.ex e) env) Q = Ev (evalE Γ e env) (P2 fun r_1 r_2 => Q (.nx, r_2)) := ev_ex_r
theorem ev_ret {e : E} {Q : Fl × EnvM → Prop} : Ev (execS Γ pn (.ret e) env) Q = Ev (evalE Γ e env) (P2 fun r_1 r_2 => Q (.rt r_1, r_2)) := ev_ret_r
theorem ev_loop {t : Tg} {w : Wk} {src : Es} {body : Ss} {Q : Fl × EnvM → Prop} : Ev (execS Γ pn (.loop t w src body) env) Q =
    Ev (evalOs Γ src env) (P2 fun r_1 r_2 => Ev (peek r_2 r_1) fun ms => Ev (forLp (nextK w r_1 (ms.map kdM)) (setTp (opSlots r_1 ++ pn) t) (fun env => execSs Γ (opSlots r_1 ++ pn) body env) 0 r_2) Q) := ev_loop_r
theorem ev_st_ix {i : Nat} {path : Es} {k : E} {m : M} {Q : EnvM → Prop} : Ev (store Γ pn (.ix i path k) m env) Q =
    Ev (evalQs Γ path (frzE env)) fun ps => Ev (evalQs Γ (.cons k .nil) (frzE env)) fun as => Ev (slot env i) fun x => Ev (atP (fun x => mtF .setIx x (as ++ [m])) ps x) (P2 fun q_1 q_2 => Q (env.set i (some q_1))) := ev_st_ix_r
theorem ev_Os_nm {i : Nat} {es : Es} {Q : List Op × EnvM → Prop} : Ev (evalOs Γ (.cons (.nm i) es) env) Q = Ev (slot env i) fun _ => Ev (evalOs Γ es env) (P2 fun q_1 q_2 => Q (.sl i :: q_1, q_2)) := ev_Os_nm_r
theorem ev_Os_e {e : E} {es : Es} {Q : List Op × EnvM → Prop} (h : ∀ i, e ≠ .nm i) : Ev (evalOs Γ (.cons e es) env) Q = Ev (evalE Γ e env) (P2 fun r_1 r_2 => Ev (evalOs Γ es r_2) (P2 fun q_1 q_2 => Q (.tm r_1 :: q_1, q_2))) := ev_Os_e_r h
theorem ev_Vs_cons {e : E} {es : Es} {Q : List M × EnvM → Prop} : Ev (evalVs Γ (.cons e es) env) Q = Ev (evalE Γ e env) (P2 fun r_1 r_2 => Ev (evalVs Γ es r_2) (P2 fun q_1 q_2 => Q (r_1 :: q_1, q_2))) := ev_Vs_cons_r
theorem ev_Qs_cons {e : E} {es : Es} {Q : List M → Prop} : Ev (evalQs Γ (.cons e es) env) Q = Ev (evalE Γ e env) (P2 fun r_1 r_2 => clean r_1.fz = true ∧ Ev (evalQs Γ es env) fun q => Q (.im r_1.fz :: q)) := ev_Qs_cons_r
theorem ev_pr {p : Pr} {es : Es} {Q : M × EnvM → Prop} : Ev (evalE Γ (.pr p es) env) Q = Ev (evalOs Γ es env) (P2 fun r_1 r_2 => Ev (peek r_2 r_1) fun ms => Ev (prF p ms) fun m => Q (m, r_2)) := ev_pr_r
theorem ev_qt {e : E} {Q : M × EnvM → Prop} : Ev (evalE Γ (.qt e) env) Q = Ev (evalE Γ e (frzE env)) (P2 fun r_1 r_2 => clean r_1.fz = true ∧ Q (r_1, env)) := ev_qt_r
theorem ev_and {a b : E} {Q : M × EnvM → Prop} : Ev (evalE Γ (.and a b) env) Q = Ev (evalE Γ a env) (P2 fun r_1 r_2 => Ev (bool? r_1) (andE Γ b r_2 Q)) := ev_and_r
theorem ev_or {a b : E} {Q : M × EnvM → Prop} : Ev (evalE Γ (.or a b) env) Q = Ev (evalE Γ a env) (P2 fun r_1 r_2 => Ev (bool? r_1) (orE Γ b r_2 Q)) := ev_or_r
theorem ev_not {a : E} {Q : M × EnvM → Prop} : Ev (evalE Γ (.not a) env) Q = Ev (evalE Γ a env) (P2 fun r_1 r_2 => Ev (bool? r_1) fun t => Q (mbl (!t), r_2)) := ev_not_r
theorem ev_ch {p q : Pr} {a b c : E} {Q : M × EnvM → Prop} : Ev (evalE Γ (.ch p q a b c) env) Q = Ev (evalE Γ a env) (P2 fun ra_1 ra_2 => Ev (evalE Γ b ra_2) (P2 fun rb_1 rb_2 => Ev (prF p [ra_1, rb_1]) fun x => Ev (bool? x) (chE Γ q rb_1 c rb_2 (P2 fun r_1 r_2 => Q (mbl r_1, r_2))))) := ev_ch_r
theorem ev_tup {es : Es} {Q : M × EnvM → Prop} : Ev (evalE Γ (.tup es) env) Q = Ev (evalVs Γ es env) (P2 fun r_1 r_2 => r_1.length ≤ sizeLine ∧ Q (.im (.tuple (fzs r_1)), r_2)) := ev_tup_r
theorem ev_lst {es : Es} {Q : M × EnvM → Prop} : Ev (evalE Γ (.lst es) env) Q = Ev (evalVs Γ es env) (P2 fun r_1 r_2 => r_1.length ≤ sizeLine ∧ Q (.ml r_1, r_2)) := ev_lst_r
theorem ev_lsf {es : Es} {Q : M × EnvM → Prop} : Ev (evalE Γ (.lsf es) env) Q = Ev (evalVs Γ es env) (P2 fun r_1 r_2 => r_1.length ≤ sizeLine ∧ Q (mList (fzs r_1), r_2)) := ev_lsf_r
theorem ev_call {g : Nat} {es : Es} {Q : M × EnvM → Prop} : Ev (evalE Γ (.call g es) env) Q = Ev (evalOs Γ es env) (P2 fun r_1 r_2 => Ev (D8.take r_2 r_1) (P2 fun a_1 a_2 => Ev (Γ g a_1) (P2 fun q_1 q_2 => q_2.length = a_1.length ∧ Q (q_1, D8.give a_2 r_1 a_1 q_2)))) := ev_call_r
theorem ev_callK {g : Nat} {ix : List Nat} {es : Es} {Q : M × EnvM → Prop} : Ev (evalE Γ (.callK g ix es) env) Q = Ev (evalVs Γ es env) (P2 fun r_1 r_2 => Ev (ims r_1) fun ds => Ev (perm ix ds) fun ds => Ev (Γ g (ds.map .im)) (P2 fun q_1 q_2 => q_2.length = ds.length ∧ Q (q_1, r_2))) := ev_callK_r
theorem ev_mt {m : Mt} {i : Nat} {es : Es} {Q : M × EnvM → Prop} : Ev (evalE Γ (.mt m i es) env) Q = Ev (slot env i) fun x0 => recOk m x0 = true ∧ Ev (evalVs Γ es env) (P2 fun r_1 r_2 => Ev (slot r_2 i) fun x => Ev (mtF m x r_1) (P2 fun q_1 q_2 => Q (q_2, r_2.set i (some q_1)))) := ev_mt_r
theorem ev_mp {m : Mt} {i : Nat} {path es : Es} {Q : M × EnvM → Prop} : Ev (evalE Γ (.mp m i path es) env) Q = Ev (evalQs Γ path (frzE env)) fun ps => Ev (evalQs Γ es (frzE env)) fun as => Ev (slot env i) fun x => Ev (atP (fun x => mtF m x as) ps x) (P2 fun q_1 q_2 => Q (q_2, env.set i (some q_1))) := ev_mp_r
theorem ev_lc0 {own : List Nat} {t : Tg} {w : Wk} {src : Es} {e : E} {Q : M × EnvM → Prop} : Ev (evalE Γ (.lc own t w src none e) env) Q = Ev (evalOs Γ src env) (P2 fun r_1 r_2 => Ev (peek r_2 r_1) fun ms =>
      Ev (lcLp (nextK w r_1 (ms.map kdM)) (setT t) (fun env => some (true, env)) (fun env => evalE Γ e env) (fun env => wipeE env own) 0 [] (wipeE r_2 own)) (P2 fun q_1 q_2 => Q (.ml q_1, backE r_2 q_2 own))) := ev_lc0_r
theorem ev_lc1 {own : List Nat} {t : Tg} {w : Wk} {src : Es} {c e : E} {Q : M × EnvM → Prop} : Ev (evalE Γ (.lc own t w src (some c) e) env) Q = Ev (evalOs Γ src env) (P2 fun r_1 r_2 => Ev (peek r_2 r_1) fun ms =>
      Ev (lcLp (nextK w r_1 (ms.map kdM)) (setT t) (fun env => evalT Γ c env) (fun env => evalE Γ e env) (fun env => wipeE env own) 0 [] (wipeE r_2 own)) (P2 fun q_1 q_2 => Q (.ml q_1, backE r_2 q_2 own))) := ev_lc1_r
theorem ev_Tnot {a : E} {Q : Bool × EnvM → Prop} : Ev (evalT Γ (.not a) env) Q = Ev (evalT Γ a env) (P2 fun r_1 r_2 => Q (!r_1, r_2)) := ev_Tnot_r
theorem ev_Tpr {p : Pr} {es : Es} {Q : Bool × EnvM → Prop} : Ev (evalT Γ (.pr p es) env) Q = Ev (evalOs Γ es env) (P2 fun r_1 r_2 => Ev (peek r_2 r_1) fun ms => Ev (prF p ms) fun m => Ev (bool? m) fun b => Q (b, r_2)) := ev_Tpr_r
theorem ev_Tqt {e : E} {Q : Bool × EnvM → Prop} : Ev (evalT Γ (.qt e) env) Q = Ev (evalE Γ e (frzE env)) (P2 fun r_1 r_2 => Ev (bool? r_1) fun b => Q (b, env)) := ev_Tqt_r
theorem ev_Tch {p q : Pr} {a b c : E} {Q : Bool × EnvM → Prop} : Ev (evalT Γ (.ch p q a b c) env) Q = Ev (evalE Γ a env) (P2 fun ra_1 ra_2 => Ev (evalE Γ b ra_2) (P2 fun rb_1 rb_2 => Ev (prF p [ra_1, rb_1]) fun x => Ev (bool? x) (chE Γ q rb_1 c rb_2 Q))) := ev_Tch_r
theorem ev_Tcall {g : Nat} {es : Es} {Q : Bool × EnvM → Prop} : Ev (evalT Γ (.call g es) env) Q = Ev (evalOs Γ es env) (P2 fun r_1 r_2 => Ev (D8.take r_2 r_1) (P2 fun a_1 a_2 => Ev (Γ g a_1) (P2 fun q_1 q_2 => q_2.length = a_1.length ∧ Ev (bool? q_1) fun b => Q (b, D8.give a_2 r_1 a_1 q_2)))) := ev_Tcall_r
theorem ev_TcallK {g : Nat} {ix : List Nat} {es : Es} {Q : Bool × EnvM → Prop} : Ev (evalT Γ (.callK g ix es) env) Q = Ev (evalVs Γ es env) (P2 fun r_1 r_2 => Ev (ims r_1) fun ds => Ev (perm ix ds) fun ds => Ev (Γ g (ds.map .im)) (P2 fun q_1 q_2 => q_2.length = ds.length ∧ Ev (bool? q_1) fun b => Q (b, r_2))) := ev_TcallK_r
theorem chE_t {q : Pr} {b : M} {c : E} {Q : Bool × EnvM → Prop} : chE Γ q b c env Q true = Ev (evalE Γ c env) (P2 fun rc_1 rc_2 => Ev (prF q [b, rc_1]) fun y => Ev (bool? y) fun u => Q (u, rc_2)) := chE_t_r
theorem chE_d {q : Pr} {b : M} {e : E} {Q : Bool × EnvM → Prop} {c : Prop} [Decidable c] : chE Γ q b e env Q (decide c) = ((c → Ev (evalE Γ e env) (P2 fun rc_1 rc_2 => Ev (prF q [b, rc_1]) fun y => Ev (bool? y) fun u => Q (u, rc_2))) ∧ (¬ c → Q (false, env))) := chE_d_r
theorem take_tm {m : M} {os : List Op} {Q : List M × EnvM → Prop} : Ev (D8.take env (.tm m :: os)) Q = Ev (D8.take env os) (P2 fun r_1 r_2 => Q (m :: r_1, r_2)) := take_tm_r
theorem tk1_im {i : Nat} {os : List Op} {Q : List M × EnvM → Prop} {d : PyData} : tk1 i os env Q (.im d) = Ev (D8.take env os) (P2 fun r_1 r_2 => Q (.im d :: r_1, r_2)) := tk1_im_r
theorem tk1_ml {i : Nat} {os : List Op} {Q : List M × EnvM → Prop} {d : List M} : tk1 i os env Q (.ml d) = Ev (D8.take (env.set i none) os) (P2 fun r_1 r_2 => Q (.ml d :: r_1, r_2)) := tk1_ml_r
theorem tk1_md {i : Nat} {os : List Op} {Q : List M × EnvM → Prop} {d : List (Key × M)} : tk1 i os env Q (.md d) = Ev (D8.take (env.set i none) os) (P2 fun r_1 r_2 => Q (.md d :: r_1, r_2)) := tk1_md_r
/-! calls -/
theorem ev_gam {T : List TD} {n g : Nat} {d : TD} {ms : List M} {Q : M × List (Option M) → Prop} (hd : T[g]? = some d) (hl : ms.length = d.ps.length)
    (h : Ev (execSs (gamT T n) (pins ms 0) d.B (ms.map some ++ List.replicate (d.N.length - d.ps.length) none)) fun r => match r.1 with
      | .nx => Q (.im .none, backs ms r.2)
      | .rt m => Q (m, backs ms r.2)
      | _ => False) : Ev (gamT T (n + 1) g ms) Q := by
  obtain ⟨⟨fl, env⟩, h1, h2⟩ := h
  simp only [gamT, hd, callD, hl, if_true, h1, Option.bind_some]
  cases fl with
  | nx => exact ⟨_, rfl, h2⟩
  | rt m => exact ⟨_, rfl, h2⟩
  | bk => exact h2.elim
  | ct => exact h2.elim
@[simp] theorem owned_0 {d : PyData} : owned (.im d) = false := rfl
@[simp] theorem owned_1 {d : List M} : owned (.ml d) = true := rfl
@[simp] theorem owned_2 {d : List (Key × M)} : owned (.md d) = true := rfl
@[simp] theorem pins_0 {i : Nat} : pins [] i = [] := rfl
@[simp] theorem pins_1 {m : M} {ms : List M} {i : Nat} : pins (m :: ms) i = if owned m = true then i :: pins ms (i + 1) else pins ms (i + 1) := rfl
@[simp] theorem backs_0 : backs [] env = [] := by cases env <;> rfl
@[simp] theorem backs_1 {m : M} {ms : List M} {c : Option M} : backs (m :: ms) (c :: env) = (if owned m = true then c else none) :: backs ms env := rfl
@[simp] theorem backs_2 {m : M} {ms : List M} : backs (m :: ms) [] = none :: backs ms [] := rfl
end
/-! loops and calls stand still: simp leaves what comes after them -/
section
variable {α : Type}
def ForK (env : EnvM) (k : Nat) (p : (Nat → EnvM → Option (Option PyData)) × (PyData → EnvM → Option EnvM) × (EnvM → Option (Fl × EnvM)) × (Fl × EnvM → Prop)) (_ : Tag p) : Prop := Ev (forLp p.1 p.2.1 p.2.2.1 k env) p.2.2.2
def WhK (env : EnvM) (p : (EnvM → Option (Bool × EnvM)) × (EnvM → Option (Fl × EnvM)) × (Fl × EnvM → Prop)) (_ : Tag p) : Prop := Ev (whLp p.1 p.2.1 env) p.2.2
def LcK (env : EnvM) (k : Nat) (acc : List M) (p : (Nat → EnvM → Option (Option PyData)) × (PyData → EnvM → Option EnvM) × (EnvM → Option (Bool × EnvM)) × (EnvM → Option (M × EnvM)) × (EnvM → EnvM) × (List M × EnvM → Prop)) (_ : Tag p) : Prop :=
  Ev (lcLp p.1 p.2.1 p.2.2.1 p.2.2.2.1 p.2.2.2.2.1 k acc env) p.2.2.2.2.2
def CallK (T : List TD) (n g : Nat) (ms : List M) (p : M × List (Option M) → Prop) (_ : Tag p) : Prop := Ev (gamT T n g ms) p
theorem ev_forK {env : EnvM} {nxt : Nat → EnvM → Option (Option PyData)} {st : PyData → EnvM → Option EnvM} {body : EnvM → Option (Fl × EnvM)} {k : Nat} {Q : Fl × EnvM → Prop} : Ev (forLp nxt st body k env) Q = ForK env k (nxt, st, body, Q) .mk := rfl
theorem ev_whK {env : EnvM} {c : EnvM → Option (Bool × EnvM)} {body : EnvM → Option (Fl × EnvM)} {Q : Fl × EnvM → Prop} : Ev (whLp c body env) Q = WhK env (c, body, Q) .mk := rfl
theorem ev_lcK {env : EnvM} {nxt : Nat → EnvM → Option (Option PyData)} {st : PyData → EnvM → Option EnvM} {c : EnvM → Option (Bool × EnvM)} {e : EnvM → Option (M × EnvM)} {w : EnvM → EnvM} {k : Nat} {acc : List M} {Q : List M × EnvM → Prop} : Ev (lcLp nxt st c e w k acc env) Q = LcK env k acc (nxt, st, c, e, w, Q) .mk := rfl
theorem ev_callG {T : List TD} {n g : Nat} {ms : List M} {Q : M × List (Option M) → Prop} : Ev (gamT T n g ms) Q = CallK T n g ms Q .mk := rfl
theorem ForK.of {env : EnvM} {nxt : Nat → EnvM → Option (Option PyData)} {st : PyData → EnvM → Option EnvM} {body : EnvM → Option (Fl × EnvM)} {k : Nat} {P Q : Fl × EnvM → Prop} (h : Ev (forLp nxt st body k env) P) (m : ∀ r, P r → Q r) : ForK env k (nxt, st, body, Q) .mk := h.mono m
theorem WhK.of {env : EnvM} {c : EnvM → Option (Bool × EnvM)} {body : EnvM → Option (Fl × EnvM)} {P Q : Fl × EnvM → Prop} (h : Ev (whLp c body env) P) (m : ∀ r, P r → Q r) : WhK env (c, body, Q) .mk := h.mono m
theorem LcK.of {env : EnvM} {nxt : Nat → EnvM → Option (Option PyData)} {st : PyData → EnvM → Option EnvM} {c : EnvM → Option (Bool × EnvM)} {e : EnvM → Option (M × EnvM)} {w : EnvM → EnvM} {k : Nat} {acc : List M} {P Q : List M × EnvM → Prop} (h : Ev (lcLp nxt st c e w k acc env) P) (m : ∀ r, P r → Q r) : LcK env k acc (nxt, st, c, e, w, Q) .mk := h.mono m
theorem CallK.of {T : List TD} {n g : Nat} {ms : List M} {P Q : M × List (Option M) → Prop} (h : Ev (gamT T n g ms) P) (m : ∀ r, P r → Q r) : CallK T n g ms Q .mk := h.mono m
end
/-! primitives -/
section
variable {x y z : M}
@[simp ↓] theorem prF_add : prF .add [x, y] = addF x y := rfl
@[simp ↓] theorem prF_sub : prF .sub [x, y] = subF x y := rfl
@[simp ↓] theorem prF_mul : prF .mul [x, y] = mulF x y := rfl
@[simp ↓] theorem prF_fdiv : prF .fdiv [x, y] = fdivF x y := rfl
@[simp ↓] theorem prF_mod : prF .mod [x, y] = modF x y := rfl
@[simp ↓] theorem prF_pow : prF .pow [x, y] = powF x y := rfl
@[simp ↓] theorem prF_neg : prF .neg [x] = negF x := rfl
@[simp ↓] theorem prF_eq : prF .eq [x, y] = (eqF x y).map mbl := rfl
@[simp ↓] theorem prF_ne : prF .ne [x, y] = (eqF x y).map fun b => mbl (!b) := rfl
@[simp ↓] theorem prF_lt : prF .lt [x, y] = (ltF x y).map mbl := rfl
@[simp ↓] theorem prF_le : prF .le [x, y] = (leF x y).map mbl := rfl
@[simp ↓] theorem prF_gt : prF .gt [x, y] = (ltF y x).map mbl := rfl
@[simp ↓] theorem prF_ge : prF .ge [x, y] = (leF y x).map mbl := rfl
@[simp ↓] theorem prF_isN : prF .isN [x, y] = (isN2 x y).map mbl := rfl
@[simp ↓] theorem prF_noN : prF .noN [x, y] = (isN2 x y).map fun b => mbl (!b) := rfl
@[simp ↓] theorem prF_inn : prF .inn [x, y] = (inF x y).map mbl := rfl
@[simp ↓] theorem prF_nin : prF .nin [x, y] = (inF x y).map fun b => mbl (!b) := rfl
@[simp ↓] theorem prF_len : prF .len [x] = lenF x := rfl
@[simp ↓] theorem prF_abs : prF .abs [x] = absF x := rfl
@[simp ↓] theorem prF_int : prF .int [x] = intF x := rfl
@[simp ↓] theorem prF_sum : prF .sum [x] = sumF x := rfl
@[simp ↓] theorem prF_sorted : prF .sorted [x] = sortF x := rfl
@[simp ↓] theorem prF_tupO : prF .tupO [x] = tupF x := rfl
@[simp ↓] theorem prF_lstO : prF .lstO [x] = lstF x := rfl
@[simp ↓] theorem prF_rpr : prF .rpr [x] = rprF x := rfl
@[simp ↓] theorem prF_idx : prF .idx [x, y] = idxF x y := rfl
@[simp ↓] theorem prF_rev : prF .rev [x] = revF x := rfl
@[simp ↓] theorem prF_all : prF .all [x] = allF x := rfl
@[simp ↓] theorem prF_any : prF .any [x] = anyF x := rfl
@[simp ↓] theorem prF_isi {t : String} : prF (.isi t) [x] = (isiF t x).map mbl := rfl
@[simp ↓] theorem prF_min2 : prF .min2 [x, y] = min2F x y := rfl
@[simp ↓] theorem prF_max2 : prF .max2 [x, y] = max2F x y := rfl
@[simp ↓] theorem prF_sl11 {i j : Int} : prF (.sl true true) [x, .im (.int i), .im (.int j)] = slF x (some i) (some j) := rfl
@[simp ↓] theorem prF_sl10 {i : Int} : prF (.sl true false) [x, .im (.int i)] = slF x (some i) none := rfl
@[simp ↓] theorem prF_sl01 {i : Int} : prF (.sl false true) [x, .im (.int i)] = slF x none (some i) := rfl
@[simp ↓] theorem prF_sl00 : prF (.sl false false) [x] = slF x none none := rfl
variable {i j : Int}
@[simp] theorem addF_i : addF (.im (.int i)) (.im (.int j)) = some (mint (i + j)) := rfl
@[simp] theorem addF_t {a b : List PyData} : addF (.im (.tuple a)) (.im (.tuple b)) = if a.length + b.length ≤ sizeLine then some (.im (.tuple (a ++ b))) else none := rfl
@[simp] theorem addF_ml {a : List M} : addF (.ml a) y = (ims a).bind fun a => y.lst?.bind fun b => if a.length + b.length ≤ sizeLine then some (mList (a ++ b)) else none := rfl
@[simp] theorem addF_iml {a : List PyData} : addF (.im (.list a)) y = y.lst?.bind fun b => if a.length + b.length ≤ sizeLine then some (mList (a ++ b)) else none := by cases y <;> rfl
@[simp] theorem subF_i : subF (.im (.int i)) (.im (.int j)) = some (mint (i - j)) := rfl
@[simp] theorem mulF_i : mulF (.im (.int i)) (.im (.int j)) = if mulOk i j = true then some (mint (i * j)) else none := rfl
@[simp] theorem fdivF_i : fdivF (.im (.int i)) (.im (.int j)) = if divOk j = true then some (mint (i / j)) else none := rfl
@[simp] theorem modF_i : modF (.im (.int i)) (.im (.int j)) = if 0 < j then some (mint (i % j)) else none := rfl
@[simp] theorem powF_i : powF (.im (.int i)) (.im (.int j)) = if powOk i j = true then some (mint (i ^ j.toNat)) else none := rfl
@[simp] theorem negF_i : negF (.im (.int i)) = some (mint (-i)) := rfl
@[simp] theorem ltF_i : ltF (.im (.int i)) (.im (.int j)) = some (decide (i < j)) := rfl
@[simp] theorem leF_i : leF (.im (.int i)) (.im (.int j)) = some (decide (i ≤ j)) := rfl
@[simp] theorem absF_i : absF (.im (.int i)) = some (mint (if i < 0 then -i else i)) := rfl
@[simp] theorem intF_i : intF (.im (.int i)) = some (mint i) := rfl
@[simp] theorem intF_b {b : Bool} : intF (.im (.bool b)) = some (mint (if b then 1 else 0)) := rfl
@[simp] theorem eqF_i : eqF (.im (.int i)) (.im (.int j)) = some (decide (i = j)) := by
  simp [eqF, M.fz, SeqAt.shaped, PyData.canLay0, PyData.depth, PyData.eqv]
  by_cases h : i = j <;> simp [h]
@[simp] theorem lenF_t {a : List PyData} : lenF (.im (.tuple a)) = some (mint a.length) := rfl
@[simp] theorem lenF_l {a : List PyData} : lenF (.im (.list a)) = some (mint a.length) := rfl
@[simp] theorem lenF_ml {a : List M} : lenF (.ml a) = some (mint a.length) := rfl
@[simp] theorem lst_ml {a : List M} : M.lst? (.ml a) = ims a := rfl
@[simp] theorem lst_l {a : List PyData} : M.lst? (.im (.list a)) = some a := rfl
@[simp] theorem ims_map_s {ds : List PyData} : ims (ds.map .im) = some ds := ims_map ds
end
/-! tagged -/
section
variable {α β : Type} {Γ : Gam} {pn : List Nat} {env : EnvM}
@[simp ↓] theorem Et.eq_bind_t {x : Option α} {f : α → Option β} {Q : β → Prop} : Et (x.bind f) Q = Et x fun a => Et (f a) Q := Ev.eq_bind
@[simp ↓] theorem Et.eq_map_t {x : Option α} {f : α → β} {Q : β → Prop} : Et (x.map f) Q = Et x fun a => Q (f a) := Ev.eq_map
@[simp ↓] theorem Et.eq_some_t {a : α} {Q : α → Prop} : Et (some a) Q = Q a := Ev.eq_some
@[simp ↓] theorem Et.eq_none_t {Q : α → Prop} : Et (none : Option α) Q = False := Ev.eq_none
@[simp] theorem Et.eq_if_t {c : Prop} [Decidable c] {x : Option α} {Q : α → Prop} : Et (if c then x else none) Q = (c ∧ Et x Q) := Ev.eq_if
@[simp ↓] theorem thn_nx_t {ss : Ss} {Q : Fl × EnvM → Prop} : thn Γ pn ss Q (.nx, env) = Et (execSs Γ pn ss env) Q := thn_nx
@[simp ↓] theorem ev_Ss_nil_t {Q : Fl × EnvM → Prop} : Et (execSs Γ pn .nil env) Q = Q (.nx, env) := ev_Ss_nil
@[simp ↓] theorem ev_Ss_cons_t {s : S} {ss : Ss} {Q : Fl × EnvM → Prop} : Et (execSs Γ pn (.cons s ss) env) Q = Et (execS Γ pn s env) (thn Γ pn ss Q) := ev_Ss_cons
@[simp ↓] theorem ev_retN_t {Q : Fl × EnvM → Prop} : Et (execS Γ pn .retN env) Q = Q (.rt (.im .none), env) := ev_retN
@[simp ↓] theorem ev_pass_t {Q : Fl × EnvM → Prop} : Et (execS Γ pn .pass env) Q = Q (.nx, env) := ev_pass
@[simp ↓] theorem two_t_t {a b : Ss} {Q : Fl × EnvM → Prop} : two Γ pn a b Q (true, env) = Et (execSs Γ pn a env) Q := two_t
@[simp ↓] theorem two_f_t {a b : Ss} {Q : Fl × EnvM → Prop} : two Γ pn a b Q (false, env) = Et (execSs Γ pn b env) Q := two_f
@[simp] theorem two_d_t {a b : Ss} {Q : Fl × EnvM → Prop} {c : Prop} [Decidable c] : two Γ pn a b Q (decide c, env) = ((c → Et (execSs Γ pn a env) Q) ∧ (¬ c → Et (execSs Γ pn b env) Q)) := two_d
@[simp ↓] theorem ev_ite_t {c : E} {a b : Ss} {Q : Fl × EnvM → Prop} : Et (execS Γ pn (.ite c a b) env) Q = Et (evalT Γ c env) (two Γ pn a b Q) := ev_ite
@[simp ↓] theorem ev_whl_t {c : E} {body : Ss} {Q : Fl × EnvM → Prop} : Et (execS Γ pn (.whl c body) env) Q = Et (whLp (fun env => evalT Γ c env) (fun env => execSs Γ pn body env) env) Q := ev_whl
@[simp ↓] theorem ev_st_nm_t {i : Nat} {m : M} {Q : EnvM → Prop} : Et (store Γ pn (.nm i) m env) Q = ((freeOf pn [i] = true ∧ i < env.length) ∧ Q (env.set i (some m))) := ev_st_nm
@[simp ↓] theorem ev_st_tp_t {ts : Tgs} {d : PyData} {Q : EnvM → Prop} : Et (store Γ pn (.tp ts) (.im d) env) Q = Et (setTp pn (.tp ts) d env) Q := ev_st_tp
@[simp ↓] theorem ev_sta_nil_t {Q : EnvM → Prop} : Et (storeAll Γ pn [] [] env) Q = Q env := ev_sta_nil
@[simp ↓] theorem ev_sta_cons_t {t : At} {ts : List At} {m : M} {ms : List M} {Q : EnvM → Prop} : Et (storeAll Γ pn (t :: ts) (m :: ms) env) Q = Et (store Γ pn t m env) fun env => Et (storeAll Γ pn ts ms env) Q := ev_sta_cons
@[simp ↓] theorem ev_setTp_t {t : Tg} {d : PyData} {Q : EnvM → Prop} : Et (setTp pn t d env) Q = (freeOf pn t.slots = true ∧ Et (setT t d env) Q) := ev_setTp
@[simp ↓] theorem ev_setT_nm_t {i : Nat} {d : PyData} {Q : EnvM → Prop} : Et (setT (.nm i) d env) Q = (i < env.length ∧ Q (env.set i (some (.im d)))) := ev_setT_nm
@[simp ↓] theorem ev_setT_tp_t {ts : Tgs} {ds : List PyData} {Q : EnvM → Prop} : Et (setT (.tp ts) (.tuple ds) env) Q = Et (setTs ts ds env) Q := ev_setT_tp
@[simp ↓] theorem ev_setTs_nil_t {Q : EnvM → Prop} : Et (setTs .nil [] env) Q = Q env := ev_setTs_nil
@[simp ↓] theorem ev_setTs_cons_t {t : Tg} {ts : Tgs} {d : PyData} {ds : List PyData} {Q : EnvM → Prop} : Et (setTs (.cons t ts) (d :: ds) env) Q = Et (setT t d env) fun env => Et (setTs ts ds env) Q := ev_setTs_cons
@[simp ↓] theorem peek_sl_t {i : Nat} {os : List Op} {Q : List M → Prop} : Et (peek env (.sl i :: os)) Q = Et (slot env i) fun m => Et (peek env os) fun ms => Q (m :: ms) := peek_sl
@[simp ↓] theorem peek_tm_t {m : M} {os : List Op} {Q : List M → Prop} : Et (peek env (.tm m :: os)) Q = Et (peek env os) fun ms => Q (m :: ms) := peek_tm
@[simp ↓] theorem peek_nil_t {Q : List M → Prop} : Et (peek env []) Q = Q [] := peek_nil
@[simp ↓] theorem take_nil_t {Q : List M × EnvM → Prop} : Et (D8.take env []) Q = Q ([], env) := take_nil
@[simp ↓] theorem take_sl_t {i : Nat} {os : List Op} {Q : List M × EnvM → Prop} : Et (D8.take env (.sl i :: os)) Q = Et (slot env i) (tk1 i os env Q) := take_sl
@[simp ↓] theorem ev_Os_nil_t {Q : List Op × EnvM → Prop} : Et (evalOs Γ .nil env) Q = Q ([], env) := ev_Os_nil
@[simp ↓] theorem ev_Vs_nil_t {Q : List M × EnvM → Prop} : Et (evalVs Γ .nil env) Q = Q ([], env) := ev_Vs_nil
@[simp ↓] theorem ev_Qs_nil_t {Q : List M → Prop} : Et (evalQs Γ .nil env) Q = Q [] := ev_Qs_nil
@[simp ↓] theorem ev_mv_t {i : Nat} {Q : M × EnvM → Prop} : Et (evalE Γ (.mv i) env) Q = Et (slot env i) (mv1 i env Q) := ev_mv
@[simp ↓] theorem ev_nm_t {i : Nat} {Q : M × EnvM → Prop} : Et (evalE Γ (.nm i) env) Q = Et (slot env i) (nm1 i env Q) := ev_nm
@[simp ↓] theorem ev_cs_t {d : PyData} {Q : M × EnvM → Prop} : Et (evalE Γ (.cs d) env) Q = Q (.im d, env) := ev_cs
@[simp ↓] theorem twoE_t_t {a b : E} {Q : M × EnvM → Prop} : twoE Γ a b Q (true, env) = Et (evalE Γ a env) Q := twoE_t
@[simp ↓] theorem twoE_f_t {a b : E} {Q : M × EnvM → Prop} : twoE Γ a b Q (false, env) = Et (evalE Γ b env) Q := twoE_f
@[simp] theorem twoE_d_t {a b : E} {Q : M × EnvM → Prop} {c : Prop} [Decidable c] : twoE Γ a b Q (decide c, env) = ((c → Et (evalE Γ a env) Q) ∧ (¬ c → Et (evalE Γ b env) Q)) := twoE_d
@[simp ↓] theorem ev_Eite_t {c a b : E} {Q : M × EnvM → Prop} : Et (evalE Γ (.ite c a b) env) Q = Et (evalT Γ c env) (twoE Γ a b Q) := ev_Eite
@[simp ↓] theorem andE_t_t {b : E} {Q : M × EnvM → Prop} : andE Γ b env Q true = Et (evalE Γ b env) Q := andE_t
@[simp] theorem andE_d_t {b : E} {Q : M × EnvM → Prop} {c : Prop} [Decidable c] : andE Γ b env Q (decide c) = ((c → Et (evalE Γ b env) Q) ∧ (¬ c → Q (mbl false, env))) := andE_d
@[simp ↓] theorem orE_f_t {b : E} {Q : M × EnvM → Prop} : orE Γ b env Q false = Et (evalE Γ b env) Q := orE_f
@[simp] theorem orE_d_t {b : E} {Q : M × EnvM → Prop} {c : Prop} [Decidable c] : orE Γ b env Q (decide c) = ((c → Q (mbl true, env)) ∧ (¬ c → Et (evalE Γ b env) Q)) := orE_d
@[simp ↓] theorem andE_nd_t {b : E} {Q : M × EnvM → Prop} {c : Bool} : andE Γ b env Q (!c) = ((c = false → Et (evalE Γ b env) Q) ∧ (c = true → Q (mbl false, env))) := andE_nd
@[simp ↓] theorem orE_nd_t {b : E} {Q : M × EnvM → Prop} {c : Bool} : orE Γ b env Q (!c) = ((c = false → Q (mbl true, env)) ∧ (c = true → Et (evalE Γ b env) Q)) := orE_nd
@[simp ↓] theorem ev_dct_t {es : Es} {Q : M × EnvM → Prop} : Et (evalE Γ (.dct es) env) Q = Et (evalVs Γ es env) (P2 fun r1 r2 => Et (kvsOf r1) fun kvs => (kvs.length ≤ 15 ∧ (kvs.map (·.1)).Nodup) ∧ Q (.md kvs, r2)) := ev_dct
@[simp ↓] theorem andT_t_t {b : E} {Q : Bool × EnvM → Prop} : andT Γ b Q (true, env) = Et (evalT Γ b env) Q := andT_t
@[simp] theorem andT_d_t {b : E} {Q : Bool × EnvM → Prop} {c : Prop} [Decidable c] : andT Γ b Q (decide c, env) = ((c → Et (evalT Γ b env) Q) ∧ (¬ c → Q (false, env))) := andT_d
@[simp ↓] theorem orT_f_t {b : E} {Q : Bool × EnvM → Prop} : orT Γ b Q (false, env) = Et (evalT Γ b env) Q := orT_f
@[simp] theorem orT_d_t {b : E} {Q : Bool × EnvM → Prop} {c : Prop} [Decidable c] : orT Γ b Q (decide c, env) = ((c → Q (true, env)) ∧ (¬ c → Et (evalT Γ b env) Q)) := orT_d
@[simp ↓] theorem andT_nd_t {b : E} {Q : Bool × EnvM → Prop} {c : Bool} : andT Γ b Q (!c, env) = ((c = false → Et (evalT Γ b env) Q) ∧ (c = true → Q (false, env))) := andT_nd
@[simp ↓] theorem orT_nd_t {b : E} {Q : Bool × EnvM → Prop} {c : Bool} : orT Γ b Q (!c, env) = ((c = false → Q (true, env)) ∧ (c = true → Et (evalT Γ b env) Q)) := orT_nd
@[simp ↓] theorem ev_Tand_t {a b : E} {Q : Bool × EnvM → Prop} : Et (evalT Γ (.and a b) env) Q = Et (evalT Γ a env) (andT Γ b Q) := ev_Tand
@[simp ↓] theorem ev_Tor_t {a b : E} {Q : Bool × EnvM → Prop} : Et (evalT Γ (.or a b) env) Q = Et (evalT Γ a env) (orT Γ b Q) := ev_Tor
@[simp ↓] theorem ev_Tnm_t {i : Nat} {Q : Bool × EnvM → Prop} : Et (evalT Γ (.nm i) env) Q = Et (slot env i) fun m => Et (bool? m) fun b => Q (b, env) := ev_Tnm
@[simp ↓] theorem ev_Tcs_t {b : Bool} {Q : Bool × EnvM → Prop} : Et (evalT Γ (.cs (.bool b)) env) Q = Q (b, env) := ev_Tcs
@[simp ↓] theorem ev_asg_t {t : At} {e : E} {Q : Fl × EnvM → Prop} : Et (execS Γ pn (.asg t e) env) Q = Et (evalE Γ e env) (P2 fun r_1 r_2 => Et (store Γ pn t r_1 r_2) fun env => Q (.nx, env)) := ev_asg
@[simp ↓] theorem ev_par_t {ts : List At} {es : Es} {Q : Fl × EnvM → Prop} : Et (execS Γ pn (.par ts es) env) Q = Et (evalVs Γ es env) (P2 fun r_1 r_2 => Et (storeAll Γ pn ts r_1 r_2) fun env => Q (.nx, env)) := ev_par
@[simp ↓] theorem ev_ex_t {e : E} {Q : Fl × EnvM → Prop} : Et (execS Γ pn (.ex e) env) Q = Et (evalE Γ e env) (P2 fun r_1 r_2 => Q (.nx, r_2)) := ev_ex
@[simp ↓] theorem ev_ret_t {e : E} {Q : Fl × EnvM → Prop} : Et (execS Γ pn (.ret e) env) Q = Et (evalE Γ e env) (P2 fun r_1 r_2 => Q (.rt r_1, r_2)) := ev_ret
@[simp ↓] theorem ev_loop_t {t : Tg} {w : Wk} {src : Es} {body : Ss} {Q : Fl × EnvM → Prop} : Et (execS Γ pn (.loop t w src body) env) Q =
    Et (evalOs Γ src env) (P2 fun r_1 r_2 => Et (peek r_2 r_1) fun ms => Et (forLp (nextK w r_1 (ms.map kdM)) (setTp (opSlots r_1 ++ pn) t) (fun env => execSs Γ (opSlots r_1 ++ pn) body env) 0 r_2) Q) := ev_loop
@[simp ↓] theorem ev_st_ix_t {i : Nat} {path : Es} {k : E} {m : M} {Q : EnvM → Prop} : Et (store Γ pn (.ix i path k) m env) Q =
    Et (evalQs Γ path (frzE env)) fun ps => Et (evalQs Γ (.cons k .nil) (frzE env)) fun as => Et (slot env i) fun x => Et (atP (fun x => mtF .setIx x (as ++ [m])) ps x) (P2 fun q_1 q_2 => Q (env.set i (some q_1))) := ev_st_ix
@[simp ↓] theorem ev_Os_nm_t {i : Nat} {es : Es} {Q : List Op × EnvM → Prop} : Et (evalOs Γ (.cons (.nm i) es) env) Q = Et (slot env i) fun _ => Et (evalOs Γ es env) (P2 fun q_1 q_2 => Q (.sl i :: q_1, q_2)) := ev_Os_nm
@[simp ↓] theorem ev_Os_e_t {e : E} {es : Es} {Q : List Op × EnvM → Prop} (h : ∀ i, e ≠ .nm i) : Et (evalOs Γ (.cons e es) env) Q = Et (evalE Γ e env) (P2 fun r_1 r_2 => Et (evalOs Γ es r_2) (P2 fun q_1 q_2 => Q (.tm r_1 :: q_1, q_2))) := ev_Os_e h
@[simp ↓] theorem ev_Vs_cons_t {e : E} {es : Es} {Q : List M × EnvM → Prop} : Et (evalVs Γ (.cons e es) env) Q = Et (evalE Γ e env) (P2 fun r_1 r_2 => Et (evalVs Γ es r_2) (P2 fun q_1 q_2 => Q (r_1 :: q_1, q_2))) := ev_Vs_cons
@[simp ↓] theorem ev_Qs_cons_t {e : E} {es : Es} {Q : List M → Prop} : Et (evalQs Γ (.cons e es) env) Q = Et (evalE Γ e env) (P2 fun r_1 r_2 => clean r_1.fz = true ∧ Et (evalQs Γ es env) fun q => Q (.im r_1.fz :: q)) := ev_Qs_cons
@[simp ↓] theorem ev_pr_t {p : Pr} {es : Es} {Q : M × EnvM → Prop} : Et (evalE Γ (.pr p es) env) Q = Et (evalOs Γ es env) (P2 fun r_1 r_2 => Et (peek r_2 r_1) fun ms => Et (prF p ms) fun m => Q (m, r_2)) := ev_pr
@[simp ↓] theorem ev_qt_t {e : E} {Q : M × EnvM → Prop} : Et (evalE Γ (.qt e) env) Q = Et (evalE Γ e (frzE env)) (P2 fun r_1 r_2 => clean r_1.fz = true ∧ Q (r_1, env)) := ev_qt
@[simp ↓] theorem ev_and_t {a b : E} {Q : M × EnvM → Prop} : Et (evalE Γ (.and a b) env) Q = Et (evalE Γ a env) (P2 fun r_1 r_2 => Et (bool? r_1) (andE Γ b r_2 Q)) := ev_and
@[simp ↓] theorem ev_or_t {a b : E} {Q : M × EnvM → Prop} : Et (evalE Γ (.or a b) env) Q = Et (evalE Γ a env) (P2 fun r_1 r_2 => Et (bool? r_1) (orE Γ b r_2 Q)) := ev_or
@[simp ↓] theorem ev_not_t {a : E} {Q : M × EnvM → Prop} : Et (evalE Γ (.not a) env) Q = Et (evalE Γ a env) (P2 fun r_1 r_2 => Et (bool? r_1) fun t => Q (mbl (!t), r_2)) := ev_not
@[simp ↓] theorem ev_ch_t {p q : Pr} {a b c : E} {Q : M × EnvM → Prop} : Et (evalE Γ (.ch p q a b c) env) Q = Et (evalE Γ a env) (P2 fun ra_1 ra_2 => Et (evalE Γ b ra_2) (P2 fun rb_1 rb_2 => Et (prF p [ra_1, rb_1]) fun x => Et (bool? x) (chE Γ q rb_1 c rb_2 (P2 fun r_1 r_2 => Q (mbl r_1, r_2))))) := ev_ch
@[simp ↓] theorem ev_tup_t {es : Es} {Q : M × EnvM → Prop} : Et (evalE Γ (.tup es) env) Q = Et (evalVs Γ es env) (P2 fun r_1 r_2 => r_1.length ≤ sizeLine ∧ Q (.im (.tuple (fzs r_1)), r_2)) := ev_tup
@[simp ↓] theorem ev_lst_t {es : Es} {Q : M × EnvM → Prop} : Et (evalE Γ (.lst es) env) Q = Et (evalVs Γ es env) (P2 fun r_1 r_2 => r_1.length ≤ sizeLine ∧ Q (.ml r_1, r_2)) := ev_lst
@[simp ↓] theorem ev_lsf_t {es : Es} {Q : M × EnvM → Prop} : Et (evalE Γ (.lsf es) env) Q = Et (evalVs Γ es env) (P2 fun r_1 r_2 => r_1.length ≤ sizeLine ∧ Q (mList (fzs r_1), r_2)) := ev_lsf
@[simp ↓] theorem ev_call_t {g : Nat} {es : Es} {Q : M × EnvM → Prop} : Et (evalE Γ (.call g es) env) Q = Et (evalOs Γ es env) (P2 fun r_1 r_2 => Et (D8.take r_2 r_1) (P2 fun a_1 a_2 => Et (Γ g a_1) (P2 fun q_1 q_2 => q_2.length = a_1.length ∧ Q (q_1, D8.give a_2 r_1 a_1 q_2)))) := ev_call
@[simp ↓] theorem ev_callK_t {g : Nat} {ix : List Nat} {es : Es} {Q : M × EnvM → Prop} : Et (evalE Γ (.callK g ix es) env) Q = Et (evalVs Γ es env) (P2 fun r_1 r_2 => Et (ims r_1) fun ds => Et (perm ix ds) fun ds => Et (Γ g (ds.map .im)) (P2 fun q_1 q_2 => q_2.length = ds.length ∧ Q (q_1, r_2))) := ev_callK
@[simp ↓] theorem ev_mt_t {m : Mt} {i : Nat} {es : Es} {Q : M × EnvM → Prop} : Et (evalE Γ (.mt m i es) env) Q = Et (slot env i) fun x0 => recOk m x0 = true ∧ Et (evalVs Γ es env) (P2 fun r_1 r_2 => Et (slot r_2 i) fun x => Et (mtF m x r_1) (P2 fun q_1 q_2 => Q (q_2, r_2.set i (some q_1)))) := ev_mt
@[simp ↓] theorem ev_mp_t {m : Mt} {i : Nat} {path es : Es} {Q : M × EnvM → Prop} : Et (evalE Γ (.mp m i path es) env) Q = Et (evalQs Γ path (frzE env)) fun ps => Et (evalQs Γ es (frzE env)) fun as => Et (slot env i) fun x => Et (atP (fun x => mtF m x as) ps x) (P2 fun q_1 q_2 => Q (q_2, env.set i (some q_1))) := ev_mp
@[simp ↓] theorem ev_lc0_t {own : List Nat} {t : Tg} {w : Wk} {src : Es} {e : E} {Q : M × EnvM → Prop} : Et (evalE Γ (.lc own t w src none e) env) Q = Et (evalOs Γ src env) (P2 fun r_1 r_2 => Et (peek r_2 r_1) fun ms =>
      Et (lcLp (nextK w r_1 (ms.map kdM)) (setT t) (fun env => some (true, env)) (fun env => evalE Γ e env) (fun env => wipeE env own) 0 [] (wipeE r_2 own)) (P2 fun q_1 q_2 => Q (.ml q_1, backE r_2 q_2 own))) := ev_lc0
@[simp ↓] theorem ev_lc1_t {own : List Nat} {t : Tg} {w : Wk} {src : Es} {c e : E} {Q : M × EnvM → Prop} : Et (evalE Γ (.lc own t w src (some c) e) env) Q = Et (evalOs Γ src env) (P2 fun r_1 r_2 => Et (peek r_2 r_1) fun ms =>
      Et (lcLp (nextK w r_1 (ms.map kdM)) (setT t) (fun env => evalT Γ c env) (fun env => evalE Γ e env) (fun env => wipeE env own) 0 [] (wipeE r_2 own)) (P2 fun q_1 q_2 => Q (.ml q_1, backE r_2 q_2 own))) := ev_lc1
@[simp ↓] theorem ev_Tnot_t {a : E} {Q : Bool × EnvM → Prop} : Et (evalT Γ (.not a) env) Q = Et (evalT Γ a env) (P2 fun r_1 r_2 => Q (!r_1, r_2)) := ev_Tnot
@[simp ↓] theorem ev_Tpr_t {p : Pr} {es : Es} {Q : Bool × EnvM → Prop} : Et (evalT Γ (.pr p es) env) Q = Et (evalOs Γ es env) (P2 fun r_1 r_2 => Et (peek r_2 r_1) fun ms => Et (prF p ms) fun m => Et (bool? m) fun b => Q (b, r_2)) := ev_Tpr
@[simp ↓] theorem ev_Tqt_t {e : E} {Q : Bool × EnvM → Prop} : Et (evalT Γ (.qt e) env) Q = Et (evalE Γ e (frzE env)) (P2 fun r_1 r_2 => Et (bool? r_1) fun b => Q (b, env)) := ev_Tqt
@[simp ↓] theorem ev_Tch_t {p q : Pr} {a b c : E} {Q : Bool × EnvM → Prop} : Et (evalT Γ (.ch p q a b c) env) Q = Et (evalE Γ a env) (P2 fun ra_1 ra_2 => Et (evalE Γ b ra_2) (P2 fun rb_1 rb_2 => Et (prF p [ra_1, rb_1]) fun x => Et (bool? x) (chE Γ q rb_1 c rb_2 Q))) := ev_Tch
@[simp ↓] theorem ev_Tcall_t {g : Nat} {es : Es} {Q : Bool × EnvM → Prop} : Et (evalT Γ (.call g es) env) Q = Et (evalOs Γ es env) (P2 fun r_1 r_2 => Et (D8.take r_2 r_1) (P2 fun a_1 a_2 => Et (Γ g a_1) (P2 fun q_1 q_2 => q_2.length = a_1.length ∧ Et (bool? q_1) fun b => Q (b, D8.give a_2 r_1 a_1 q_2)))) := ev_Tcall
@[simp ↓] theorem ev_TcallK_t {g : Nat} {ix : List Nat} {es : Es} {Q : Bool × EnvM → Prop} : Et (evalT Γ (.callK g ix es) env) Q = Et (evalVs Γ es env) (P2 fun r_1 r_2 => Et (ims r_1) fun ds => Et (perm ix ds) fun ds => Et (Γ g (ds.map .im)) (P2 fun q_1 q_2 => q_2.length = ds.length ∧ Et (bool? q_1) fun b => Q (b, r_2))) := ev_TcallK
@[simp ↓] theorem chE_t_t {q : Pr} {b : M} {c : E} {Q : Bool × EnvM → Prop} : chE Γ q b c env Q true = Et (evalE Γ c env) (P2 fun rc_1 rc_2 => Et (prF q [b, rc_1]) fun y => Et (bool? y) fun u => Q (u, rc_2)) := chE_t
@[simp] theorem chE_d_t {q : Pr} {b : M} {e : E} {Q : Bool × EnvM → Prop} {c : Prop} [Decidable c] : chE Γ q b e env Q (decide c) = ((c → Et (evalE Γ e env) (P2 fun rc_1 rc_2 => Et (prF q [b, rc_1]) fun y => Et (bool? y) fun u => Q (u, rc_2))) ∧ (¬ c → Q (false, env))) := chE_d
@[simp ↓] theorem take_tm_t {m : M} {os : List Op} {Q : List M × EnvM → Prop} : Et (D8.take env (.tm m :: os)) Q = Et (D8.take env os) (P2 fun r_1 r_2 => Q (m :: r_1, r_2)) := take_tm
@[simp ↓] theorem tk1_im_t {i : Nat} {os : List Op} {Q : List M × EnvM → Prop} {d : PyData} : tk1 i os env Q (.im d) = Et (D8.take env os) (P2 fun r_1 r_2 => Q (.im d :: r_1, r_2)) := tk1_im
@[simp ↓] theorem tk1_ml_t {i : Nat} {os : List Op} {Q : List M × EnvM → Prop} {d : List M} : tk1 i os env Q (.ml d) = Et (D8.take (env.set i none) os) (P2 fun r_1 r_2 => Q (.ml d :: r_1, r_2)) := tk1_ml
@[simp ↓] theorem tk1_md_t {i : Nat} {os : List Op} {Q : List M × EnvM → Prop} {d : List (Key × M)} : tk1 i os env Q (.md d) = Et (D8.take (env.set i none) os) (P2 fun r_1 r_2 => Q (.md d :: r_1, r_2)) := tk1_md
@[simp ↓] theorem ev_forK_t {env : EnvM} {nxt : Nat → EnvM → Option (Option PyData)} {st : PyData → EnvM → Option EnvM} {body : EnvM → Option (Fl × EnvM)} {k : Nat} {Q : Fl × EnvM → Prop} : Et (forLp nxt st body k env) Q = ForK env k (nxt, st, body, Q) .mk := ev_forK
@[simp ↓] theorem ev_whK_t {env : EnvM} {c : EnvM → Option (Bool × EnvM)} {body : EnvM → Option (Fl × EnvM)} {Q : Fl × EnvM → Prop} : Et (whLp c body env) Q = WhK env (c, body, Q) .mk := ev_whK
@[simp ↓] theorem ev_lcK_t {env : EnvM} {nxt : Nat → EnvM → Option (Option PyData)} {st : PyData → EnvM → Option EnvM} {c : EnvM → Option (Bool × EnvM)} {e : EnvM → Option (M × EnvM)} {w : EnvM → EnvM} {k : Nat} {acc : List M} {Q : List M × EnvM → Prop} : Et (lcLp nxt st c e w k acc env) Q = LcK env k acc (nxt, st, c, e, w, Q) .mk := ev_lcK
@[simp ↓] theorem ev_callG_t {T : List TD} {n g : Nat} {ms : List M} {Q : M × List (Option M) → Prop} : Et (gamT T n g ms) Q = CallK T n g ms Q .mk := ev_callG
end
end D8

namespace D8
open PySem PySem.Spec PyProof.Rows L2
/-! ints in lists -/
def iM (cs : List Int) : List M := cs.map mint
def iD (cs : List Int) : List PyData := cs.map .int
theorem iM_iD (cs : List Int) : iM cs = (iD cs).map .im := by simp [iM, iD]
section
variable {cs : List Int}
@[simp] theorem iD_im : (iD cs).map M.im = iM cs := (iM_iD cs).symm
@[simp] theorem fzs_iM : fzs (iM cs) = iD cs := by rw [iM_iD, fzs_im]
@[simp] theorem ims_iM : ims (iM cs) = some (iD cs) := by rw [iM_iD, ims_map]
@[simp] theorem len_iM : (iM cs).length = cs.length := by simp [iM]
@[simp] theorem len_iD : (iD cs).length = cs.length := by simp [iD]
@[simp] theorem iM_snoc {x : Int} : iM cs ++ [.im (.int x)] = iM (cs ++ [x]) := by simp [iM]
@[simp] theorem iM_dropLast : (iM cs).dropLast = iM cs.dropLast := by simp [iM, List.map_dropLast]
@[simp] theorem iM_last : (iM cs).getLast? = cs.getLast?.map mint := by simp [iM]
theorem iM_nil : iM [] = [] := rfl
theorem canLay_iD : PyData.canLayAll0 (iD cs) = true := by
  induction cs with
  | nil => rfl
  | cons c cs ih => simpa [iD, PyData.canLayAll0, PyData.canLay0] using ih
theorem depth_iD : PyData.depthAll (iD cs) = 0 := by
  induction cs with
  | nil => rfl
  | cons c cs ih => simpa [iD, PyData.depthAll, PyData.depth] using ih
theorem shaped_iD : SeqAt.shaped (.list (iD cs)) = true := by simp [SeqAt.shaped, PyData.canLay0, PyData.depth, canLay_iD, depth_iD]
@[simp] theorem eqF_lnil : eqF (.im (.list (iD cs))) (.ml []) = some (decide (cs = [])) := by
  have h : SeqAt.shaped (.list []) = true := by decide
  simp only [eqF, M.fz, fzs, shaped_iD, h, and_self, if_true]
  cases cs <;> simp [iD, PyData.eqv, PyData.eqvAll]
end
section
variable {i j : Int} {ds : List PyData} {ms : List M}
@[simp] theorem idxF_l : idxF (.im (.list ds)) (.im (.int i)) = (atI ds i).map .im := rfl
@[simp] theorem idxF_t : idxF (.im (.tuple ds)) (.im (.int i)) = (atI ds i).map .im := rfl
/-- only data -/
def imO : M → Option M
  | .im d => some (.im d)
  | _ => none
@[simp] theorem idxF_ml : idxF (.ml ms) (.im (.int i)) = (atI ms i).bind imO := by
  show (atI ms i).bind _ = _
  congr 1
@[simp] theorem imO_im {d : PyData} : imO (.im d) = some (.im d) := rfl
theorem atI_pos {α : Type} {xs : List α} {i : Int} (h : 0 ≤ i) : atI xs i = xs[i.toNat]? := by
  unfold atI ixN
  rw [if_pos h]
  split
  · rfl
  · rw [List.getElem?_eq_none (by omega)]; rfl
@[simp] theorem atI_0 {α : Type} {xs : List α} : atI xs 0 = xs[0]? := atI_pos (by omega)
@[simp] theorem atI_2 {α : Type} {xs : List α} : atI xs 2 = xs[2]? := atI_pos (by omega)
@[simp] theorem atI_3 {α : Type} {xs : List α} : atI xs 3 = xs[3]? := atI_pos (by omega)
@[simp] theorem atI_4 {α : Type} {xs : List α} : atI xs 4 = xs[4]? := atI_pos (by omega)
@[simp] theorem atI_5 {α : Type} {xs : List α} : atI xs 5 = xs[5]? := atI_pos (by omega)
@[simp] theorem atI_6 {α : Type} {xs : List α} : atI xs 6 = xs[6]? := atI_pos (by omega)
@[simp] theorem atI_7 {α : Type} {xs : List α} : atI xs 7 = xs[7]? := atI_pos (by omega)
@[simp] theorem atI_8 {α : Type} {xs : List α} : atI xs 8 = xs[8]? := atI_pos (by omega)
@[simp] theorem atI_9 {α : Type} {xs : List α} : atI xs 9 = xs[9]? := atI_pos (by omega)
@[simp] theorem atI_10 {α : Type} {xs : List α} : atI xs 10 = xs[10]? := atI_pos (by omega)
@[simp] theorem atI_11 {α : Type} {xs : List α} : atI xs 11 = xs[11]? := atI_pos (by omega)
@[simp] theorem atI_12 {α : Type} {xs : List α} : atI xs 12 = xs[12]? := atI_pos (by omega)
@[simp] theorem atI_13 {α : Type} {xs : List α} : atI xs 13 = xs[13]? := atI_pos (by omega)
@[simp] theorem atI_14 {α : Type} {xs : List α} : atI xs 14 = xs[14]? := atI_pos (by omega)
@[simp] theorem atI_15 {α : Type} {xs : List α} : atI xs 15 = xs[15]? := atI_pos (by omega)
@[simp] theorem atI_16 {α : Type} {xs : List α} : atI xs 16 = xs[16]? := atI_pos (by omega)
@[simp] theorem atI_17 {α : Type} {xs : List α} : atI xs 17 = xs[17]? := atI_pos (by omega)
@[simp] theorem atI_18 {α : Type} {xs : List α} : atI xs 18 = xs[18]? := atI_pos (by omega)
@[simp] theorem atI_19 {α : Type} {xs : List α} : atI xs 19 = xs[19]? := atI_pos (by omega)
@[simp] theorem atI_20 {α : Type} {xs : List α} : atI xs 20 = xs[20]? := atI_pos (by omega)
@[simp] theorem atI_21 {α : Type} {xs : List α} : atI xs 21 = xs[21]? := atI_pos (by omega)
@[simp] theorem atI_22 {α : Type} {xs : List α} : atI xs 22 = xs[22]? := atI_pos (by omega)
@[simp] theorem atI_23 {α : Type} {xs : List α} : atI xs 23 = xs[23]? := atI_pos (by omega)
@[simp] theorem ixN_2 {n : Nat} : ixN n 2 = if 2 < n then some 2 else none := by
  unfold ixN
  rw [if_pos (by omega)]
  split
  · rw [if_pos (by omega)]; rfl
  · rw [if_neg (by omega)]
@[simp] theorem ixN_3 {n : Nat} : ixN n 3 = if 3 < n then some 3 else none := by
  unfold ixN
  rw [if_pos (by omega)]
  split
  · rw [if_pos (by omega)]; rfl
  · rw [if_neg (by omega)]
@[simp] theorem ixN_4 {n : Nat} : ixN n 4 = if 4 < n then some 4 else none := by
  unfold ixN
  rw [if_pos (by omega)]
  split
  · rw [if_pos (by omega)]; rfl
  · rw [if_neg (by omega)]
@[simp] theorem ixN_5 {n : Nat} : ixN n 5 = if 5 < n then some 5 else none := by
  unfold ixN
  rw [if_pos (by omega)]
  split
  · rw [if_pos (by omega)]; rfl
  · rw [if_neg (by omega)]
@[simp] theorem ixN_6 {n : Nat} : ixN n 6 = if 6 < n then some 6 else none := by
  unfold ixN
  rw [if_pos (by omega)]
  split
  · rw [if_pos (by omega)]; rfl
  · rw [if_neg (by omega)]
@[simp] theorem ixN_7 {n : Nat} : ixN n 7 = if 7 < n then some 7 else none := by
  unfold ixN
  rw [if_pos (by omega)]
  split
  · rw [if_pos (by omega)]; rfl
  · rw [if_neg (by omega)]
@[simp] theorem atI_1 {α : Type} {xs : List α} : atI xs 1 = xs[1]? := atI_pos (by omega)
@[simp] theorem atI_neg1 {α : Type} {xs : List α} : atI xs (-1) = xs.getLast? := by
  unfold atI ixN
  rw [if_neg (by omega)]
  cases xs with
  | nil => rfl
  | cons x xs =>
    rw [if_pos (by simp; omega), List.getLast?_eq_getElem?]
    simp only [Option.bind_some, List.length_cons]
    congr 1
    omega
@[simp] theorem ixN_0 {n : Nat} : ixN n 0 = if 0 < n then some 0 else none := by unfold ixN; simp
@[simp] theorem ixN_1 {n : Nat} : ixN n 1 = if 1 < n then some 1 else none := by
  unfold ixN
  rw [if_pos (by omega)]
  split
  · rw [if_pos (by omega)]; rfl
  · rw [if_neg (by omega)]
@[simp] theorem mtF_pop0 {xs : List M} : mtF .pop0 (.ml xs) [] = xs.getLast?.map fun y => (.ml xs.dropLast, y) := rfl
@[simp] theorem mtF_app {xs : List M} {y : M} : mtF .append (.ml xs) [y] = if xs.length < sizeLine then some (.ml (xs ++ [y]), .im .none) else none := rfl
@[simp] theorem mtF_set {xs : List M} {y : M} : mtF .setIx (.ml xs) [.im (.int i), y] = (ixN xs.length i).map fun k => (.ml (xs.set k y), .im .none) := rfl
@[simp] theorem mtF_setD {kvs : List (Key × M)} {k : PyData} {y : M} : mtF .setIx (.md kvs) [.im k, y] = (keyOf k).bind fun k => if kvs.length < sizeLine ∧ (mdHas kvs k = false ∨ isIm y = true) then some (.md (mdPut kvs k y), .im .none) else none := rfl
@[simp] theorem mtF_ext {xs ys : List M} : mtF .extend (.ml xs) [.ml ys] = if xs.length + ys.length ≤ sizeLine then some (.ml (xs ++ ys), .im .none) else none := rfl
@[simp] theorem mtF_extT {xs : List M} {ds : List PyData} : mtF .extend (.ml xs) [.im (.tuple ds)] = if xs.length + ds.length ≤ sizeLine then some (.ml (xs ++ ds.map .im), .im .none) else none := rfl
@[simp] theorem mtF_upd {kvs : List (Key × M)} {ys : List M} : mtF .update (.md kvs) [.ml ys] = (prsOf ys).bind fun ps => if kvs.length + ps.length ≤ sizeLine then some (.md (mdPuts kvs ps), .im .none) else none := rfl
variable {f : M → Option (M × M)} {x : M}
@[simp] theorem atP_nil : atP f [] x = f x := rfl
theorem atP_1 {xs : List M} : atP f [.im (.int i)] (.ml xs) = (ixN xs.length i).bind fun k => xs[k]?.bind fun y => (f y).map fun r => (.ml (xs.set k r.1), r.2) := rfl
end
theorem ev_atP_1 {f : M → Option (M × M)} {i : Int} {xs : List M} {Q : M × M → Prop} : Ev (atP f [.im (.int i)] (.ml xs)) Q = Ev (ixN xs.length i) fun k => Ev xs[k]? fun y => Ev (f y) (P2 fun a b => Q (.ml (xs.set k a), b)) := by
  rw [atP_1]
  simp only [Ev.eq_bind, Ev.eq_map]
  rfl
@[simp] theorem frzE_s {env : EnvM} : frzE env = env.map fun c => c.map fun m => .im m.fz := rfl
@[simp] theorem fz_0 {d : PyData} : (M.im d).fz = d := by simp only [M.fz]
@[simp] theorem fz_1 {xs : List M} : (M.ml xs).fz = .list (fzs xs) := by simp only [M.fz]
@[simp] theorem fz_2 {xs : List (Key × M)} : (M.md xs).fz = .dict (fzk xs) := by simp only [M.fz]
@[simp] theorem fzs_0 : fzs [] = [] := by simp only [fzs]
@[simp] theorem fzs_1 {x : M} {xs : List M} : fzs (x :: xs) = x.fz :: fzs xs := by simp only [fzs]
@[simp] theorem fzk_0 : fzk [] = [] := by simp only [fzk]
@[simp] theorem fzk_1 {k : Key} {x : M} {xs : List (Key × M)} : fzk ((k, x) :: xs) = (kD k, x.fz) :: fzk xs := by simp only [fzk]
@[simp] theorem isMl_0 {d : PyData} : isMl (.im d) = false := rfl
@[simp] theorem isMl_1 {d : List M} : isMl (.ml d) = true := rfl
@[simp] theorem isMl_2 {d : List (Key × M)} : isMl (.md d) = false := rfl
@[simp] theorem isMd_0 {d : PyData} : isMd (.im d) = false := rfl
@[simp] theorem isMd_1 {d : List M} : isMd (.ml d) = false := rfl
@[simp] theorem isMd_2 {d : List (Key × M)} : isMd (.md d) = true := rfl
@[simp] theorem recOk_0 {x : M} : recOk .append x = isMl x := rfl
@[simp] theorem recOk_1 {x : M} : recOk .extend x = isMl x := rfl
@[simp] theorem recOk_2 {x : M} : recOk .pop0 x = isMl x := rfl
@[simp] theorem recOk_3 {x : M} : recOk .pop1 x = isMl x := rfl
@[simp] theorem recOk_4 {x : M} : recOk .insert x = isMl x := rfl
@[simp] theorem recOk_5 {x : M} : recOk .update x = isMd x := rfl
@[simp] theorem isIm_0 {d : PyData} : isIm (.im d) = true := rfl
@[simp] theorem isIm_1 {d : List M} : isIm (.ml d) = false := rfl
@[simp] theorem isIm_2 {d : List (Key × M)} : isIm (.md d) = false := rfl
@[simp] theorem clean_i {i : Int} : clean (.int i) = true := rfl
@[simp] theorem clean_s {i : Str} : clean (.str i) = true := rfl
@[simp] theorem clean_b {i : Bool} : clean (.bool i) = true := rfl
@[simp] theorem clean_n : clean .none = true := rfl
@[simp] theorem clean_t {xs : List PyData} : clean (.tuple xs) = cleans xs := by simp only [clean]
@[simp] theorem cleans_nil : cleans [] = true := by simp only [cleans]
@[simp] theorem cleans_cons {x : PyData} {xs : List PyData} : cleans (x :: xs) = (clean x && cleans xs) := by simp only [cleans]
theorem mulOk_l {i j : Int} (h : i.natAbs < 18446744073709551616) : mulOk i j = true := by simp [mulOk, h]
theorem mulOk_r {i j : Int} (h : j.natAbs < 18446744073709551616) : mulOk i j = true := by simp [mulOk, h]
@[simp] theorem divOk_of {j : Int} (h : 0 < j) (h2 : j < 18446744073709551616) : divOk j = true := by
  simp only [divOk, h, decide_true, Bool.true_and, decide_eq_true_eq]
  have : j.natAbs < 2 ^ 64 := by omega
  have hz : j.natAbs ≠ 0 := by omega
  have := (Nat.log2_lt hz).mpr this
  omega
@[simp] theorem powOk_s {i j : Int} : powOk i j = (decide (0 ≤ j) && decide (j ≤ 1000000) && decide (i.natAbs < 18446744073709551616)) := rfl
@[simp] theorem mulOk_r' {i j : Int} (h : j.natAbs < 18446744073709551616) : mulOk i j = true := mulOk_r h
@[simp] theorem mulOk_l' {i j : Int} (h : i.natAbs < 18446744073709551616) : mulOk i j = true := mulOk_l h
@[simp] theorem szl : sizeLine = 16777216 := rfl
section
variable {nxt : Nat → EnvM → Option (Option PyData)} {st : PyData → EnvM → Option EnvM} {body : EnvM → Option (Fl × EnvM)} {env : EnvM} {k : Nat} {Q : Fl × EnvM → Prop}
@[simp ↓] theorem ev_atP_1_t {f : M → Option (M × M)} {i : Int} {xs : List M} {Q : M × M → Prop} : Et (atP f [.im (.int i)] (.ml xs)) Q = Et (ixN xs.length i) fun k => Et xs[k]? fun y => Et (f y) (P2 fun a b => Q (.ml (xs.set k a), b)) := ev_atP_1
end
end D8

namespace D8
open PySem PySem.Spec PyProof.Rows L2
/-! texts: signs and lengths -/
def okT (t : Str) : Prop := ∀ c ∈ t.cps.toList, c < 0x110000
theorem okT_app {x y : Str} (h : okT x) (h2 : okT y) : okT (x ++ y) := fun c hc => by
  have hc : c ∈ (x.cps ++ y.cps).toList := hc
  rw [Array.toList_append, List.mem_append] at hc
  exact hc.elim (h c) (h2 c)
theorem okT_lit (s : String) : okT (Str.ofString s) := fun c hc => by
  rw [Str.ofString_eq_toList] at hc
  obtain ⟨d, _, rfl⟩ := List.mem_map.mp hc
  have := d.valid
  simp only [Char.toNat]
  rcases this with h | ⟨_, h⟩
  · have : d.val.toNat < 0xd800 := h
    omega
  · have : d.val.toNat < 0x110000 := h
    omega
theorem okT_empty : okT Str.empty := fun c hc => by cases hc
theorem okT_join {sep : Str} (h : okT sep) : ∀ {ts : List Str}, (∀ t ∈ ts, okT t) → okT (Str.join sep ts)
  | [], _ => okT_empty
  | [x], h2 => h2 x List.mem_cons_self
  | x :: y :: r, h2 => okT_app (okT_app (h2 x List.mem_cons_self) h) (okT_join h fun t ht => h2 t (List.mem_cons_of_mem _ ht))
theorem okT_from : ∀ {ts : List Str} {k : Nat} {acc : Str}, okT acc → (∀ t ∈ ts, okT t) → okT (textFrom k acc ts)
  | [], _, _, h, _ => h
  | t :: ts, k, acc, h, h2 => okT_from (ts := ts) (okT_app (okT_app h (okT_lit _)) (h2 t List.mem_cons_self)) fun t ht => h2 t (List.mem_cons_of_mem _ ht)
theorem okT_list {ts : List Str} (h : ∀ t ∈ ts, okT t) : okT (listText ts) := okT_app (okT_from (okT_lit _) h) (okT_lit _)
theorem okT_tup {ts : List Str} (h : ∀ t ∈ ts, okT t) : okT (tupleText ts) := okT_app (okT_app (okT_lit _) (okT_join (okT_lit _) h)) (okT_lit _)
theorem digit_lt (d : Char) : d.toNat < 0x110000 := by
  have := d.valid
  simp only [Char.toNat]
  rcases this with h | ⟨_, h⟩
  · have : d.val.toNat < 0xd800 := h
    omega
  · have : d.val.toNat < 0x110000 := h
    omega
theorem repr_lt {q c : Nat} (hc : c < 0x110000) : ∀ x ∈ Builtin.Str.reprChar q c, x < 0x110000 := by
  have hx : ∀ (w n : Nat), ∀ x ∈ (List.replicate w 48 ++ (Nat.toDigits 16 n).map Char.toNat), x < 0x110000 := fun w n x hx => by
    rcases List.mem_append.mp hx with h | h
    · rw [(List.mem_replicate.mp h).2]; decide
    · obtain ⟨d, _, rfl⟩ := List.mem_map.mp h
      exact digit_lt d
  intro x h
  unfold Builtin.Str.reprChar at h
  dsimp only at h
  repeat' split at h
  all_goals simp only [List.mem_append, List.mem_cons, List.not_mem_nil, or_false] at h
  all_goals first
    | (rcases h with rfl | rfl <;> first | exact hc | decide)
    | (rcases h with (rfl | rfl) | h <;> first | decide | exact hx _ _ x (List.mem_append.mpr h))
    | (subst h; exact hc)
theorem quote_lt (x : Str) : reprQuote x < 0x110000 := by
  unfold reprQuote
  split <;> decide
theorem okT_fold {q : Nat} : ∀ (l : List Nat) (acc : Array Nat), (∀ c ∈ l, c < 0x110000) → (∀ c ∈ acc.toList, c < 0x110000) → ∀ c ∈ (l.foldl (fun out c => out ++ (Builtin.Str.reprChar q c).toArray) acc).toList, c < 0x110000
  | [], acc, _, h => h
  | d :: r, acc, h1, h => by
    refine okT_fold r _ (fun c hc => h1 c (List.mem_cons_of_mem _ hc)) fun c hc => ?_
    rw [Array.toList_append, List.mem_append] at hc
    exact hc.elim (h c) fun z => repr_lt (h1 d List.mem_cons_self) c z
theorem okT_repr {x : Str} (h : okT x) : okT (reprText x) := by
  intro c hc
  unfold reprText at hc
  rw [Array.toList_push, List.mem_append, ← Array.foldl_toList] at hc
  rcases hc with hc | hc
  · refine okT_fold _ _ h (fun c hc => ?_) c hc
    simp only [List.mem_singleton] at hc
    subst hc
    exact quote_lt x
  · simp only [List.mem_singleton] at hc
    subst hc
    exact quote_lt x
mutual
theorem okT_shown : ∀ {d : PyData}, d.canLay0 = true → okT d.shown
  | .none, _ => by simp only [PyData.shown]; exact okT_lit _
  | .bool b, _ => by simp only [PyData.shown]; cases b <;> exact okT_lit _
  | .int i, _ => by simp only [PyData.shown]; exact okT_lit _
  | .str x, h => by
    simp only [PyData.shown]
    have h : PyData.strOk x = true := by simpa [PyData.canLay0] using h
    refine okT_repr fun c hc => ?_
    unfold PyData.strOk at h
    rw [Array.all_eq_true] at h
    obtain ⟨i, hi, rfl⟩ := List.mem_iff_getElem.mp hc
    have := h i (by simpa using hi)
    simp only [decide_eq_true_eq] at this
    simp only [Array.getElem_toList]
    omega
  | .list xs, h => by
    simp only [PyData.shown]
    exact okT_list (okT_all (by simpa [PyData.canLay0] using h))
  | .tuple xs, h => by
    simp only [PyData.shown]
    exact okT_tup (okT_all (by simpa [PyData.canLay0] using h))
  | .dict _, h => by simp [PyData.canLay0] at h
theorem okT_all : ∀ {ds : List PyData}, PyData.canLayAll0 ds = true → ∀ t ∈ PyData.shownAll ds, okT t
  | [], _, t, ht => by simp [PyData.shownAll] at ht
  | d :: ds, h, t, ht => by
    simp only [PyData.canLayAll0, Bool.and_eq_true] at h
    simp only [PyData.shownAll, List.mem_cons] at ht
    rcases ht with rfl | ht
    · exact okT_shown h.1
    · exact okT_all h.2 t ht
end
theorem from_len : ∀ (ts : List Str) (k : Nat) (acc : Str), (textFrom k acc ts).length ≤ acc.length + piled ts
  | [], _, acc => by show acc.length ≤ _; omega
  | t :: ts, k, acc => by
    have := from_len ts (k + 1) (acc ++ (if k > 0 then ", " else "" : String) ++ t)
    rw [piled_cons]
    rw [strLen_append, strLen_append] at this
    have e : ((if k > 0 then ", " else "" : String) : Str).length ≤ 2 := by split <;> decide
    show (textFrom (k + 1) _ ts).length ≤ _
    omega
theorem list_len (ts : List Str) : (listText ts).length ≤ piled ts + 2 := by
  have := from_len ts 0 "["
  unfold listText
  rw [strLen_append]
  have e1 : (("[" : String) : Str).length = 1 := by decide
  have e2 : (("]" : String) : Str).length = 1 := by decide
  omega
theorem join_len (ts : List Str) : (Str.join ", " ts).length ≤ piled ts := by
  by_cases h : ts = []
  · subst h; decide
  · have := join_length_add ts h
    omega
theorem tup_len (ts : List Str) : (tupleText ts).length ≤ piled ts + 3 := by
  unfold tupleText
  have := join_len ts
  have e1 : (("(" : String) : Str).length = 1 := by decide
  have e2 : ((if ts.length == 1 then ",)" else ")" : String) : Str).length ≤ 2 := by split <;> decide
  rw [strLen_append, strLen_append]
  omega
/-- how long the items' texts are together -/
def tl (ds : List PyData) : Nat := piled (PyData.shownAll ds)
theorem tl_nil : tl [] = 0 := rfl
theorem tl_cons {d : PyData} {ds : List PyData} : tl (d :: ds) = d.shown.length + 2 + tl ds := by simp only [tl, PyData.shownAll, piled_cons]
theorem tl_app {xs ys : List PyData} : tl (xs ++ ys) = tl xs + tl ys := by
  induction xs with
  | nil => simp [tl_nil]
  | cons x xs ih => rw [List.cons_append, tl_cons, tl_cons, ih]; omega
theorem tl_take {xs : List PyData} (k : Nat) : tl (xs.take k) ≤ tl xs := by
  have := tl_app (xs := xs.take k) (ys := xs.drop k)
  rw [List.take_append_drop] at this
  omega
theorem tl_drop {xs : List PyData} (k : Nat) : tl (xs.drop k) ≤ tl xs := by
  have := tl_app (xs := xs.take k) (ys := xs.drop k)
  rw [List.take_append_drop] at this
  omega
theorem tl_rev {xs : List PyData} : tl xs.reverse = tl xs := by
  induction xs with
  | nil => rfl
  | cons x xs ih => rw [List.reverse_cons, tl_app, ih, tl_cons, tl_cons, tl_nil]; omega
theorem tl_mem {xs : List PyData} {x : PyData} (h : x ∈ xs) : x.shown.length + 2 ≤ tl xs := by
  induction xs with
  | nil => cases h
  | cons y xs ih =>
    rw [tl_cons]
    rcases List.mem_cons.mp h with rfl | h
    · omega
    · have := ih h
      omega
theorem tl_len {xs : List PyData} : 2 * xs.length ≤ tl xs := by
  induction xs with
  | nil => exact Nat.zero_le _
  | cons x xs ih => rw [tl_cons, List.length_cons]; omega
theorem shown_tup {xs : List PyData} : (PyData.tuple xs).shown.length ≤ tl xs + 3 := by simp only [PyData.shown]; exact tup_len _
theorem shown_lst {xs : List PyData} : (PyData.list xs).shown.length ≤ tl xs + 2 := by simp only [PyData.shown]; exact list_len _
theorem shown_str {x : Str} (h : okT x) : (PyData.str x).shown.length ≤ 10 * x.length + 2 := by simp only [PyData.shown]; exact StrLaws.reprText_len x fun c hc => Nat.lt_trans (h c hc) (by decide)
/-- data that may be shown, compared: so long, so deep -/
structure Nice (L D : Nat) (d : PyData) : Prop where
  lay : d.canLay0 = true
  dp : d.depth ≤ D
  ln : d.shown.length ≤ L
  sh : d.showable = true
structure NiceL (L D : Nat) (ds : List PyData) : Prop where
  lay : PyData.canLayAll0 ds = true
  dp : PyData.depthAll ds ≤ D
  ln : tl ds ≤ L
  sh : PyData.showableAll ds = true
theorem Nice.mono {L D L' D' : Nat} {d : PyData} (h : Nice L D d) (h1 : L ≤ L') (h2 : D ≤ D') : Nice L' D' d := ⟨h.lay, Nat.le_trans h.dp h2, Nat.le_trans h.ln h1, h.sh⟩
theorem NiceL.mono {L D L' D' : Nat} {d : List PyData} (h : NiceL L D d) (h1 : L ≤ L') (h2 : D ≤ D') : NiceL L' D' d := ⟨h.lay, Nat.le_trans h.dp h2, Nat.le_trans h.ln h1, h.sh⟩
theorem NiceL.nil {L D : Nat} : NiceL L D [] := ⟨rfl, Nat.zero_le _, Nat.zero_le _, rfl⟩
theorem NiceL.cons {L1 L2 D : Nat} {d : PyData} {ds : List PyData} (h : Nice L1 D d) (r : NiceL L2 D ds) : NiceL (L1 + 2 + L2) D (d :: ds) :=
  ⟨by simp only [PyData.canLayAll0, h.lay, r.lay, Bool.and_self], by simp only [PyData.depthAll]; exact Nat.max_le.mpr ⟨h.dp, r.dp⟩, by rw [tl_cons]; have := h.ln; have := r.ln; omega, by simp only [PyData.showableAll, h.sh, r.sh, Bool.and_self]⟩
theorem NiceL.one {L D : Nat} {d : PyData} (h : Nice L D d) : NiceL (L + 2) D [d] := .cons (L2 := 0) h .nil
theorem NiceL.app {L1 L2 D : Nat} {xs ys : List PyData} (h : NiceL L1 D xs) (r : NiceL L2 D ys) : NiceL (L1 + L2) D (xs ++ ys) := by
  induction xs generalizing L1 with
  | nil => exact r.mono (by omega) (Nat.le_refl _)
  | cons x xs ih =>
    have hl := h.lay
    have hd := h.dp
    have hn := h.ln
    have hs := h.sh
    simp only [PyData.canLayAll0, Bool.and_eq_true] at hl
    simp only [PyData.depthAll, Nat.max_le] at hd
    simp only [PyData.showableAll, Bool.and_eq_true] at hs
    rw [tl_cons] at hn
    have := NiceL.cons (L1 := x.shown.length) (D := D) (d := x) ⟨hl.1, hd.1, Nat.le_refl _, hs.1⟩ (ih (L1 := tl xs) ⟨hl.2, hd.2, Nat.le_refl _, hs.2⟩)
    exact this.mono (by omega) (Nat.le_refl _)
theorem NiceL.get {L D : Nat} {xs : List PyData} (h : NiceL L D xs) {x : PyData} (hx : x ∈ xs) : Nice L D x := by
  induction xs with
  | nil => cases hx
  | cons y xs ih =>
    have hl := h.lay
    have hd := h.dp
    have hn := h.ln
    have hs := h.sh
    simp only [PyData.canLayAll0, Bool.and_eq_true] at hl
    simp only [PyData.depthAll, Nat.max_le] at hd
    simp only [PyData.showableAll, Bool.and_eq_true] at hs
    rw [tl_cons] at hn
    rcases List.mem_cons.mp hx with rfl | hx
    · exact ⟨hl.1, hd.1, by omega, hs.1⟩
    · exact ih ⟨hl.2, hd.2, by omega, hs.2⟩ hx
theorem NiceL.of_mem {D : Nat} {xs : List PyData} (h : ∀ x ∈ xs, ∃ L, Nice L D x) : NiceL (tl xs) D xs := by
  induction xs with
  | nil => exact .nil
  | cons y xs ih =>
    obtain ⟨L, hy⟩ := h y List.mem_cons_self
    have := NiceL.cons (L1 := y.shown.length) ⟨hy.lay, hy.dp, Nat.le_refl _, hy.sh⟩ (ih fun x hx => h x (List.mem_cons_of_mem _ hx))
    rwa [← tl_cons] at this
theorem NiceL.sub {L D : Nat} {xs ys : List PyData} (h : NiceL L D xs) (hs : ∀ y ∈ ys, y ∈ xs) (hl : tl ys ≤ tl xs) : NiceL L D ys :=
  (NiceL.of_mem fun y hy => ⟨L, h.get (hs y hy)⟩).mono (Nat.le_trans hl h.ln) (Nat.le_refl _)
theorem NiceL.take {L D : Nat} {xs : List PyData} (h : NiceL L D xs) (k : Nat) : NiceL L D (xs.take k) := h.sub (fun _ hy => List.mem_of_mem_take hy) (tl_take k)
theorem NiceL.drop {L D : Nat} {xs : List PyData} (h : NiceL L D xs) (k : Nat) : NiceL L D (xs.drop k) := h.sub (fun _ hy => List.mem_of_mem_drop hy) (tl_drop k)
theorem NiceL.rev {L D : Nat} {xs : List PyData} (h : NiceL L D xs) : NiceL L D xs.reverse := h.sub (fun _ hy => by simpa using hy) (by rw [tl_rev]; exact Nat.le_refl _)
theorem NiceL.tup {L D : Nat} {xs : List PyData} (h : NiceL L D xs) : Nice (L + 3) (D + 1) (.tuple xs) := by
  refine ⟨by simp only [PyData.canLay0]; exact h.lay, by simp only [PyData.depth]; have := h.dp; omega, ?_, by simp only [PyData.showable]; exact h.sh⟩
  have := shown_tup (xs := xs)
  have := h.ln
  omega
theorem NiceL.lst {L D : Nat} {xs : List PyData} (h : NiceL L D xs) : Nice (L + 3) (D + 1) (.list xs) := by
  refine ⟨by simp only [PyData.canLay0]; exact h.lay, by simp only [PyData.depth]; have := h.dp; omega, ?_, by simp only [PyData.showable]; exact h.sh⟩
  have := shown_lst (xs := xs)
  have := h.ln
  omega
theorem Nice.untup {L D : Nat} {xs : List PyData} (h : Nice L (D + 1) (.tuple xs)) : NiceL L D xs := by
  have hl := h.lay
  have hd := h.dp
  have hn := h.ln
  have hs := h.sh
  simp only [PyData.canLay0] at hl
  simp only [PyData.depth] at hd
  simp only [PyData.showable] at hs
  simp only [PyData.shown] at hn
  refine ⟨hl, by omega, ?_, hs⟩
  refine Nat.le_trans ?_ hn
  have e1 : (("(" : String) : Str).length = 1 := by decide
  unfold tl tupleText
  rw [strLen_append, strLen_append]
  by_cases h0 : PyData.shownAll xs = []
  · rw [h0]; simp [piled]
  · have := join_length_add _ h0
    have e2 : 1 ≤ ((if (PyData.shownAll xs).length == 1 then ",)" else ")" : String) : Str).length := by split <;> decide
    omega
theorem nice_int {i : Int} (h : i.natAbs < 10 ^ 30) {D : Nat} : Nice 40 D (.int i) := by
  have h1 : i.natAbs.log2 < 1920 := by
    by_cases z : i.natAbs = 0
    · rw [z]; decide
    · have := (Nat.log2_lt z).mpr (Nat.lt_trans h (show 10 ^ 30 < 2 ^ 100 by decide))
      omega
  refine ⟨by simp only [PyData.canLay0], by simp only [PyData.depth]; exact Nat.zero_le _, ?_, by simp [PyData.showable, h1]⟩
  simp only [PyData.shown]
  have := int_text_length_le10 (a := i) (k := 30) (by decide) h
  have e : (Str.ofString (toString i)).length = (toString i).length := by rw [Str.ofString_eq_toList]; simp only [Str.length, List.size_toArray, List.length_map, String.length_toList]
  show (Str.ofString (toString i)).length ≤ 40
  omega
theorem niceL_each {l D : Nat} : ∀ {xs : List PyData}, (∀ x ∈ xs, Nice l D x) → NiceL (xs.length * (l + 2)) D xs
  | [], _ => .nil
  | x :: xs, h => by
    have := NiceL.cons (h x List.mem_cons_self) (niceL_each fun y hy => h y (List.mem_cons_of_mem _ hy))
    rw [List.length_cons, Nat.succ_mul]
    exact this.mono (by omega) (Nat.le_refl _)
theorem lay_str {x : Str} (h : okT x) : PyData.canLay0 (.str x) = true := by
  simp only [PyData.canLay0, PyData.strOk]
  rw [Array.all_eq_true]
  intro i hi
  simp only [decide_eq_true_eq]
  exact h _ (by simp)
theorem nice_str {x : Str} (h : okT x) {D : Nat} : Nice (10 * x.length + 2) D (.str x) := ⟨lay_str h, by simp only [PyData.depth]; exact Nat.zero_le _, shown_str h, by simp only [PyData.showable]⟩
/-- data, or the empty dict -/
def Val (L D : Nat) (d : PyData) : Prop := d = .dict [] ∨ Nice L D d
theorem Val.mono {L D L' D' : Nat} {d : PyData} (h : Val L D d) (h1 : L ≤ L') (h2 : D ≤ D') : Val L' D' d := h.imp id fun n => n.mono h1 h2
mutual
theorem noDict_lay : ∀ {d : PyData}, d.canLay0 = true → d.hasDict = false
  | .none, _ => by simp only [PyData.hasDict]
  | .bool _, _ => by simp only [PyData.hasDict]
  | .int _, _ => by simp only [PyData.hasDict]
  | .str _, _ => by simp only [PyData.hasDict]
  | .list xs, h => by simp only [PyData.hasDict]; exact noDicts_lay (by simpa only [PyData.canLay0] using h)
  | .tuple xs, h => by simp only [PyData.hasDict]; exact noDicts_lay (by simpa only [PyData.canLay0] using h)
  | .dict _, h => by simp [PyData.canLay0] at h
theorem noDicts_lay : ∀ {ds : List PyData}, PyData.canLayAll0 ds = true → PyData.hasDictAll ds = false
  | [], _ => by simp only [PyData.hasDictAll]
  | d :: ds, h => by
    simp only [PyData.canLayAll0, Bool.and_eq_true] at h
    simp only [PyData.hasDictAll, noDict_lay h.1, noDicts_lay h.2, Bool.or_self]
end
/-- repr([value]) -/
theorem rpr_val {L D : Nat} {v : PyData} (h : Val L D v) (hL : L ≤ 1000000) (hD : D ≤ 58) : rprF (.ml [.im v]) = some (mstr (PyData.shown (.list [v]))) ∧ okT (PyData.shown (.list [v])) ∧ (PyData.shown (.list [v])).length ≤ L + 20 := by
  rcases h with rfl | h
  · have e : PyData.shown (.list [.dict []]) = Str.ofString "[{}]" := by decide +kernel
    refine ⟨?_, by rw [e]; exact okT_lit _, by rw [e]; exact Nat.le_trans (show _ ≤ 20 by decide +kernel) (Nat.le_add_left _ _)⟩
    have h1 : (M.ml [.im (PyData.dict [])]).fz = .list [.dict []] := by simp only [M.fz, fzs]
    have h2 : (PyData.list [.dict []]).shown.length ≤ sizeLine := by decide +kernel
    unfold rprF
    rw [h1, if_pos ⟨by decide, by decide, by decide, h2⟩]
  · have hl : NiceL (L + 2) D [v] := NiceL.one h
    have hn := hl.lst
    have h1 : (M.ml [.im v]).fz = .list [v] := by simp only [M.fz, fzs]
    refine ⟨?_, okT_shown hn.lay, by have := hn.ln; omega⟩
    unfold rprF
    have h2 : dz (.list [v]) = true := by
      have := noDict_lay h.lay
      simp only [dz, List.all_cons, List.all_nil, Bool.and_true]
      unfold dz1
      split
      · rfl
      · rw [this]; rfl
    rw [h1, if_pos ⟨hn.sh, h2, by have := hn.dp; omega, by have := hn.ln; show _ ≤ 16777216; omega⟩]
/-- repr of a list of data -/
theorem rpr_list {L D : Nat} {xs : List PyData} (h : NiceL L D xs) (hL : L ≤ 16000000) (hD : D ≤ 58) : rprF (.ml (xs.map .im)) = some (mstr (PyData.shown (.list xs))) ∧ okT (PyData.shown (.list xs)) := by
  have hn := h.lst
  have h1 : (M.ml (xs.map .im)).fz = .list xs := by simp only [M.fz, fzs_im]
  refine ⟨?_, okT_shown hn.lay⟩
  unfold rprF
  have h2 : dz (.list xs) = true := by
    have := noDicts_lay h.lay
    simp only [dz]
    rw [List.all_eq_true]
    intro x hx
    have hx := noDict_lay (h.get hx).lay
    unfold dz1
    split
    · rfl
    · rw [hx]; rfl
  rw [h1, if_pos ⟨hn.sh, h2, by have := hn.dp; omega, by have := hn.ln; show _ ≤ 16777216; omega⟩]
theorem eqF_str {x : Str} (h : okT x) : eqF (.im (.str x)) (.im (.str x)) = some true := by
  have h1 : SeqAt.shaped (.str x) = true := by simp [SeqAt.shaped, lay_str h, PyData.depth]
  simp [eqF, M.fz, h1, PyData.eqv]
end D8

namespace D8
open PySem PySem.Spec PyProof.Rows L2
section
variable {nxt : Nat → EnvM → Option (Option PyData)} {st : PyData → EnvM → Option EnvM} {body : EnvM → Option (Fl × EnvM)} {env : EnvM} {k : Nat} {Q : Fl × EnvM → Prop}
/-- after a turn -/
def lpK (nxt : Nat → EnvM → Option (Option PyData)) (st : PyData → EnvM → Option EnvM) (body : EnvM → Option (Fl × EnvM)) (k : Nat) (Q : Fl × EnvM → Prop) (r : Fl × EnvM) : Prop := match r.1 with
  | .nx => Ev (forLp nxt st body (k + 1) r.2) Q
  | .ct => Ev (forLp nxt st body (k + 1) r.2) Q
  | .bk => Q (.nx, r.2)
  | .rt m => Q (.rt m, r.2)
theorem lpK_nx : lpK nxt st body k Q (.nx, env) = Ev (forLp nxt st body (k + 1) env) Q := rfl
@[simp ↓] theorem lpK_rt {m : M} : lpK nxt st body k Q (.rt m, env) = Q (.rt m, env) := rfl
theorem ev_for_step {d : PyData} (h : nxt k env = some (some d)) : Ev (forLp nxt st body k env) Q = Ev (st d env) fun e1 => Ev (body e1) (lpK nxt st body k Q) := by
  rw [forLp, h]
  cases h1 : st d env with
  | none => simp only [h1, Ev.eq_none]
  | some e1 =>
    simp only [h1, Ev.eq_some]
    cases h2 : body e1 with
    | none => simp only [h2, Ev.eq_none]
    | some r =>
      obtain ⟨fl, e2⟩ := r
      simp only [h2, Ev.eq_some]
      cases fl <;> simp only [lpK, Ev.eq_some]
theorem ev_for_end (h : nxt k env = some none) : Ev (forLp nxt st body k env) Q = Q (.nx, env) := by
  rw [forLp, h]
  exact Ev.eq_some
/-- a comprehension with a test -/
theorem lc_pure {c : EnvM → Option (Bool × EnvM)} {e : EnvM → Option (M × EnvM)} {w : EnvM → EnvM} (ds : List PyData) (p : PyData → Bool) (f : PyData → M) (P : EnvM → Prop) (h0 : P env) (hl : ds.length ≤ sizeLine) (hn : ∀ k env, P env → nxt k env = nth ds.length k ds[k]?)
    (hb : ∀ d ∈ ds, ∀ env, P env → Ev (st d env) fun env1 => Ev (c env1) fun t => t.1 = p d ∧ (p d = true → Ev (e t.2) fun q => q.1 = f d ∧ P (w q.2)) ∧ (p d = false → P (w t.2))) :
    Ev (lcLp nxt st c e w 0 [] env) fun r => r.1 = (ds.filter p).map f ∧ P r.2 := by
  refine Ev.mono (lcLp_ev ds (fun k acc env => acc = ((ds.take k).filter p).map f ∧ P env) ⟨rfl, h0⟩ (fun k acc env i => hn k env i.2) fun k d acc env hk ⟨ha, i⟩ => ?_) fun r ⟨h1, h2⟩ => ⟨by rw [h1, List.take_length], h2⟩
  have hm := List.mem_of_getElem? hk
  have htk : ds.take (k + 1) = ds.take k ++ [d] := by rw [List.take_add_one, hk]; rfl
  rw [Ev.eq_bind]
  refine Ev.mono (hb d hm env i) fun env1 h1 => ?_
  refine Ev.mono h1 fun t ⟨h2, h3, h4⟩ => ?_
  cases hp : p d with
  | false => exact .inl ⟨by rw [h2, hp], by rw [ha, htk]; simp [hp], h4 hp⟩
  | true =>
    refine .inr ⟨by rw [h2, hp], Ev.mono (h3 hp) fun q ⟨h5, h6⟩ => ⟨?_, by rw [ha, htk, h5]; simp [hp], h6⟩⟩
    have hk2 : k < ds.length := (List.getElem?_eq_some_iff.mp hk).1
    have h7 : (((ds.take k).filter p).map f).length ≤ k := by
      rw [List.length_map]
      refine Nat.le_trans (List.length_filter_le _ _) ?_
      rw [List.length_take]
      omega
    rw [ha]
    omega
theorem lc_map {e : EnvM → Option (M × EnvM)} {w : EnvM → EnvM} (ds : List PyData) (f : PyData → M) (P : EnvM → Prop) (h0 : P env) (hl : ds.length ≤ sizeLine) (hn : ∀ k env, P env → nxt k env = nth ds.length k ds[k]?)
    (hb : ∀ d ∈ ds, ∀ env, P env → Ev (st d env) fun env1 => Ev (e env1) fun q => q.1 = f d ∧ P (w q.2)) :
    Ev (lcLp nxt st (fun env => some (true, env)) e w 0 [] env) fun r => r.1 = ds.map f ∧ P r.2 := by
  refine Ev.mono (lc_pure ds (fun _ => true) f P h0 hl hn fun d hd env i => ?_) fun r ⟨h1, h2⟩ => ⟨by rw [h1]; congr 1; simp, h2⟩
  refine Ev.mono (hb d hd env i) fun env1 h => ?_
  rw [Ev.eq_some]
  exact ⟨rfl, fun _ => h, fun z => by cases z⟩
/-- a comprehension whose items only keep something, while the surroundings change -/
theorem lc_each {e : EnvM → Option (M × EnvM)} {w : EnvM → EnvM} (ds : List PyData) (R : PyData → M → Prop) (P : EnvM → Prop) (h0 : P env) (hl : ds.length ≤ sizeLine) (hn : ∀ k env, P env → nxt k env = nth ds.length k ds[k]?)
    (hb : ∀ d ∈ ds, ∀ env, P env → Ev (st d env) fun env1 => Ev (e env1) fun q => R d q.1 ∧ P (w q.2)) :
    Ev (lcLp nxt st (fun env => some (true, env)) e w 0 [] env) fun r => r.1.length = ds.length ∧ (∀ m ∈ r.1, ∃ d ∈ ds, R d m) ∧ P r.2 := by
  refine Ev.mono (lcLp_ev ds (fun k acc env => acc.length = k ∧ (∀ m ∈ acc, ∃ d ∈ ds, R d m) ∧ P env) ⟨rfl, fun _ h => absurd h List.not_mem_nil, h0⟩ (fun k acc env i => hn k env i.2.2) fun k d acc env hk ⟨ha, hr, i⟩ => ?_) fun r h => h
  have hm := List.mem_of_getElem? hk
  have hk2 : k < ds.length := (List.getElem?_eq_some_iff.mp hk).1
  rw [Ev.eq_bind]
  refine Ev.mono (hb d hm env i) fun env1 h1 => ?_
  rw [Ev.eq_some]
  refine .inr ⟨rfl, Ev.mono h1 fun q ⟨h5, h6⟩ => ⟨by omega, by simp [ha], fun m hmm => ?_, h6⟩⟩
  rcases List.mem_append.mp hmm with h | h
  · exact hr m h
  · simp at h; subst h; exact ⟨d, hm, h5⟩
theorem lc_eachF {c : EnvM → Option (Bool × EnvM)} {e : EnvM → Option (M × EnvM)} {w : EnvM → EnvM} (ds : List PyData) (p : PyData → Bool) (R : PyData → M → Prop) (P : EnvM → Prop) (h0 : P env) (hl : ds.length ≤ sizeLine) (hn : ∀ k env, P env → nxt k env = nth ds.length k ds[k]?)
    (hb : ∀ d ∈ ds, ∀ env, P env → Ev (st d env) fun env1 => Ev (c env1) fun t => t.1 = p d ∧ (p d = true → Ev (e t.2) fun q => R d q.1 ∧ P (w q.2)) ∧ (p d = false → P (w t.2))) :
    Ev (lcLp nxt st c e w 0 [] env) fun r => r.1.length ≤ ds.length ∧ (∀ m ∈ r.1, ∃ d ∈ ds, p d = true ∧ R d m) ∧ P r.2 := by
  refine Ev.mono (lcLp_ev ds (fun k acc env => acc.length ≤ k ∧ (∀ m ∈ acc, ∃ d ∈ ds, p d = true ∧ R d m) ∧ P env) ⟨Nat.le_refl _, fun _ h => absurd h List.not_mem_nil, h0⟩ (fun k acc env i => hn k env i.2.2) fun k d acc env hk ⟨ha, hr, i⟩ => ?_) fun r h => h
  have hm := List.mem_of_getElem? hk
  have hk2 : k < ds.length := (List.getElem?_eq_some_iff.mp hk).1
  rw [Ev.eq_bind]
  refine Ev.mono (hb d hm env i) fun env1 h1 => ?_
  refine Ev.mono h1 fun t ⟨h2, h3, h4⟩ => ?_
  cases hp : p d with
  | false => exact .inl ⟨by rw [h2, hp], by omega, hr, h4 hp⟩
  | true =>
    refine .inr ⟨by rw [h2, hp], Ev.mono (h3 hp) fun q ⟨h5, h6⟩ => ⟨by omega, by simp; omega, fun m hmm => ?_, h6⟩⟩
    rcases List.mem_append.mp hmm with h | h
    · exact hr m h
    · simp at h; subst h; exact ⟨d, hm, hp, h5⟩
end
/-! what loops walk -/
section
variable {env : EnvM} {k : Nat}
/-- range(n) -/
def rgD (n : Nat) : List PyData := (List.range n).map fun (k : Nat) => .int k
@[simp] theorem rgD_len {n : Nat} : (rgD n).length = n := by simp [rgD]
theorem next_rg {n : Int} {ks : List Nat} (hk : ks = [3]) (h0 : 0 ≤ n) (h : n < 4611686018427387904) : nextK .rg1 [.tm (.im (.int n))] ks k env = nth (rgD n.toNat).length k (rgD n.toNat)[k]? := by
  subst hk
  have h1 : -4611686018427387904 ≤ n := by omega
  simp only [nextK, peek, Option.map_some, Option.bind_some, List.map_cons, List.map_nil, kdM, if_true, nextI, int?, h1, h, and_self, rgD_len]
  simp only [nth]
  split
  · next hlt => simp [rgD, hlt]
  · rfl
theorem next_tm {m : M} {ds : List PyData} {ks : List Nat} (hk : ks = [kdM m]) (h : D8.items? m = some ds) : nextK .one [.tm m] ks k env = nth ds.length k ds[k]? := by
  subst hk
  simp [nextK, peek, nextI, h]
theorem next_sl {m : M} {i : Nat} {ds : List PyData} {ks : List Nat} (hs : slot env i = some m) (hk : ks = [kdM m]) (h : D8.items? m = some ds) : nextK .one [.sl i] ks k env = nth ds.length k ds[k]? := by
  subst hk
  simp only [nextK, peek, hs]
  simp [nextI, h]
end
@[simp] theorem items_t {ds : List PyData} : D8.items? (.im (.tuple ds)) = some ds := rfl
@[simp] theorem items_l {ds : List PyData} : D8.items? (.im (.list ds)) = some ds := rfl
@[simp] theorem items_ml {ds : List M} : D8.items? (.ml ds) = ims ds := rfl
@[simp] theorem mulF_t {a : List PyData} {j : Int} : mulF (.im (.tuple a)) (.im (.int j)) = if (a = [] ∨ j = 1) ∧ -9223372036854775808 ≤ j ∧ j < 9223372036854775808 then some (.im (.tuple a)) else if a.length ≤ 1000 ∧ 2 ≤ j ∧ j ≤ 1000 then some (.im (.tuple (rep a j.toNat))) else none := rfl
@[simp] theorem mulF_ml {xs : List M} {j : Int} : mulF (.ml xs) (.im (.int j)) = (ims xs).bind fun a => if a.length * j.toNat ≤ sizeLine ∧ j < 9223372036854775808 ∧ -9223372036854775808 ≤ j then some (mList (rep a j.toNat)) else none := rfl
theorem eqF_nil {ds : List PyData} (h : SeqAt.shaped (.list ds) = true) : eqF (.ml (ds.map .im)) (.ml []) = some (decide (ds = [])) := by
  have h0 : SeqAt.shaped (.list []) = true := by decide
  simp only [eqF, M.fz, fzs_im, fzs, h, h0, and_self, if_true]
  cases ds <;> simp [PyData.eqv, PyData.eqvAll]
theorem Nice.shaped {d : PyData} {D : Nat} {L : Nat} (h : Nice L D d) (hD : D ≤ 64) : SeqAt.shaped d = true := by
  have := h.dp
  simp [SeqAt.shaped, h.lay]; omega
/-! slices -/
section
variable {α : Type} {xs : List α} {i : Int} {ds : List PyData} {lo hi : Option Int}
theorem cut_to (h : 0 ≤ i) : cut xs none (some i) = xs.take i.toNat := by
  unfold cut
  obtain ⟨k, rfl⟩ := Int.eq_ofNat_of_zero_le h
  rw [HT.sIx_nat, HT.sIx_none, Nat.sub_zero, List.drop_zero, Int.toNat_natCast]
  rcases Nat.le_total k xs.length with h | h
  · rw [Nat.min_eq_left h]
  · rw [Nat.min_eq_right h, List.take_of_length_le (Nat.le_refl _), List.take_of_length_le h]
theorem cut_from (h : 0 ≤ i) : cut xs (some i) none = xs.drop i.toNat := by
  unfold cut
  obtain ⟨k, rfl⟩ := Int.eq_ofNat_of_zero_le h
  rw [HT.sIx_nat, HT.sIx_none, Int.toNat_natCast]
  rcases Nat.le_total k xs.length with h | h
  · rw [Nat.min_eq_left h, List.take_of_length_le (by simp)]
  · rw [Nat.min_eq_right h, List.drop_of_length_le (Nat.le_refl _), List.drop_of_length_le h]; simp
@[simp] theorem slF_t : slF (.im (.tuple ds)) lo hi = some (.im (.tuple (cut ds lo hi))) := rfl
@[simp] theorem slF_l : slF (.im (.list ds)) lo hi = some (mList (cut ds lo hi)) := rfl
@[simp] theorem slF_ml {ms : List M} : slF (.ml ms) lo hi = (ims ms).map fun ds => mList (cut ds lo hi) := rfl
@[simp] theorem revF_t : revF (.im (.tuple ds)) = some (.im (.tuple ds.reverse)) := rfl
@[simp] theorem tupF_t : tupF (.im (.tuple ds)) = some (.im (.tuple ds)) := rfl
@[simp] theorem tupF_l : tupF (.im (.list ds)) = some (.im (.tuple ds)) := rfl
@[simp] theorem tupF_ml {ms : List M} : tupF (.ml ms) = (ims ms).map fun ds => .im (.tuple ds) := rfl
@[simp] theorem lstF_t : lstF (.im (.tuple ds)) = some (mList ds) := rfl
@[simp] theorem lstF_l : lstF (.im (.list ds)) = some (mList ds) := rfl
@[simp] theorem lstF_ml {ms : List M} : lstF (.ml ms) = (ims ms).map fun ds => mList ds := rfl
end
@[simp] theorem mList_ml {ds : List PyData} : mList ds = .ml (ds.map .im) := rfl
@[simp] theorem cut63 {α : Type} {xs : List α} : cut xs none (some 63) = xs.take 63 := cut_to (by decide)
@[simp] theorem ims_nil : ims [] = some [] := rfl
@[simp] theorem ims_im {d : PyData} {ms : List M} : ims (.im d :: ms) = (ims ms).map (d :: ·) := rfl
@[simp] theorem ims_app {ds : List PyData} {ms : List M} : ims (ds.map .im ++ ms) = (ims ms).map (ds ++ ·) := by
  induction ds with
  | nil => simp
  | cons d ds ih => simp only [List.map_cons, List.cons_append, ims, ih]; cases ims ms <;> rfl
@[simp] theorem fzs_im_s {ds : List PyData} : fzs (ds.map .im) = ds := fzs_im ds
@[simp] theorem perm_0 {α : Type} {xs : List α} : perm [] xs = some [] := rfl
@[simp] theorem perm_1 {α : Type} {i : Nat} {r : List Nat} {xs : List α} : perm (i :: r) xs = (xs[i]?).bind fun x => (perm r xs).map (x :: ·) := rfl
section
variable {nxt : Nat → EnvM → Option (Option PyData)} {st : PyData → EnvM → Option EnvM} {body : EnvM → Option (Fl × EnvM)} {env : EnvM} {k : Nat} {Q : Fl × EnvM → Prop}
@[simp ↓] theorem lpK_nx_t  : lpK nxt st body k Q (.nx, env) = Et (forLp nxt st body (k + 1) env) Q := lpK_nx
end
@[simp] theorem mtF_pop1 {xs : List M} {i : Int} : mtF .pop1 (.ml xs) [.im (.int i)] = if i < 9223372036854775808 ∧ -9223372036854775808 ≤ i then (ixN xs.length i).bind fun k => xs[k]?.map fun y => (.ml (xs.eraseIdx k), y) else none := rfl
theorem iM_erase {cs : List Int} {k : Nat} : (iM cs).eraseIdx k = iM (cs.eraseIdx k) := by
  induction cs generalizing k with
  | nil => rfl
  | cons c cs ih => cases k with
    | zero => rfl
    | succ k => exact congrArg (mint c :: ·) ih
theorem rgI_len {a b : Int} : (rgI a b).length = (b - a).toNat := by simp [rgI]
theorem rgI_get {a b : Int} {k : Nat} (h : k < (b - a).toNat) : (rgI a b)[k]? = some (a + k) := by simp [rgI, h]
theorem rgI_mem {a b x : Int} : x ∈ rgI a b ↔ a ≤ x ∧ x < b := by
  simp only [rgI, List.mem_map, List.mem_range]
  constructor
  · rintro ⟨k, h, rfl⟩; omega
  · rintro ⟨h1, h2⟩; exact ⟨(x - a).toNat, by omega, by omega⟩
theorem rgI_nd {a b : Int} : (rgI a b).Nodup := by
  unfold rgI
  exact List.Pairwise.map _ (fun x y h e => h (by omega)) List.nodup_range
theorem rgF_of {a b : Int} (h1 : -1000000 ≤ a) (h2 : a ≤ 1000000) (h3 : -1000000 ≤ b) (h4 : b ≤ 1000000) : rgF a b = some (iD (rgI a b)) := by
  unfold rgF
  rw [if_pos (by omega)]
  rfl
@[simp ↓] theorem prF_rgL1 {n : Int} : prF .rgL1 [.im (.int n)] = (rgF 0 n).map mList := by simp only [prF, int?, Option.bind_some]
@[simp ↓] theorem prF_rgL2 {a b : Int} : prF .rgL2 [.im (.int a), .im (.int b)] = (rgF a b).map mList := by simp only [prF, int?, Option.bind_some]
@[simp ↓] theorem prF_rgT1 {n : Int} : prF .rgT1 [.im (.int n)] = (rgF 0 n).map fun ds => .im (.tuple ds) := by simp only [prF, int?, Option.bind_some]
@[simp ↓] theorem prF_rgT2 {a b : Int} : prF .rgT2 [.im (.int a), .im (.int b)] = (rgF a b).map fun ds => .im (.tuple ds) := by simp only [prF, int?, Option.bind_some]
@[simp ↓] theorem prF_index {x y : M} : prF .index [x, y] = indexF x y := rfl
section
variable {Γ : Gam} {env : EnvM}
@[simp] theorem kOk_0 : kOk [0] = true := rfl
@[simp] theorem kOk_1 : kOk [1] = FZ := rfl
theorem ev_ixm_r {os : Es} {a : E} {Q : M × EnvM → Prop} : Ev (evalE Γ (.ixm os a) env) Q = Ev (evalOs Γ os env) fun r => Ev (peek r.2 r.1) fun ms0 => kOk (ms0.map kdM) = true ∧ Ev (evalE Γ a r.2) fun q => Ev (peek q.2 r.1) fun ms => ms.map kdM = ms0.map kdM ∧ Ev (prF .index (ms ++ [q.1])) fun m => Q (m, q.2) := by
  simp only [evalE, Ev.eq_bind, Ev.eq_if, Ev.eq_map]
@[simp ↓] theorem ev_ixm {os : Es} {a : E} {Q : M × EnvM → Prop} : Et (evalE Γ (.ixm os a) env) Q = Et (evalOs Γ os env) (P2 fun r1 r2 => Et (peek r2 r1) fun ms0 => kOk (ms0.map kdM) = true ∧ Et (evalE Γ a r2) (P2 fun q1 q2 => Et (peek q2 r1) fun ms => ms.map kdM = ms0.map kdM ∧ Et (prF .index (ms ++ [q1])) fun m => Q (m, q2))) := ev_ixm_r
theorem ev_cnt_r {os : Es} {a : E} {Q : M × EnvM → Prop} : Ev (evalE Γ (.cnt os a) env) Q = Ev (evalOs Γ os env) fun r => Ev (peek r.2 r.1) fun ms0 => kOk (ms0.map kdM) = true ∧ Ev (evalE Γ a r.2) fun q => Ev (peek q.2 r.1) fun ms => ms.map kdM = ms0.map kdM ∧ Ev (prF .count (ms ++ [q.1])) fun m => Q (m, q.2) := by
  simp only [evalE, Ev.eq_bind, Ev.eq_if, Ev.eq_map]
@[simp ↓] theorem ev_cnt {os : Es} {a : E} {Q : M × EnvM → Prop} : Et (evalE Γ (.cnt os a) env) Q = Et (evalOs Γ os env) (P2 fun r1 r2 => Et (peek r2 r1) fun ms0 => kOk (ms0.map kdM) = true ∧ Et (evalE Γ a r2) (P2 fun q1 q2 => Et (peek q2 r1) fun ms => ms.map kdM = ms0.map kdM ∧ Et (prF .count (ms ++ [q1])) fun m => Q (m, q2))) := ev_cnt_r
theorem ev_get_r {os : Es} {a b : E} {Q : M × EnvM → Prop} : Ev (evalE Γ (.get os a b) env) Q = Ev (evalOs Γ os env) fun r => Ev (peek r.2 r.1) fun ms0 => ms0.map kdM = [4] ∧ Ev (evalE Γ a r.2) fun q => Ev (evalE Γ b q.2) fun t => Ev (peek t.2 r.1) fun ms => ms.map kdM = [4] ∧ Ev (prF .get2 (ms ++ [q.1, t.1])) fun m => Q (m, t.2) := by
  simp only [evalE, Ev.eq_bind, Ev.eq_if, Ev.eq_map]
@[simp ↓] theorem ev_get {os : Es} {a b : E} {Q : M × EnvM → Prop} : Et (evalE Γ (.get os a b) env) Q = Et (evalOs Γ os env) (P2 fun r1 r2 => Et (peek r2 r1) fun ms0 => ms0.map kdM = [4] ∧ Et (evalE Γ a r2) (P2 fun q1 q2 => Et (evalE Γ b q2) (P2 fun t1 t2 => Et (peek t2 r1) fun ms => ms.map kdM = [4] ∧ Et (prF .get2 (ms ++ [q1, t1])) fun m => Q (m, t2)))) := ev_get_r
@[simp ↓] theorem prF_count {x y : M} : prF .count [x, y] = countF x y := rfl
@[simp ↓] theorem prF_get2 {x y z : M} : prF .get2 [x, y, z] = getF x y z := rfl
@[simp ↓] theorem prF_min1 {x : M} : prF .min1 [x] = min1F x := rfl
@[simp ↓] theorem prF_max1 {x : M} : prF .max1 [x] = max1F x := rfl
@[simp] theorem kvsOf_nil : kvsOf [] = some [] := rfl
@[simp] theorem kvsOf_i {i : Int} {m : M} {r : List M} : kvsOf (.im (.int i) :: m :: r) = (kvsOf r).map ((.inl i, m) :: ·) := rfl
@[simp] theorem kvsOf_s {i : Str} {m : M} {r : List M} : kvsOf (.im (.str i) :: m :: r) = (kvsOf r).map ((.inr i, m) :: ·) := rfl
end
theorem next_rg2 {a b : Int} {ks : List Nat} {k : Nat} {env : EnvM} (hk : ks = [3, 3]) (h1 : -1000000 ≤ a) (h2 : a ≤ 1000000) (h3 : -1000000 ≤ b) (h4 : b ≤ 1000000) : nextK .rg2 [.tm (.im (.int a)), .tm (.im (.int b))] ks k env = nth (iD (rgI a b)).length k (iD (rgI a b))[k]? := by
  subst hk
  have e : (-4611686018427387904 ≤ a ∧ a < 4611686018427387904) ∧ -4611686018427387904 ≤ b ∧ b < 4611686018427387904 := by omega
  simp only [nextK, peek, Option.map_some, Option.bind_some, List.map_cons, List.map_nil, kdM, if_true, nextI, int?, e, and_self, len_iD, rgI_len]
  simp only [nth]
  split
  · next hlt => simp [iD, rgI_get hlt]
  · rfl
end D8

namespace D8
/-! ### counting -/
theorem nd_le : ∀ {l1 l2 : List Int}, l1.Nodup → (∀ x ∈ l1, x ∈ l2) → l1.length ≤ l2.length
  | [], _, _, _ => Nat.zero_le _
  | x :: l1, l2, h, hs => by
    have hx : x ∈ l2 := hs x List.mem_cons_self
    obtain ⟨h1, h2⟩ := List.nodup_cons.mp h
    have := nd_le (l2 := l2.erase x) h2 fun y hy => (List.mem_erase_of_ne (fun e => h1 (by rw [← e]; exact hy))).mpr (hs y (List.mem_cons_of_mem _ hy))
    rw [List.length_erase_of_mem hx] at this
    have : 0 < l2.length := List.length_pos_of_mem hx
    rw [List.length_cons]
    omega
theorem nd_all {l1 l2 : List Int} (h : l1.Nodup) (hs : ∀ x ∈ l1, x ∈ l2) (hl : l2.length ≤ l1.length) : ∀ y ∈ l2, y ∈ l1 := fun y hy => Classical.byContradiction fun n => by
  have := nd_le (l1 := y :: l1) (l2 := l2) (List.nodup_cons.mpr ⟨n, h⟩) fun x hx => (List.mem_cons.mp hx).elim (fun e => e ▸ hy) (hs x)
  rw [List.length_cons] at this
  omega
def upTo (n : Nat) : List Int := (List.range n).map fun (k : Nat) => (k : Int)
theorem mem_upTo {n : Nat} {x : Int} : x ∈ upTo n ↔ 0 ≤ x ∧ x < n := by
  simp only [upTo, List.mem_map, List.mem_range]
  constructor
  · rintro ⟨k, h, rfl⟩; omega
  · rintro ⟨h1, h2⟩; exact ⟨x.toNat, by omega, by omega⟩
theorem len_upTo {n : Nat} : (upTo n).length = n := by simp [upTo]
theorem nd_upTo {n : Nat} : (upTo n).Nodup := by
  unfold upTo
  exact List.Pairwise.map _ (fun a b h e => h (by omega)) List.nodup_range
/-- an order of n things -/
structure Ord (n : Nat) (r : List Int) : Prop where
  len : r.length = n
  rng : ∀ x ∈ r, 0 ≤ x ∧ x < n
  nd : r.Nodup
/-- the item at a place -/
def it (r : List Int) (x : Int) : Int := r.getD x.toNat 0
theorem it_get {r : List Int} {k : Nat} (h : k < r.length) : it r k = r[k] := by simp [it, h]
theorem it_some {r : List Int} {x : Int} (h0 : 0 ≤ x) (h : x < r.length) : r[x.toNat]? = some (it r x) := by
  have : x.toNat < r.length := by omega
  simp [it, this]
theorem it_mem {r : List Int} {x : Int} (h0 : 0 ≤ x) (h : x < r.length) : it r x ∈ r := List.mem_of_getElem? (it_some h0 h)
theorem Ord.it {n : Nat} {r : List Int} (o : Ord n r) {x : Int} (h0 : 0 ≤ x) (h : x < n) : 0 ≤ D8.it r x ∧ D8.it r x < n := o.rng _ (it_mem h0 (by rw [o.len]; exact h))
theorem Ord.inj {n : Nat} {r : List Int} (o : Ord n r) {x y : Int} (hx0 : 0 ≤ x) (hx : x < n) (hy0 : 0 ≤ y) (hy : y < n) (e : D8.it r x = D8.it r y) : x = y := by
  have h1 := it_some (r := r) hx0 (by rw [o.len]; exact hx)
  have h2 := it_some (r := r) hy0 (by rw [o.len]; exact hy)
  rw [e] at h1
  have hlx : x.toNat < r.length := by have := o.len; omega
  have := (List.getElem?_inj hlx o.nd).mp (h1.trans h2.symm)
  omega
theorem Ord.sur {n : Nat} {r : List Int} (o : Ord n r) {y : Int} (hy0 : 0 ≤ y) (hy : y < n) : ∃ x, 0 ≤ x ∧ x < n ∧ D8.it r x = y := by
  have : y ∈ r := nd_all (l1 := r) (l2 := upTo n) o.nd (fun x hx => mem_upTo.mpr (o.rng x hx)) (by rw [len_upTo, o.len]; exact Nat.le_refl _) y (mem_upTo.mpr ⟨hy0, hy⟩)
  obtain ⟨k, hk, e⟩ := List.mem_iff_getElem.mp this
  exact ⟨k, by omega, by have := o.len; omega, by rw [it_get hk]; exact e⟩
/-- what is closed ahead is closed back -/
theorem Ord.closed {n : Nat} {r : List Int} (o : Ord n r) {B : List Int} (hn : B.Nodup) (hr : ∀ x ∈ B, 0 ≤ x ∧ x < n) (hc : ∀ x ∈ B, D8.it r x ∈ B) {y : Int} (hy0 : 0 ≤ y) (hy : y < n) (h : D8.it r y ∈ B) : y ∈ B := by
  have hm : (B.map (D8.it r)).Nodup := List.Pairwise.map _ (fun _ _ h => h) (by
    refine List.Pairwise.imp_of_mem ?_ hn
    intro a b ha hb hne e
    exact hne (o.inj (hr a ha).1 (hr a ha).2 (hr b hb).1 (hr b hb).2 e))
  have := nd_all (l1 := B.map (D8.it r)) (l2 := B) hm (fun x hx => by obtain ⟨z, hz, rfl⟩ := List.mem_map.mp hx; exact hc z hz) (by simp) _ h
  obtain ⟨z, hz, e⟩ := List.mem_map.mp this
  have := o.inj (hr z hz).1 (hr z hz).2 hy0 hy e
  exact this ▸ hz
end D8

namespace D8
/-! ### an order done so often -/
theorem it_ext {n : Nat} {a b : List Int} (la : a.length = n) (lb : b.length = n) (h : ∀ x : Int, 0 ≤ x → x < n → it a x = it b x) : a = b := by
  refine List.ext_getElem (by omega) fun k h1 h2 => ?_
  have := h k (by omega) (by omega)
  rwa [it_get h1, it_get h2] at this
theorem it_map {n : Nat} {f : Int → Int} {r : List Int} (lr : r.length = n) {x : Int} (h0 : 0 ≤ x) (h : x < n) : it (r.map f) x = f (it r x) := by
  have h1 : x.toNat < r.length := by omega
  have e : ((x.toNat : Nat) : Int) = x := by omega
  rw [← e, it_get (by simpa using h1), it_get h1]
  simp
theorem it_upTo {n : Nat} {x : Int} (h0 : 0 ≤ x) (h : x < n) : it (upTo n) x = x := by
  have h1 : x.toNat < (upTo n).length := by rw [len_upTo]; omega
  have e : ((x.toNat : Nat) : Int) = x := by omega
  rw [← e, it_get h1]
  simp [upTo]
/-- what leads to y -/
def inv (r : List Int) (y : Int) : Int := (r.idxOf y : Nat)
section
variable {n : Nat} {r : List Int}
theorem Ord.mem (o : Ord n r) {y : Int} (h0 : 0 ≤ y) (h : y < n) : y ∈ r := nd_all (l1 := r) (l2 := upTo n) o.nd (fun x hx => mem_upTo.mpr (o.rng x hx)) (by rw [len_upTo, o.len]; exact Nat.le_refl _) y (mem_upTo.mpr ⟨h0, h⟩)
theorem Ord.inv_rng (o : Ord n r) {y : Int} (h0 : 0 ≤ y) (h : y < n) : 0 ≤ inv r y ∧ inv r y < n := by
  have := List.idxOf_lt_length_of_mem (o.mem h0 h)
  rw [o.len] at this
  unfold inv
  omega
theorem Ord.it_inv (o : Ord n r) {y : Int} (h0 : 0 ≤ y) (h : y < n) : D8.it r (inv r y) = y := by
  have hl := List.idxOf_lt_length_of_mem (o.mem h0 h)
  unfold inv
  rw [it_get hl]
  exact List.getElem_idxOf hl
theorem Ord.inv_it (o : Ord n r) {x : Int} (h0 : 0 ≤ x) (h : x < n) : inv r (D8.it r x) = x := by
  have h1 := o.it h0 h
  have h2 := o.inv_rng h1.1 h1.2
  exact o.inj h2.1 h2.2 h0 h (o.it_inv h1.1 h1.2)
def pwN (f : Int → Int) : Nat → Int → Int
  | 0, x => x
  | k + 1, x => f (pwN f k x)
def pw (r : List Int) : Int → Int → Int
  | .ofNat k, x => pwN (it r) k x
  | .negSucc k, x => pwN (inv r) (k + 1) x
theorem pw_zero {x : Int} : pw r 0 x = x := rfl
theorem Ord.pw_rng (o : Ord n r) (t : Int) {x : Int} (h0 : 0 ≤ x) (h : x < n) : 0 ≤ pw r t x ∧ pw r t x < n := by
  cases t with
  | ofNat k =>
    induction k with
    | zero => exact ⟨h0, h⟩
    | succ k ih => exact o.it ih.1 ih.2
  | negSucc k =>
    induction k with
    | zero => exact o.inv_rng h0 h
    | succ k ih => exact o.inv_rng ih.1 ih.2
theorem Ord.pw_succ (o : Ord n r) (t : Int) {x : Int} (h0 : 0 ≤ x) (h : x < n) : pw r (t + 1) x = D8.it r (pw r t x) := by
  cases t with
  | ofNat k => rfl
  | negSucc k =>
    cases k with
    | zero =>
      show x = D8.it r (inv r x)
      exact (o.it_inv h0 h).symm
    | succ k =>
      have e : Int.negSucc (k + 1) + 1 = Int.negSucc k := rfl
      rw [e]
      have hr := o.pw_rng (Int.negSucc k) h0 h
      show _ = D8.it r (inv r (pw r (Int.negSucc k) x))
      exact (o.it_inv hr.1 hr.2).symm
/-- it is the only one that goes so -/
theorem Ord.pw_only (o : Ord n r) {g : Int → Int} (hg : ∀ t, 0 ≤ g t ∧ g t < n) (hs : ∀ t, g (t + 1) = D8.it r (g t)) (t : Int) : g t = pw r t (g 0) := by
  have h0 := hg 0
  have pos : ∀ k : Nat, g k = pw r k (g 0) := fun k => by
    induction k with
    | zero => rfl
    | succ k ih =>
      have := o.pw_succ k h0.1 h0.2
      rw [Int.natCast_succ, hs, ih, this]
  have neg : ∀ k : Nat, g (-(k : Int)) = pw r (-(k : Int)) (g 0) := fun k => by
    induction k with
    | zero => rfl
    | succ k ih =>
      have e : -((k + 1 : Nat) : Int) + 1 = -(k : Int) := by omega
      have h1 := hs (-((k + 1 : Nat) : Int))
      have h2 := o.pw_succ (-((k + 1 : Nat) : Int)) h0.1 h0.2
      rw [e] at h1 h2
      have hr := o.pw_rng (-((k + 1 : Nat) : Int)) h0.1 h0.2
      have hq := hg (-((k + 1 : Nat) : Int))
      exact o.inj hq.1 hq.2 hr.1 hr.2 (by rw [← h1, ← h2, ih])
  rcases Int.le_total 0 t with h | h
  · have := pos t.toNat
    rwa [Int.toNat_of_nonneg h] at this
  · have := neg (-t).toNat
    rw [Int.toNat_of_nonneg (by omega)] at this
    simpa using this
theorem Ord.pw_add (o : Ord n r) (s t : Int) {x : Int} (h0 : 0 ≤ x) (h : x < n) : pw r (s + t) x = pw r s (pw r t x) := by
  have := o.pw_only (g := fun s => pw r (s + t) x) (fun s => o.pw_rng _ h0 h) (fun s => by
    have := o.pw_succ (s + t) h0 h
    show pw r (s + 1 + t) x = _
    rw [show s + 1 + t = s + t + 1 by omega, this]) s
  simpa using this
theorem Ord.pw_inv (o : Ord n r) (t : Int) {x : Int} (h0 : 0 ≤ x) (h : x < n) : pw r t (inv r x) = inv r (pw r t x) := by
  have e1 : inv r x = pw r (-1) x := rfl
  have h1 := o.pw_rng t h0 h
  have e2 : inv r (pw r t x) = pw r (-1) (pw r t x) := rfl
  rw [e1, e2, ← o.pw_add _ _ h0 h, ← o.pw_add _ _ h0 h, Int.add_comm]
theorem Ord.pw_conj (o : Ord n r) {r' : List Int} (o' : Ord n r') {sg : Int → Int} (hs : ∀ x : Int, 0 ≤ x → x < n → 0 ≤ sg x ∧ sg x < n) (hc : ∀ x : Int, 0 ≤ x → x < n → D8.it r' (sg x) = sg (D8.it r x)) (t : Int) {x : Int} (h0 : 0 ≤ x) (h : x < n) : pw r' t (sg x) = sg (pw r t x) := by
  have := o'.pw_only (g := fun t => sg (pw r t x)) (fun t => by have := o.pw_rng t h0 h; exact hs _ this.1 this.2) (fun t => by
    have h1 := o.pw_rng t h0 h
    show sg (pw r (t + 1) x) = _
    rw [o.pw_succ t h0 h, hc _ h1.1 h1.2]) t
  exact this.symm
theorem Ord.pw_back (o : Ord n r) (t : Int) {x : Int} (h0 : 0 ≤ x) (h : x < n) : pw r t (pw r (-t) x) = x := by
  rw [← o.pw_add _ _ h0 h, show t + -t = 0 by omega]; rfl
theorem Ord.pw_back' (o : Ord n r) (t : Int) {x : Int} (h0 : 0 ≤ x) (h : x < n) : pw r (-t) (pw r t x) = x := by
  rw [← o.pw_add _ _ h0 h, show -t + t = 0 by omega]; rfl
/-- an order of a function that has a way back -/
theorem ord_of {a : List Int} {g : Int → Int} (la : a.length = n) (hr : ∀ x : Int, 0 ≤ x → x < n → 0 ≤ D8.it a x ∧ D8.it a x < n) (hg : ∀ x : Int, 0 ≤ x → x < n → g (D8.it a x) = x) : Ord n a := by
  refine ⟨la, fun x hx => ?_, ?_⟩
  · obtain ⟨k, hk, e⟩ := List.mem_iff_getElem.mp hx
    have := hr k (by omega) (by omega)
    rw [it_get hk, e] at this
    exact this
  · rw [List.nodup_iff_pairwise_ne, List.pairwise_iff_getElem]
    intro i j hi hj hij e
    have h1 := hg i (by omega) (by omega)
    have h2 := hg j (by omega) (by omega)
    rw [it_get hi, e, ← it_get hj, h2] at h1
    omega
/-! ### shears -/
def after (u : List Int) (r : List Int) (t : Int) : List Int := u.map (pw r t)
theorem after_it {u : List Int} (ou : Ord n u) {t : Int} {x : Int} (h0 : 0 ≤ x) (h : x < n) : D8.it (after u r t) x = pw r t (D8.it u x) := it_map ou.len h0 h
theorem Ord.after (o : Ord n r) {u : List Int} (ou : Ord n u) (t : Int) : Ord n (D8.after u r t) :=
  ord_of (g := fun y => inv u (pw r (-t) y)) (by rw [D8.after, List.length_map, ou.len]) (fun x h0 h => by
    rw [after_it ou h0 h]; have := ou.it h0 h; exact o.pw_rng _ this.1 this.2) fun x h0 h => by
    have := ou.it h0 h
    show inv u (pw r (-t) _) = x
    rw [after_it ou h0 h, o.pw_back' t this.1 this.2, ou.inv_it h0 h]
theorem after_after (o : Ord n r) {u : List Int} (ou : Ord n u) (t : Int) : D8.after (D8.after u r t) r (-t) = u :=
  it_ext (n := n) (by simp [D8.after, ou.len]) ou.len fun x h0 h => by
    have := ou.it h0 h
    rw [after_it (o.after ou t) h0 h, after_it ou h0 h, o.pw_back' t this.1 this.2]
/-- a floor: right and up -/
abbrev Flo := List Int × List Int
def Okf (n : Nat) (F : Flo) : Prop := Ord n F.1 ∧ Ord n F.2
def sh (F : Flo) (l : Bool × Int) : Flo := if l.1 = true then (F.1, after F.2 F.1 (-l.2)) else (after F.1 F.2 (-l.2), F.2)
def shs (F : Flo) (w : List (Bool × Int)) : Flo := w.foldl sh F
def bkw (w : List (Bool × Int)) : List (Bool × Int) := w.reverse.map fun l => (l.1, -l.2)
theorem Okf.sh {F : Flo} (h : Okf n F) (l : Bool × Int) : Okf n (D8.sh F l) := by
  unfold D8.sh
  split
  · exact ⟨h.1, h.1.after h.2 _⟩
  · exact ⟨h.2.after h.1 _, h.2⟩
theorem Okf.shs {F : Flo} (h : Okf n F) (w : List (Bool × Int)) : Okf n (D8.shs F w) := by
  induction w generalizing F with
  | nil => exact h
  | cons l w ih => exact ih (h.sh l)
theorem sh_back {F : Flo} (h : Okf n F) (l : Bool × Int) : sh (sh F l) (l.1, -l.2) = F := by
  obtain ⟨a, b⟩ := F
  obtain ⟨w, t⟩ := l
  cases w with
  | true =>
    have := after_after h.1 h.2 (-t)
    simp only [sh, if_true]
    simp only [Int.neg_neg] at this ⊢
    rw [this]
  | false =>
    have := after_after h.2 h.1 (-t)
    simp only [sh, Bool.false_eq_true, if_false]
    simp only [Int.neg_neg] at this ⊢
    rw [this]
theorem shs_append {F : Flo} {v w : List (Bool × Int)} : shs F (v ++ w) = shs (shs F v) w := List.foldl_append
theorem shs_back {F : Flo} (h : Okf n F) (w : List (Bool × Int)) : shs (shs F w) (bkw w) = F := by
  induction w generalizing F with
  | nil => rfl
  | cons l w ih =>
    show shs (shs (sh F l) w) (bkw (l :: w)) = F
    rw [bkw, List.reverse_cons, List.map_append, shs_append]
    rw [show w.reverse.map (fun l => (l.1, -l.2)) = bkw w from rfl, ih (h.sh l)]
    exact sh_back h l
/-- the corners' order -/
def corn (F : Flo) (x : Int) : Int := inv F.2 (inv F.1 (it F.2 (it F.1 x)))
theorem inv_after (o : Ord n r) {u : List Int} (ou : Ord n u) (t : Int) {y : Int} (h0 : 0 ≤ y) (h : y < n) : inv (D8.after u r t) y = inv u (pw r (-t) y) := by
  have oa := o.after ou t
  have h1 := o.pw_rng (-t) h0 h
  have h2 := ou.inv_rng h1.1 h1.2
  have h3 := oa.inv_rng h0 h
  refine oa.inj h3.1 h3.2 h2.1 h2.2 ?_
  rw [oa.it_inv h0 h, after_it ou h2.1 h2.2, ou.it_inv h1.1 h1.2, o.pw_back t h0 h]
theorem corn_sh {F : Flo} (h : Okf n F) (l : Bool × Int) {x : Int} (h0 : 0 ≤ x) (hx : x < n) : corn (sh F l) x = corn F x := by
  obtain ⟨a, b⟩ := F
  obtain ⟨oa, ob⟩ := h
  obtain ⟨w, t⟩ := l
  have h1 := oa.it h0 hx
  have h2 := ob.it h1.1 h1.2
  have h3 := oa.inv_rng h2.1 h2.2
  simp only at oa ob h1 h2 h3
  cases w with
  | true =>
    simp only [sh, if_true, corn]
    have h4 := oa.pw_rng (-t) h2.1 h2.2
    have h5 := oa.inv_rng h4.1 h4.2
    rw [after_it ob h1.1 h1.2, inv_after oa ob (-t) h5.1 h5.2, oa.pw_inv (- -t) h4.1 h4.2, oa.pw_back' (-t) h2.1 h2.2]
  | false =>
    simp only [sh, Bool.false_eq_true, if_false, corn]
    have h4 := ob.pw_rng (-t) h1.1 h1.2
    have h5 := ob.it h4.1 h4.2
    rw [after_it oa h0 hx, inv_after ob oa (-t) h5.1 h5.2]
    congr 2
    have e : it b (pw b (-t) (it a x)) = pw b (-t) (it b (it a x)) := by
      have e1 := ob.pw_succ (-t) h1.1 h1.2
      have e2 := ob.pw_add (-t) 1 h1.1 h1.2
      have e3 : pw b 1 (it a x) = it b (it a x) := rfl
      rw [← e1, ← e3, ← e2]
    rw [e, ob.pw_back' (-t) h2.1 h2.2]
theorem corn_shs {F : Flo} (h : Okf n F) (w : List (Bool × Int)) {x : Int} (h0 : 0 ≤ x) (hx : x < n) : corn (shs F w) x = corn F x := by
  induction w generalizing F with
  | nil => rfl
  | cons l w ih => exact (ih (h.sh l)).trans (corn_sh h l h0 hx)
/-! ### called otherwise -/
structure Cal (n : Nat) (nm a b : List Int) : Prop where
  len : b.length = n
  go : ∀ x : Int, 0 ≤ x → x < n → it b (it nm x) = it nm (it a x)
theorem Cal.ord {nm a b : List Int} (on : Ord n nm) (oa : Ord n a) (c : Cal n nm a b) : Ord n b :=
  ord_of (g := fun y => it nm (inv a (inv nm y))) c.len (fun y h0 h => by
    obtain ⟨x', _, x1', e⟩ := on.sur h0 h
    obtain ⟨x, x0, x1, rfl⟩ : ∃ x : Int, 0 ≤ x ∧ x < n ∧ it nm x = y := ⟨x', by omega, by omega, e⟩
    rw [c.go x x0 x1]
    have := oa.it x0 x1
    exact on.it this.1 this.2) fun y h0 h => by
    obtain ⟨x', _, x1', e⟩ := on.sur h0 h
    obtain ⟨x, x0, x1, rfl⟩ : ∃ x : Int, 0 ≤ x ∧ x < n ∧ it nm x = y := ⟨x', by omega, by omega, e⟩
    have := oa.it x0 x1
    show it nm (inv a (inv nm _)) = _
    rw [c.go x x0 x1, on.inv_it this.1 this.2, oa.inv_it x0 x1]
theorem Cal.only {nm a b b' : List Int} (on : Ord n nm) (c : Cal n nm a b) (c' : Cal n nm a b') : b = b' :=
  it_ext c.len c'.len fun y h0 h => by
    obtain ⟨x', _, x1', e⟩ := on.sur h0 h
    obtain ⟨x, x0, x1, rfl⟩ : ∃ x : Int, 0 ≤ x ∧ x < n ∧ it nm x = y := ⟨x', by omega, by omega, e⟩
    rw [c.go x x0 x1, c'.go x x0 x1]
theorem Cal.after {nm a b a' b' : List Int} (on : Ord n nm) (oa : Ord n a) (ob : Ord n b) (ca : Cal n nm a a') (cb : Cal n nm b b') (t : Int) : Cal n nm (D8.after b a t) (D8.after b' a' t) := by
  have oa' := ca.ord on oa
  have ob' := cb.ord on ob
  refine ⟨by simp [D8.after, cb.len], fun x x0 x1 => ?_⟩
  have h1 := on.it x0 x1
  have h2 := ob.it x0 x1
  rw [after_it ob' h1.1 h1.2, cb.go x x0 x1, after_it ob x0 x1]
  exact oa.pw_conj oa' (sg := it nm) (fun y y0 y1 => on.it y0 y1) (fun y y0 y1 => ca.go y y0 y1) t h2.1 h2.2
def CalF (n : Nat) (nm : List Int) (F G : Flo) : Prop := Cal n nm F.1 G.1 ∧ Cal n nm F.2 G.2
theorem CalF.sh {nm : List Int} {F G : Flo} (on : Ord n nm) (h : Okf n F) (c : CalF n nm F G) (l : Bool × Int) : CalF n nm (D8.sh F l) (D8.sh G l) := by
  unfold D8.sh
  split
  · exact ⟨c.1, c.1.after on h.1 h.2 c.2 _⟩
  · exact ⟨c.2.after on h.2 h.1 c.1 _, c.2⟩
theorem CalF.shs {nm : List Int} {F G : Flo} (on : Ord n nm) (h : Okf n F) (c : CalF n nm F G) (w : List (Bool × Int)) : CalF n nm (D8.shs F w) (D8.shs G w) := by
  induction w generalizing F G with
  | nil => exact c
  | cons l w ih => exact ih (h.sh l) (c.sh on h l)
theorem CalF.only {nm : List Int} {F G G' : Flo} (on : Ord n nm) (c : CalF n nm F G) (c' : CalF n nm F G') : G = G' := Prod.ext (c.1.only on c'.1) (c.2.only on c'.2)
end
end D8

namespace K03
open PySem PySem.Spec PyProof.Rows L2 D8
def topS (i : Nat) : Stmt := PySem.Challenge.pw_squarefloors_k03_whole_main_least.main.body.getD i (.Pass ⟨0, 0, 0, 0⟩)
def Pk : List (Nat × Nat × List Str) := [(0, 0, ["naming", "floor"]), (1, 0, ["square", "floor"]), (2, 0, ["floor"]), (6, 0, ["floor"]), (4, 0, ["other", "one"]), (5, 0, ["other", "one"])]
def Cs : List (Str × PyData) := []
abbrev s0 : Stmt := topS 1
def B0 : Ss := (.cons (.asg (.nm 2) (.lst .nil)) (.cons (.loop (.nm 3) .one (.cons (.nm 0) .nil) (.cons (.asg (.nm 4) (.pr .mul (.cons (.lsf (.cons (.cs (.int 0)) .nil)) (.cons (.pr .len (.cons (.nm 3) .nil)) .nil)))) (.cons (.loop (.tp (.cons (.nm 5) (.cons (.nm 6) .nil))) .en (.cons (.nm 3) .nil) (.cons (.asg (.ix 4 .nil (.pr .idx (.cons (.nm 1) (.cons (.nm 5) .nil)))) (.pr .idx (.cons (.nm 1) (.cons (.nm 6) .nil)))) .nil)) (.cons (.ex (.mt .append 2 (.cons (.pr .tupO (.cons (.nm 4) .nil)) .nil))) .nil)))) (.cons (.ret (.pr .tupO (.cons (.nm 2) .nil))) .nil)))
def d0 : TD := ⟨"renamed", ["floor", "naming"], ["floor", "naming", "found", "order", "own", "square", "goal"], s0, B0⟩
abbrev s1 : Stmt := topS 2
def B1 : Ss := (.cons (.asg (.tp (.cons (.nm 2) (.cons (.nm 3) .nil))) (.nm 0)) (.cons (.par [(.nm 4), (.nm 5)] (.cons (.dct (.cons (.nm 1) (.cons (.cs (.int 0)) .nil))) (.cons (.lsf (.cons (.nm 1) .nil)) .nil))) (.cons (.loop (.nm 6) .rg1 (.cons (.pr .len (.cons (.nm 2) .nil)) .nil) (.cons (.loop (.nm 7) .one (.cons (.tup (.cons (.pr .idx (.cons (.nm 2) (.cons (.pr .idx (.cons (.nm 5) (.cons (.nm 6) .nil))) .nil))) (.cons (.pr .idx (.cons (.nm 3) (.cons (.pr .idx (.cons (.nm 5) (.cons (.nm 6) .nil))) .nil))) .nil))) .nil) (.cons (.ite (.pr .nin (.cons (.nm 7) (.cons (.nm 4) .nil))) (.cons (.asg (.ix 4 .nil (.nm 7)) (.pr .len (.cons (.nm 5) .nil))) (.cons (.ex (.mt .append 5 (.cons (.nm 7) .nil))) .nil)) .nil) .nil)) .nil)) (.cons (.ret (.pr .tupO (.cons (.lc [8, 6] (.nm 6) .rg1 (.cons (.pr .len (.cons (.nm 2) .nil)) .nil) none (.pr .idx (.cons (.nm 4) (.cons (.nm 6) .nil)))) .nil))) .nil))))
def d1 : TD := ⟨"walked_names", ["floor", "square"], ["floor", "square", "right", "up", "names", "here", "own", "goal", ".0"], s1, B1⟩
abbrev s2 : Stmt := topS 3
def B2 : Ss := (.cons (.ret (.pr .min1 (.cons (.lc [1, 2] (.nm 2) .rg1 (.cons (.qt (.pr .len (.cons (.pr .idx (.cons (.nm 0) (.cons (.cs (.int 0)) .nil))) .nil))) .nil) none (.call 0 (.cons (.nm 0) (.cons (.call 1 (.cons (.nm 0) (.cons (.nm 2) .nil))) .nil)))) .nil))) .nil)
def d2 : TD := ⟨"least_floor", ["floor"], ["floor", ".0", "square"], s2, B2⟩
abbrev s3 : Stmt := topS 4
def B3 : Ss := (.cons (.par [(.nm 3), (.nm 4)] (.cons (.dct (.cons (.cs (.int 0)) (.cons (.nm 2) .nil))) (.cons (.lsf (.cons (.cs (.int 0)) .nil)) .nil))) (.cons (.whl (.pr .ne (.cons (.nm 4) (.cons (.lst .nil) .nil))) (.cons (.asg (.nm 5) (.mt .pop0 4 .nil)) (.cons (.loop (.tp (.cons (.nm 6) (.cons (.nm 7) .nil))) .zp (.cons (.nm 0) (.cons (.nm 1) .nil)) (.cons (.par [(.nm 8), (.nm 9)] (.cons (.pr .idx (.cons (.nm 6) (.cons (.nm 5) .nil))) (.cons (.pr .idx (.cons (.nm 7) (.cons (.pr .idx (.cons (.nm 3) (.cons (.nm 5) .nil))) .nil))) .nil))) (.cons (.ite (.pr .nin (.cons (.nm 8) (.cons (.nm 3) .nil))) (.cons (.asg (.ix 3 .nil (.nm 8)) (.nm 9)) (.cons (.ex (.mt .append 4 (.cons (.nm 8) .nil))) .nil)) (.cons (.ite (.qt (.pr .ne (.cons (.pr .idx (.cons (.nm 3) (.cons (.nm 8) .nil))) (.cons (.nm 9) .nil)))) (.cons (.ret (.cs .none)) .nil) .nil) .nil)) .nil))) .nil))) (.cons (.ret (.pr .tupO (.cons (.lc [10, 5] (.nm 5) .rg1 (.cons (.qt (.pr .len (.cons (.pr .idx (.cons (.nm 0) (.cons (.cs (.int 0)) .nil))) .nil))) .nil) none (.pr .idx (.cons (.nm 3) (.cons (.nm 5) .nil)))) .nil))) .nil)))
def d3 : TD := ⟨"naming_from", ["one", "other", "goal"], ["one", "other", "goal", "names", "ahead", "square", "first", "second", "end", "due", ".0"], s3, B3⟩
abbrev s4 : Stmt := topS 5
def B4 : Ss := (.cons (.ite (.pr .ne (.cons (.qt (.pr .len (.cons (.pr .idx (.cons (.nm 0) (.cons (.cs (.int 0)) .nil))) .nil))) (.cons (.qt (.pr .len (.cons (.pr .idx (.cons (.nm 1) (.cons (.cs (.int 0)) .nil))) .nil))) .nil))) (.cons (.ret (.tup .nil)) .nil) .nil) (.cons (.asg (.nm 2) (.lc [3, 4] (.nm 4) .rg1 (.cons (.qt (.pr .len (.cons (.pr .idx (.cons (.nm 0) (.cons (.cs (.int 0)) .nil))) .nil))) .nil) none (.call 3 (.cons (.nm 0) (.cons (.nm 1) (.cons (.nm 4) .nil)))))) (.cons (.ret (.pr .tupO (.cons (.pr .sorted (.cons (.lc [3, 5] (.nm 5) .one (.cons (.nm 2) .nil) (some (.pr .noN (.cons (.nm 5) (.cons (.cs .none) .nil)))) (.nm 5)) .nil)) .nil))) .nil)))
def d4 : TD := ⟨"alike_names", ["one", "other"], ["one", "other", "found", ".0", "goal", "naming"], s4, B4⟩
abbrev s5 : Stmt := topS 6
def B5 : Ss := (.cons (.ret (.pr .ne (.cons (.call 4 (.cons (.nm 0) (.cons (.nm 1) .nil))) (.cons (.tup .nil) .nil)))) .nil)
def d5 : TD := ⟨"are_alike", ["one", "other"], ["one", "other"], s5, B5⟩
abbrev s6 : Stmt := topS 7
def B6 : Ss := (.cons (.ret (.call 4 (.cons (.nm 0) (.cons (.nm 0) .nil)))) .nil)
def d6 : TD := ⟨"keeping_names", ["floor"], ["floor"], s6, B6⟩
abbrev s7 : Stmt := topS 9
def B7 : Ss := (.cons (.par [(.nm 2), (.nm 3)] (.cons (.lc [4, 1] (.nm 1) .one (.cons (.pr (.sl false true) (.cons (.nm 0) (.cons (.cs (.int 63)) .nil))) .nil) none (.pr .add (.cons (.pr .mul (.cons (.cs (.int 2)) (.cons (.pr .abs (.cons (.nm 1) .nil)) .nil))) (.cons (.pr .int (.cons (.pr .lt (.cons (.nm 1) (.cons (.cs (.int 0)) .nil))) .nil)) .nil)))) (.cons (.pr .add (.cons (.cs (.int 17534)) (.cons (.pr .mul (.cons (.cs (.int 79)) (.cons (.pr .len (.cons (.nm 0) .nil)) .nil))) .nil))) .nil))) (.cons (.loop (.nm 1) .one (.cons (.nm 2) .nil) (.cons (.asg (.nm 3) (.pr .mod (.cons (.pr .add (.cons (.pr .add (.cons (.pr .mul (.cons (.nm 3) (.cons (.cs (.int 69069)) .nil))) (.cons (.nm 1) .nil))) (.cons (.cs (.int 11)) .nil))) (.cons (.cs (.int 4294967291)) .nil)))) .nil)) (.cons (.ret (.lst (.cons (.lc [4, 1] (.nm 1) .one (.cons (.nm 2) .nil) (some (.pr .gt (.cons (.nm 1) (.cons (.pr .pow (.cons (.cs (.int 10)) (.cons (.cs (.int 12)) .nil))) .nil)))) (.nm 1)) (.cons (.nm 3) (.cons (.cs (.int 0)) .nil))))) .nil)))
def d7 : TD := ⟨"_law_pot", ["script"], ["script", "cell", "cells", "mixed", ".0"], s7, B7⟩
abbrev s8 : Stmt := topS 10
def B8 : Ss := (.cons (.ite (.pr .lt (.cons (.nm 1) (.cons (.cs (.int 2)) .nil))) (.cons (.ret (.cs (.int 0))) .nil) .nil) (.cons (.ite (.qt (.pr .ne (.cons (.pr .idx (.cons (.nm 0) (.cons (.cs (.int 0)) .nil))) (.cons (.lst .nil) .nil)))) (.cons (.asg (.nm 2) (.mp .pop0 0 (.cons (.cs (.int 0)) .nil) .nil)) (.cons (.ite (.pr .ge (.cons (.nm 2) (.cons (.nm 1) .nil))) (.cons (.ex (.mp .append 0 (.cons (.cs (.int 0)) .nil) (.cons (.pr .fdiv (.cons (.nm 2) (.cons (.nm 1) .nil))) .nil))) .nil) .nil) (.cons (.ret (.pr .mod (.cons (.nm 2) (.cons (.nm 1) .nil)))) .nil))) .nil) (.cons (.asg (.ix 0 .nil (.cs (.int 2))) (.pr .add (.cons (.pr .idx (.cons (.nm 0) (.cons (.cs (.int 2)) .nil))) (.cons (.cs (.int 1)) .nil)))) (.cons (.asg (.nm 3) (.pr .mod (.cons (.pr .add (.cons (.pr .idx (.cons (.nm 0) (.cons (.cs (.int 1)) .nil))) (.cons (.pr .mul (.cons (.pr .idx (.cons (.nm 0) (.cons (.cs (.int 2)) .nil))) (.cons (.cs (.int 2654435761)) .nil))) .nil))) (.cons (.cs (.int 4294967279)) .nil)))) (.cons (.asg (.nm 3) (.pr .mod (.cons (.pr .add (.cons (.pr .add (.cons (.pr .mul (.cons (.nm 3) (.cons (.nm 3) .nil))) (.cons (.pr .mul (.cons (.pr .idx (.cons (.nm 0) (.cons (.cs (.int 2)) .nil))) (.cons (.cs (.int 40503)) .nil))) .nil))) (.cons (.cs (.int 5)) .nil))) (.cons (.cs (.int 4294967231)) .nil)))) (.cons (.asg (.nm 3) (.pr .mod (.cons (.pr .add (.cons (.pr .mul (.cons (.nm 3) (.cons (.nm 3) .nil))) (.cons (.pr .idx (.cons (.nm 0) (.cons (.cs (.int 1)) .nil))) .nil))) (.cons (.cs (.int 4294967291)) .nil)))) (.cons (.ret (.pr .mod (.cons (.pr .fdiv (.cons (.nm 3) (.cons (.cs (.int 256)) .nil))) (.cons (.nm 1) .nil)))) .nil)))))))
def d8 : TD := ⟨"_law_of", ["pot", "many"], ["pot", "many", "cell", "number"], s8, B8⟩
abbrev s9 : Stmt := topS 11
def B9 : Ss := (.cons (.ret (.pr .idx (.cons (.nm 1) (.cons (.call 8 (.cons (.nm 0) (.cons (.pr .len (.cons (.nm 1) .nil)) .nil))) .nil)))) .nil)
def d9 : TD := ⟨"_law_one", ["pot", "items"], ["pot", "items"], s9, B9⟩
abbrev s10 : Stmt := topS 12
def B10 : Ss := (.cons (.par [(.nm 2), (.nm 3)] (.cons (.pr .lstO (.cons (.nm 1) .nil)) (.cons (.lst .nil) .nil))) (.cons (.whl (.pr .ne (.cons (.nm 2) (.cons (.lst .nil) .nil))) (.cons (.ex (.mt .append 3 (.cons (.mt .pop1 2 (.cons (.call 8 (.cons (.nm 0) (.cons (.pr .len (.cons (.nm 2) .nil)) .nil))) .nil)) .nil))) .nil)) (.cons (.ret (.mv 3)) .nil)))
def d10 : TD := ⟨"_law_order", ["pot", "row"], ["pot", "row", "left", "found"], s10, B10⟩
abbrev s11 : Stmt := topS 13
def B11 : Ss := (.cons (.asg (.nm 1) (.pr .mul (.cons (.lsf (.cons (.cs (.int 0)) .nil)) (.cons (.pr .len (.cons (.nm 0) .nil)) .nil)))) (.cons (.loop (.tp (.cons (.nm 2) (.cons (.nm 3) .nil))) .en (.cons (.nm 0) .nil) (.cons (.asg (.ix 1 .nil (.nm 3)) (.nm 2)) .nil)) (.cons (.ret (.pr .tupO (.cons (.nm 1) .nil))) .nil)))
def d11 : TD := ⟨"_law_back", ["order"], ["order", "found", "i", "own"], s11, B11⟩
abbrev s12 : Stmt := topS 14
def B12 : Ss := (.cons (.par [(.nm 3), (.nm 4)] (.cons (.lsf (.cons (.nm 2) .nil)) (.cons (.cs (.int 0)) .nil))) (.cons (.whl (.pr .lt (.cons (.nm 4) (.cons (.pr .len (.cons (.nm 3) .nil)) .nil))) (.cons (.loop (.nm 5) .one (.cons (.tup (.cons (.pr .idx (.cons (.nm 0) (.cons (.pr .idx (.cons (.nm 3) (.cons (.nm 4) .nil))) .nil))) (.cons (.pr .idx (.cons (.nm 1) (.cons (.pr .idx (.cons (.nm 3) (.cons (.nm 4) .nil))) .nil))) .nil))) .nil) (.cons (.ite (.pr .nin (.cons (.nm 5) (.cons (.nm 3) .nil))) (.cons (.ex (.mt .append 3 (.cons (.nm 5) .nil))) .nil) .nil) .nil)) (.cons (.asg (.nm 4) (.pr .add (.cons (.nm 4) (.cons (.cs (.int 1)) .nil)))) .nil))) (.cons (.ret (.mv 3)) .nil)))
def d12 : TD := ⟨"_law_reached", ["right", "up", "square"], ["right", "up", "square", "found", "place", "own"], s12, B12⟩
abbrev s13 : Stmt := topS 15
def B13 : Ss := (.cons (.par [(.nm 2), (.nm 3)] (.cons (.pr .add (.cons (.cs (.int 1)) (.cons (.call 8 (.cons (.nm 0) (.cons (.nm 1) .nil))) .nil))) (.cons (.call 8 (.cons (.nm 0) (.cons (.cs (.int 6)) .nil))) .nil))) (.cons (.par [(.nm 4), (.nm 5)] (.cons (.call 10 (.cons (.nm 0) (.cons (.pr .rgL1 (.cons (.nm 2) .nil)) .nil))) (.cons (.call 10 (.cons (.nm 0) (.cons (.pr .rgL1 (.cons (.nm 2) .nil)) .nil))) .nil))) (.cons (.ite (.pr .eq (.cons (.nm 3) (.cons (.cs (.int 0)) .nil))) (.cons (.asg (.nm 4) (.pr .add (.cons (.pr .rgL2 (.cons (.cs (.int 1)) (.cons (.nm 2) .nil))) (.cons (.lsf (.cons (.cs (.int 0)) .nil)) .nil)))) .nil) .nil) (.cons (.ite (.pr .eq (.cons (.nm 3) (.cons (.cs (.int 1)) .nil))) (.cons (.asg (.nm 6) (.call 9 (.cons (.nm 0) (.cons (.call 14 (.cons (.nm 2) .nil)) .nil)))) (.cons (.asg (.nm 4) (.lc [13, 14] (.nm 14) .rg1 (.cons (.nm 2) .nil) none (.pr .add (.cons (.pr .sub (.cons (.nm 14) (.cons (.pr .mod (.cons (.nm 14) (.cons (.nm 6) .nil))) .nil))) (.cons (.pr .mod (.cons (.pr .int (.cons (.pr .add (.cons (.nm 14) (.cons (.cs (.int 1)) .nil))) .nil)) (.cons (.nm 6) .nil))) .nil))))) (.cons (.asg (.nm 7) (.call 8 (.cons (.nm 0) (.cons (.nm 6) .nil)))) (.cons (.asg (.nm 5) (.lc [13, 14] (.nm 14) .rg1 (.cons (.nm 2) .nil) none (.ite (.pr .lt (.cons (.pr .add (.cons (.nm 14) (.cons (.nm 6) .nil))) (.cons (.nm 2) .nil))) (.pr .add (.cons (.nm 14) (.cons (.nm 6) .nil))) (.pr .mod (.cons (.pr .int (.cons (.pr .add (.cons (.nm 14) (.cons (.nm 7) .nil))) .nil)) (.cons (.nm 6) .nil)))))) .nil)))) .nil) (.cons (.ite (.pr .eq (.cons (.nm 3) (.cons (.cs (.int 2)) .nil))) (.cons (.asg (.nm 5) (.pr .rgL1 (.cons (.nm 2) .nil))) (.cons (.asg (.nm 4) (.pr .add (.cons (.pr .rgL2 (.cons (.cs (.int 1)) (.cons (.nm 2) .nil))) (.cons (.lsf (.cons (.cs (.int 0)) .nil)) .nil)))) (.cons (.ite (.pr .gt (.cons (.nm 2) (.cons (.cs (.int 1)) .nil))) (.cons (.par [(.nm 8), (.nm 9)] (.cons (.call 8 (.cons (.nm 0) (.cons (.nm 2) .nil))) (.cons (.call 8 (.cons (.nm 0) (.cons (.nm 2) .nil))) .nil))) (.cons (.par [(.ix 5 .nil (.nm 8)), (.ix 5 .nil (.nm 9))] (.cons (.pr .idx (.cons (.nm 5) (.cons (.nm 9) .nil))) (.cons (.pr .idx (.cons (.nm 5) (.cons (.nm 8) .nil))) .nil))) .nil)) .nil) .nil))) .nil) (.cons (.asg (.nm 10) (.call 12 (.cons (.nm 4) (.cons (.nm 5) (.cons (.call 8 (.cons (.nm 0) (.cons (.nm 2) .nil))) .nil))))) (.cons (.asg (.nm 11) (.lc [13, 15] (.nm 15) .one (.cons (.tup (.cons (.nm 4) (.cons (.nm 5) .nil))) .nil) none (.lc [13, 16] (.nm 16) .one (.cons (.nm 10) .nil) none (.ixm (.cons (.nm 10) .nil) (.pr .idx (.cons (.nm 15) (.cons (.nm 16) .nil))))))) (.cons (.asg (.nm 12) (.call 10 (.cons (.nm 0) (.cons (.pr .rgL1 (.cons (.pr .len (.cons (.nm 10) .nil)) .nil)) .nil)))) (.cons (.ret (.call 15 (.cons (.tup (.cons (.qt (.pr .tupO (.cons (.pr .idx (.cons (.nm 11) (.cons (.cs (.int 0)) .nil))) .nil))) (.cons (.qt (.pr .tupO (.cons (.pr .idx (.cons (.nm 11) (.cons (.cs (.int 1)) .nil))) .nil))) .nil))) (.cons (.nm 12) .nil)))) .nil)))))))))
def d13 : TD := ⟨"_law_floor", ["pot", "most"], ["pot", "most", "n", "way", "right", "up", "a", "twist", "i", "j", "names", "found", "order", ".0", "x", "row", "own"], s13, B13⟩
abbrev s14 : Stmt := topS 16
def B14 : Ss := (.cons (.ret (.lc [1, 2] (.nm 2) .rg2 (.cons (.cs (.int 1)) (.cons (.pr .add (.cons (.nm 0) (.cons (.cs (.int 1)) .nil))) .nil)) (some (.pr .eq (.cons (.pr .mod (.cons (.pr .int (.cons (.nm 0) .nil)) (.cons (.nm 2) .nil))) (.cons (.cs (.int 0)) .nil)))) (.nm 2))) .nil)
def d14 : TD := ⟨"_law_divisors", ["n"], ["n", ".0", "d"], s14, B14⟩
abbrev s15 : Stmt := topS 17
def B15 : Ss := (.cons (.asg (.nm 2) (.lst .nil)) (.cons (.loop (.nm 3) .one (.cons (.nm 0) .nil) (.cons (.asg (.nm 4) (.pr .mul (.cons (.lsf (.cons (.cs (.int 0)) .nil)) (.cons (.pr .len (.cons (.nm 3) .nil)) .nil)))) (.cons (.loop (.tp (.cons (.nm 5) (.cons (.nm 6) .nil))) .en (.cons (.nm 3) .nil) (.cons (.asg (.ix 4 .nil (.pr .idx (.cons (.nm 1) (.cons (.nm 5) .nil)))) (.pr .idx (.cons (.nm 1) (.cons (.nm 6) .nil)))) .nil)) (.cons (.ex (.mt .append 2 (.cons (.pr .tupO (.cons (.nm 4) .nil)) .nil))) .nil)))) (.cons (.ret (.tup (.cons (.pr .idx (.cons (.nm 2) (.cons (.cs (.int 0)) .nil))) (.cons (.pr .idx (.cons (.nm 2) (.cons (.cs (.int 1)) .nil))) .nil)))) .nil)))
def d15 : TD := ⟨"_law_called", ["floor", "naming"], ["floor", "naming", "rows", "row", "found", "s", "own"], s15, B15⟩
abbrev s16 : Stmt := topS 18
def B16 : Ss := (.cons (.ret (.call 11 (.cons (.call 12 (.cons (.pr .idx (.cons (.nm 0) (.cons (.cs (.int 0)) .nil))) (.cons (.pr .idx (.cons (.nm 0) (.cons (.cs (.int 1)) .nil))) (.cons (.nm 1) .nil)))) .nil))) .nil)
def d16 : TD := ⟨"_law_walked", ["floor", "square"], ["floor", "square"], s16, B16⟩
abbrev s17 : Stmt := topS 19
def B17 : Ss := (.cons (.ret (.pr .min1 (.cons (.lc [1, 2] (.nm 2) .rg1 (.cons (.qt (.pr .len (.cons (.pr .idx (.cons (.nm 0) (.cons (.cs (.int 0)) .nil))) .nil))) .nil) none (.call 15 (.cons (.nm 0) (.cons (.call 16 (.cons (.nm 0) (.cons (.nm 2) .nil))) .nil)))) .nil))) .nil)
def d17 : TD := ⟨"_law_least", ["floor"], ["floor", ".0", "s"], s17, B17⟩
abbrev s18 : Stmt := topS 20
def B18 : Ss := (.cons (.par [(.nm 3), (.nm 4)] (.cons (.dct (.cons (.cs (.int 0)) (.cons (.nm 2) .nil))) (.cons (.lsf (.cons (.cs (.int 0)) .nil)) .nil))) (.cons (.whl (.pr .ne (.cons (.nm 4) (.cons (.lst .nil) .nil))) (.cons (.asg (.nm 5) (.mt .pop0 4 .nil)) (.cons (.loop (.tp (.cons (.nm 6) (.cons (.nm 7) .nil))) .zp (.cons (.nm 0) (.cons (.nm 1) .nil)) (.cons (.asg (.nm 8) (.pr .idx (.cons (.nm 7) (.cons (.pr .idx (.cons (.nm 3) (.cons (.nm 5) .nil))) .nil)))) (.cons (.ite (.pr .ne (.cons (.get (.cons (.nm 3) .nil) (.pr .idx (.cons (.nm 6) (.cons (.nm 5) .nil))) (.nm 8)) (.cons (.nm 8) .nil))) (.cons (.ret (.cs .none)) .nil) .nil) (.cons (.ite (.qt (.pr .nin (.cons (.pr .idx (.cons (.nm 6) (.cons (.nm 5) .nil))) (.cons (.nm 3) .nil)))) (.cons (.asg (.ix 3 .nil (.pr .idx (.cons (.nm 6) (.cons (.nm 5) .nil)))) (.nm 8)) (.cons (.ex (.mt .append 4 (.cons (.pr .idx (.cons (.nm 6) (.cons (.nm 5) .nil))) .nil))) .nil)) .nil) .nil)))) .nil))) (.cons (.asg (.nm 9) (.pr .tupO (.cons (.lc [10, 5] (.nm 5) .rg1 (.cons (.qt (.pr .len (.cons (.pr .idx (.cons (.nm 0) (.cons (.cs (.int 0)) .nil))) .nil))) .nil) none (.pr .idx (.cons (.nm 3) (.cons (.nm 5) .nil)))) .nil))) (.cons (.ret (.ite (.pr .eq (.cons (.pr .sorted (.cons (.nm 9) .nil)) (.cons (.pr .rgL1 (.cons (.qt (.pr .len (.cons (.pr .idx (.cons (.nm 0) (.cons (.cs (.int 0)) .nil))) .nil))) .nil)) .nil))) (.nm 9) (.cs .none))) .nil))))
def d18 : TD := ⟨"_law_led", ["one", "other", "goal"], ["one", "other", "goal", "led", "ahead", "s", "row", "more", "due", "found", ".0"], s18, B18⟩
abbrev s19 : Stmt := topS 21
def B19 : Ss := (.cons (.ite (.pr .ne (.cons (.qt (.pr .len (.cons (.pr .idx (.cons (.nm 0) (.cons (.cs (.int 0)) .nil))) .nil))) (.cons (.qt (.pr .len (.cons (.pr .idx (.cons (.nm 1) (.cons (.cs (.int 0)) .nil))) .nil))) .nil))) (.cons (.ret (.tup .nil)) .nil) .nil) (.cons (.asg (.nm 2) (.lc [3, 4] (.nm 4) .rg1 (.cons (.qt (.pr .len (.cons (.pr .idx (.cons (.nm 0) (.cons (.cs (.int 0)) .nil))) .nil))) .nil) none (.call 18 (.cons (.nm 0) (.cons (.nm 1) (.cons (.nm 4) .nil)))))) (.cons (.ret (.pr .tupO (.cons (.pr .sorted (.cons (.lc [3, 5] (.nm 5) .one (.cons (.nm 2) .nil) (some (.pr .noN (.cons (.nm 5) (.cons (.cs .none) .nil)))) (.nm 5)) .nil)) .nil))) .nil)))
def d19 : TD := ⟨"_law_names", ["one", "other"], ["one", "other", "found", ".0", "goal", "own"], s19, B19⟩
abbrev s20 : Stmt := topS 22
def B20 : Ss := (.cons (.asg (.nm 1) (.call 7 (.cons (.nm 0) .nil))) (.cons (.loop (.nm 2) .rg1 (.cons (.cs (.int 3)) .nil) (.cons (.asg (.nm 3) (.call 13 (.cons (.nm 1) (.cons (.ite (.pr .gt (.cons (.nm 2) (.cons (.cs (.int 0)) .nil))) (.call 9 (.cons (.nm 1) (.cons (.lsf (.cons (.cs (.int 3)) (.cons (.cs (.int 5)) (.cons (.cs (.int 6)) .nil)))) .nil))) (.call 9 (.cons (.nm 1) (.cons (.lsf (.cons (.cs (.int 4)) (.cons (.cs (.int 6)) (.cons (.cs (.int 8)) .nil)))) .nil)))) .nil)))) (.cons (.par [(.nm 4), (.nm 5)] (.cons (.qt (.pr .len (.cons (.pr .idx (.cons (.nm 3) (.cons (.cs (.int 0)) .nil))) .nil))) (.cons (.pr .rpr (.cons (.nm 3) .nil)) .nil))) (.cons (.asg (.nm 6) (.pr .tupO (.cons (.call 10 (.cons (.nm 1) (.cons (.pr .rgL1 (.cons (.nm 4) .nil)) .nil))) .nil))) (.cons (.asg (.nm 7) (.call 15 (.cons (.nm 3) (.cons (.nm 6) .nil)))) (.cons (.ite (.pr .ne (.cons (.pr .rpr (.cons (.lsf (.cons (.call 0 (.cons (.nm 3) (.cons (.nm 6) .nil))) (.cons (.callK 0 [1, 0] (.cons (.nm 6) (.cons (.nm 3) .nil))) .nil))) .nil)) (.cons (.pr .rpr (.cons (.lsf (.cons (.nm 7) (.cons (.nm 7) .nil))) .nil)) .nil))) (.cons (.ret (.cs (.bool false))) .nil) .nil) (.cons (.par [(.nm 8), (.nm 9)] (.cons (.call 8 (.cons (.nm 1) (.cons (.nm 4) .nil))) (.cons (.call 17 (.cons (.nm 3) .nil)) .nil))) (.cons (.asg (.nm 10) (.call 16 (.cons (.nm 3) (.cons (.nm 8) .nil)))) (.cons (.ite (.pr .ne (.cons (.pr .rpr (.cons (.lsf (.cons (.call 1 (.cons (.nm 3) (.cons (.nm 8) .nil))) (.cons (.callK 1 [1, 0] (.cons (.nm 8) (.cons (.nm 3) .nil))) .nil))) .nil)) (.cons (.pr .rpr (.cons (.lsf (.cons (.nm 10) (.cons (.nm 10) .nil))) .nil)) .nil))) (.cons (.ret (.cs (.bool false))) .nil) .nil) (.cons (.ite (.pr .ne (.cons (.pr .rpr (.cons (.lsf (.cons (.call 2 (.cons (.nm 3) .nil)) (.cons (.callK 2 [0] (.cons (.nm 3) .nil)) (.cons (.call 2 (.cons (.nm 7) .nil)) .nil)))) .nil)) (.cons (.pr .rpr (.cons (.pr .mul (.cons (.lsf (.cons (.nm 9) .nil)) (.cons (.cs (.int 3)) .nil))) .nil)) .nil))) (.cons (.ret (.cs (.bool false))) .nil) .nil) (.cons (.asg (.nm 11) (.call 19 (.cons (.nm 3) (.cons (.nm 3) .nil)))) (.cons (.ite (.pr .ne (.cons (.pr .rpr (.cons (.lsf (.cons (.call 6 (.cons (.nm 3) .nil)) (.cons (.callK 6 [0] (.cons (.nm 3) .nil)) .nil))) .nil)) (.cons (.pr .rpr (.cons (.lsf (.cons (.nm 11) (.cons (.nm 11) .nil))) .nil)) .nil))) (.cons (.ret (.cs (.bool false))) .nil) .nil) (.cons (.ite (.pr .ne (.cons (.lc [17, 12] (.nm 12) .one (.cons (.nm 11) .nil) (some (.pr .nin (.cons (.lc [17, 18] (.nm 18) .rg1 (.cons (.nm 4) .nil) (some (.qt (.pr .eq (.cons (.pr .idx (.cons (.nm 12) (.cons (.nm 18) .nil))) (.cons (.nm 18) .nil))))) (.nm 18)) (.cons (.tup (.cons (.lst .nil) (.cons (.pr .rgL1 (.cons (.nm 4) .nil)) .nil))) .nil)))) (.cs (.int 1))) (.cons (.lst .nil) .nil))) (.cons (.ret (.cs (.bool false))) .nil) .nil) (.cons (.asg (.nm 13) (.lc [17, 18] (.nm 18) .rg1 (.cons (.nm 4) .nil) (some (.pr .eq (.cons (.call 15 (.cons (.nm 3) (.cons (.call 16 (.cons (.nm 3) (.cons (.nm 18) .nil))) .nil))) (.cons (.nm 9) .nil)))) (.nm 18))) (.cons (.ite (.or (.pr .ne (.cons (.pr .len (.cons (.nm 11) .nil)) (.cons (.pr .len (.cons (.nm 13) .nil)) .nil))) (.pr .ne (.cons (.pr .mod (.cons (.pr .int (.cons (.nm 4) .nil)) (.cons (.pr .len (.cons (.nm 11) .nil)) .nil))) (.cons (.cs (.int 0)) .nil)))) (.cons (.ret (.cs (.bool false))) .nil) .nil) (.cons (.asg (.nm 14) (.call 13 (.cons (.nm 1) (.cons (.cs (.int 5)) .nil)))) (.cons (.loop (.nm 15) .one (.cons (.tup (.cons (.nm 7) (.cons (.call 9 (.cons (.nm 1) (.cons (.lsf (.cons (.nm 14) (.cons (.tup (.cons (.pr .idx (.cons (.nm 3) (.cons (.cs (.int 1)) .nil))) (.cons (.pr .idx (.cons (.nm 3) (.cons (.cs (.int 0)) .nil))) .nil))) .nil))) .nil))) .nil))) .nil) (.cons (.asg (.nm 12) (.call 19 (.cons (.nm 3) (.cons (.nm 15) .nil)))) (.cons (.asg (.nm 16) (.lsf (.cons (.call 4 (.cons (.nm 3) (.cons (.nm 15) .nil))) (.cons (.callK 4 [1, 0] (.cons (.nm 15) (.cons (.nm 3) .nil))) .nil)))) (.cons (.asg (.nm 16) (.pr .add (.cons (.nm 16) (.cons (.lsf (.cons (.call 5 (.cons (.nm 3) (.cons (.nm 15) .nil))) (.cons (.callK 5 [1, 0] (.cons (.nm 15) (.cons (.nm 3) .nil))) .nil))) .nil)))) (.cons (.ite (.pr .ne (.cons (.pr .rpr (.cons (.nm 16) .nil)) (.cons (.pr .rpr (.cons (.lsf (.cons (.nm 12) (.cons (.nm 12) (.cons (.pr .ne (.cons (.nm 12) (.cons (.tup .nil) .nil))) (.cons (.pr .ne (.cons (.nm 12) (.cons (.tup .nil) .nil))) .nil))))) .nil)) .nil))) (.cons (.ret (.cs (.bool false))) .nil) .nil) (.cons (.ite (.pr .ne (.cons (.pr .ne (.cons (.nm 12) (.cons (.tup .nil) .nil))) (.cons (.pr .eq (.cons (.call 17 (.cons (.nm 15) .nil)) (.cons (.nm 9) .nil))) .nil))) (.cons (.ret (.cs (.bool false))) .nil) .nil) .nil)))))) (.cons (.ite (.pr .ne (.cons (.pr .rpr (.cons (.nm 3) .nil)) (.cons (.nm 5) .nil))) (.cons (.ret (.cs (.bool false))) .nil) .nil) .nil)))))))))))))))))) (.cons (.ret (.cs (.bool true))) .nil)))
def d20 : TD := ⟨"law", ["script"], ["script", "pot", "turn", "floor", "n", "kept", "naming", "due", "square", "least", "own", "keeping", "names", "same", "more", "other", "told", ".0", "x"], s20, B20⟩
def T : List TD := [d0, d1, d2, d3, d4, d5, d6, d7, d8, d9, d10, d11, d12, d13, d14, d15, d16, d17, d18, d19, d20]
theorem ts0 : TS T Pk Cs d0 := ⟨⟨rfl, rfl, rfl, by decide +kernel, rfl, by decide +kernel, by decide +kernel⟩, rfl⟩
theorem ts1 : TS T Pk Cs d1 := ⟨⟨rfl, rfl, rfl, by decide +kernel, rfl, by decide +kernel, by decide +kernel⟩, rfl⟩
theorem ts2 : TS T Pk Cs d2 := ⟨⟨rfl, rfl, rfl, by decide +kernel, rfl, by decide +kernel, by decide +kernel⟩, rfl⟩
theorem ts3 : TS T Pk Cs d3 := ⟨⟨rfl, rfl, rfl, by decide +kernel, rfl, by decide +kernel, by decide +kernel⟩, rfl⟩
theorem ts4 : TS T Pk Cs d4 := ⟨⟨rfl, rfl, rfl, by decide +kernel, rfl, by decide +kernel, by decide +kernel⟩, rfl⟩
theorem ts5 : TS T Pk Cs d5 := ⟨⟨rfl, rfl, rfl, by decide +kernel, rfl, by decide +kernel, by decide +kernel⟩, rfl⟩
theorem ts6 : TS T Pk Cs d6 := ⟨⟨rfl, rfl, rfl, by decide +kernel, rfl, by decide +kernel, by decide +kernel⟩, rfl⟩
theorem ts7 : TS T Pk Cs d7 := ⟨⟨rfl, rfl, rfl, by decide +kernel, rfl, by decide +kernel, by decide +kernel⟩, rfl⟩
theorem ts8 : TS T Pk Cs d8 := ⟨⟨rfl, rfl, rfl, by decide +kernel, rfl, by decide +kernel, by decide +kernel⟩, rfl⟩
theorem ts9 : TS T Pk Cs d9 := ⟨⟨rfl, rfl, rfl, by decide +kernel, rfl, by decide +kernel, by decide +kernel⟩, rfl⟩
theorem ts10 : TS T Pk Cs d10 := ⟨⟨rfl, rfl, rfl, by decide +kernel, rfl, by decide +kernel, by decide +kernel⟩, rfl⟩
theorem ts11 : TS T Pk Cs d11 := ⟨⟨rfl, rfl, rfl, by decide +kernel, rfl, by decide +kernel, by decide +kernel⟩, rfl⟩
theorem ts12 : TS T Pk Cs d12 := ⟨⟨rfl, rfl, rfl, by decide +kernel, rfl, by decide +kernel, by decide +kernel⟩, rfl⟩
theorem ts13 : TS T Pk Cs d13 := ⟨⟨rfl, rfl, rfl, by decide +kernel, rfl, by decide +kernel, by decide +kernel⟩, rfl⟩
theorem ts14 : TS T Pk Cs d14 := ⟨⟨rfl, rfl, rfl, by decide +kernel, rfl, by decide +kernel, by decide +kernel⟩, rfl⟩
theorem ts15 : TS T Pk Cs d15 := ⟨⟨rfl, rfl, rfl, by decide +kernel, rfl, by decide +kernel, by decide +kernel⟩, rfl⟩
theorem ts16 : TS T Pk Cs d16 := ⟨⟨rfl, rfl, rfl, by decide +kernel, rfl, by decide +kernel, by decide +kernel⟩, rfl⟩
theorem ts17 : TS T Pk Cs d17 := ⟨⟨rfl, rfl, rfl, by decide +kernel, rfl, by decide +kernel, by decide +kernel⟩, rfl⟩
theorem ts18 : TS T Pk Cs d18 := ⟨⟨rfl, rfl, rfl, by decide +kernel, rfl, by decide +kernel, by decide +kernel⟩, rfl⟩
theorem ts19 : TS T Pk Cs d19 := ⟨⟨rfl, rfl, rfl, by decide +kernel, rfl, by decide +kernel, by decide +kernel⟩, rfl⟩
theorem ts20 : TS T Pk Cs d20 := ⟨⟨rfl, rfl, rfl, by decide +kernel, rfl, by decide +kernel, by decide +kernel⟩, rfl⟩
end K03


namespace D8
theorem emod_blk {a q c : Int} (c0 : 0 ≤ c) (c1 : c < a) : (a * q + c) % a = c := by
  rw [Int.add_comm, Int.add_mul_emod_self_left]
  exact Int.emod_eq_of_lt c0 c1
theorem ord_perm {n : Nat} {r : List Int} (h : r.Perm (rgI 0 n)) : Ord n r := ⟨by rw [h.length_eq, rgI_len]; omega, fun x hx => by have := rgI_mem.mp (h.mem_iff.mp hx); omega, h.nodup_iff.mpr (List.Pairwise.map _ (fun a b hab e => hab (by omega)) List.nodup_range)⟩
theorem it_rg {n : Nat} {x : Int} (h0 : 0 ≤ x) (h : x < n) : it (rgI 0 n) x = x := by
  have := rgI_get (a := 0) (b := n) (k := x.toNat) (by omega)
  simp only [it, List.getD, this, Option.getD_some]
  omega
theorem ord_rg {n : Nat} : Ord n (rgI 0 n) := ord_perm (List.Perm.refl _)
theorem ord_rot {n : Nat} (h : 1 ≤ n) : Ord n (rgI 1 n ++ [0]) := by
  refine ⟨by simp [rgI_len]; omega, fun x hx => ?_, ?_⟩
  · rcases List.mem_append.mp hx with h | h
    · have := rgI_mem.mp h; omega
    · simp at h; omega
  · rw [List.nodup_append]
    refine ⟨List.Pairwise.map _ (fun a b hab e => hab (by omega)) List.nodup_range, by simp, fun x hx y hy e => ?_⟩
    have := rgI_mem.mp hx
    simp at hy
    omega
theorem ord_up {n : Nat} {f g : Int → Int} (hr : ∀ x : Int, 0 ≤ x → x < n → 0 ≤ f x ∧ f x < n) (hg : ∀ x : Int, 0 ≤ x → x < n → g (f x) = x) : Ord n ((upTo n).map f) := by
  have e : ∀ x : Int, 0 ≤ x → x < n → it ((upTo n).map f) x = f x := fun x h0 h => by rw [it_map len_upTo h0 h, it_upTo h0 h]
  refine ord_of (g := g) (by rw [List.length_map, len_upTo]) (fun x h0 h => ?_) fun x h0 h => ?_
  · rw [e x h0 h]; exact hr x h0 h
  · rw [e x h0 h]; exact hg x h0 h
theorem ord_box1 {n : Nat} {a : Int} (h1 : 1 ≤ a) (hd : (n : Int) % a = 0) (hr : ∀ x : Int, 0 ≤ x → x < n → 0 ≤ x - x % a + (x + 1) % a ∧ x - x % a + (x + 1) % a < n) : Ord n ((upTo n).map fun x => x - x % a + (x + 1) % a) := by
  refine ord_up (g := fun y => if y % a = 0 then y + a - 1 else y - 1) hr fun x h0 h => ?_
  have e1 := Int.emod_add_mul_ediv x a
  have s0 := Int.emod_nonneg x (show a ≠ 0 by omega)
  have s1 := Int.emod_lt_of_pos x (show 0 < a by omega)
  have e2 : (x + 1) % a = (x % a + 1) % a := by
    rw [Int.add_emod x 1 a, Int.add_emod (x % a) 1 a, Int.emod_emod]
  rw [e2]
  generalize x / a = q at e1
  generalize x % a = s at e1 s0 s1
  by_cases c : s + 1 < a
  · rw [Int.emod_eq_of_lt (by omega) c, show x - s + (s + 1) = a * q + (s + 1) by omega, emod_blk (by omega) c, if_neg (by omega)]
    omega
  · rw [show s + 1 = a by omega, Int.emod_self, show x - s + 0 = a * q + 0 by omega, emod_blk (by omega) (by omega), if_pos rfl]
    omega
theorem ord_box2 {n : Nat} {a tw : Int} (h1 : 1 ≤ a) (han : a ≤ n) (hd : (n : Int) % a = 0) (t0 : 0 ≤ tw) (t1 : tw < a) : Ord n ((upTo n).map fun x => if x + a < n then x + a else (x + tw) % a) := by
  have em : ∀ x : Int, (x + tw) % a < a ∧ 0 ≤ (x + tw) % a := fun x => ⟨Int.emod_lt_of_pos _ (by omega), Int.emod_nonneg _ (by omega)⟩
  refine ord_up (g := fun y => if a ≤ y then y - a else n - a + (if tw ≤ y then y - tw else y - tw + a)) (fun x h0 h => ?_) fun x h0 h => ?_
  · split
    · omega
    · have := em x; omega
  · by_cases c : x + a < n
    · rw [if_pos c, if_pos (by omega)]; omega
    · rw [if_neg c]
      have e2 := Int.emod_add_mul_ediv n a
      rw [hd] at e2
      generalize (n : Int) / a = k at e2
      obtain ⟨s, hs⟩ : ∃ s, x = n - a + s := ⟨x - (n - a), by omega⟩
      have ex : x + tw = a * (k - 1) + (s + tw) := by rw [Int.mul_sub, Int.mul_one]; omega
      rw [ex]
      by_cases c2 : s + tw < a
      · rw [emod_blk (by omega) c2, if_neg (by omega), if_pos (by omega)]; omega
      · have e3 : a * (k - 1) + (s + tw) = a * k + (s + tw - a) := by rw [Int.mul_sub, Int.mul_one]; omega
        rw [e3, emod_blk (by omega) (by omega), if_neg (by omega), if_neg (by omega)]; omega
/-! ### one piece -/
/-- what stays the same by steps is told of all, or of none -/
def CC (n : Nat) (r u : List Int) : Prop := ∀ P : Int → Prop, (∀ x : Int, 0 ≤ x → x < n → (P (it r x) ↔ P x)) → (∀ x : Int, 0 ≤ x → x < n → (P (it u x) ↔ P x)) → ∀ x y : Int, 0 ≤ x → x < n → 0 ≤ y → y < n → P x → P y
theorem CC.called {n : Nat} {nm a b a' b' : List Int} (on : Ord n nm) (oa : Ord n a) (ob : Ord n b) (ca : Cal n nm a a') (cb : Cal n nm b b') (c : CC n a b) : CC n a' b' := fun P h1 h2 x y x0 x1 y0 y1 hx => by
  have e1 := on.inv_rng x0 x1
  have e2 := on.inv_rng y0 y1
  have := c (fun z => P (it nm z)) (fun z z0 z1 => by rw [← ca.go z z0 z1]; have := on.it z0 z1; exact h1 _ this.1 this.2) (fun z z0 z1 => by rw [← cb.go z z0 z1]; have := on.it z0 z1; exact h2 _ this.1 this.2) (inv nm x) (inv nm y) e1.1 e1.2 e2.1 e2.2 (by rw [on.it_inv x0 x1]; exact hx)
  rwa [on.it_inv y0 y1] at this
theorem Ord.pw_iff {n : Nat} {r : List Int} (o : Ord n r) {P : Int → Prop} (h : ∀ x : Int, 0 ≤ x → x < n → (P (D8.it r x) ↔ P x)) (t : Int) {x : Int} (h0 : 0 ≤ x) (h1 : x < n) : P (pw r t x) ↔ P x := by
  cases t with
  | ofNat k =>
    induction k with
    | zero => exact Iff.rfl
    | succ k ih =>
      have := o.pw_rng (Int.ofNat k) h0 h1
      exact (h _ this.1 this.2).trans ih
  | negSucc k =>
    have st : ∀ y : Int, 0 ≤ y → y < n → (P (inv r y) ↔ P y) := fun y y0 y1 => by
      have := o.inv_rng y0 y1
      have := h _ this.1 this.2
      rw [o.it_inv y0 y1] at this
      exact this.symm
    induction k with
    | zero => exact st x h0 h1
    | succ k ih =>
      have := o.pw_rng (Int.negSucc k) h0 h1
      exact (st _ this.1 this.2).trans ih
theorem CC.after1 {n : Nat} {r u : List Int} (o : Ord n r) (ou : Ord n u) (c : CC n r u) (t : Int) : CC n r (after u r t) := fun P h1 h2 x y x0 x1 y0 y1 hx =>
  c P h1 (fun z z0 z1 => by
    have := h2 z z0 z1
    rw [after_it ou z0 z1] at this
    have e := ou.it z0 z1
    exact (o.pw_iff h1 t e.1 e.2).symm.trans this) x y x0 x1 y0 y1 hx
theorem CC.symm {n : Nat} {r u : List Int} (c : CC n r u) : CC n u r := fun P h1 h2 => c P h2 h1
theorem CC.sh {n : Nat} {F : Flo} (h : Okf n F) (c : CC n F.1 F.2) (l : Bool × Int) : CC n (D8.sh F l).1 (D8.sh F l).2 := by
  unfold D8.sh
  split
  · exact c.after1 h.1 h.2 _
  · exact (c.symm.after1 h.2 h.1 _).symm
theorem CC.shs {n : Nat} {F : Flo} (h : Okf n F) (c : CC n F.1 F.2) (w : List (Bool × Int)) : CC n (D8.shs F w).1 (D8.shs F w).2 := by
  induction w generalizing F with
  | nil => exact c
  | cons l w ih => exact ih (h.sh l) (c.sh h l)
end D8

namespace K03
open PySem PySem.Spec PyProof.Rows L2 D8
/-- the pot -/
def PotOk (q : List M) : Prop := ∃ (cs : List Int) (a b : Int), cs.length ≤ 63 ∧ q = [.ml (iM cs), mint a, mint b]
theorem sq_ok {x m : Int} (h : 0 < m) (h2 : m < 18446744073709551616) : mulOk (x % m) (x % m) = true := mulOk_l (by
  have := Int.emod_nonneg x (Int.ne_of_gt h)
  have := Int.emod_lt_of_pos x h
  omega)
theorem of_ev (n : Nat) {q : List M} {many : Int} (hm : many < 18446744073709551616) (hq : PotOk q) :
    Ev (gamT T (n + 1) 8 [.ml q, mint many]) fun r => ∃ i q', r = (mint i, [some (.ml q'), none]) ∧ PotOk q' ∧ (1 ≤ many → 0 ≤ i ∧ i < many) ∧ (many < 1 → i = 0) := by
  obtain ⟨cs, a, b, h, rfl⟩ := hq
  refine ev_gam (d := d8) rfl rfl ?_
  generalize gamT T n = Γ
  simp [d8, B8]
  refine ⟨fun h1 => ⟨0, _, ⟨rfl, rfl⟩, ⟨cs, a, b, h, rfl⟩, fun z => ⟨by omega, by omega⟩, fun _ => rfl⟩, fun h2 => ⟨fun e => ?_, fun e => ?_⟩⟩
  · refine ⟨sq_ok (by decide) (by decide), sq_ok (by decide) (by decide), by omega, _, _, ⟨rfl, rfl⟩, ⟨cs, a, b + 1, h, rfl⟩, fun _ => ⟨Int.emod_nonneg _ (by omega), Int.emod_lt_of_pos _ (by omega)⟩, fun z => by omega⟩
  · obtain ⟨x, hx⟩ : ∃ x, cs.getLast? = some x := ⟨cs.getLast e, List.getLast?_eq_getLast e⟩
    rw [hx]
    simp
    refine ⟨fun hge => ⟨divOk_of (by omega) hm, by have : sizeLine = 2 ^ 24 := rfl; omega, by omega, _, _, ⟨rfl, rfl⟩, ⟨cs.dropLast ++ [x / many], a, b, ?_, rfl⟩, fun _ => ⟨Int.emod_nonneg _ (by omega), Int.emod_lt_of_pos _ (by omega)⟩, fun z => by omega⟩,
      fun hlt => ⟨by omega, _, _, ⟨rfl, rfl⟩, ⟨cs.dropLast, a, b, by simp; omega, rfl⟩, fun _ => ⟨Int.emod_nonneg _ (by omega), Int.emod_lt_of_pos _ (by omega)⟩, fun z => by omega⟩⟩
    simp
    have : 0 < cs.length := List.length_pos_iff.mpr e
    omega
theorem one_ev (n : Nat) {q : List M} {ds : List PyData} (hd : ds ≠ []) (hl : ds.length ≤ 16777216) (hq : PotOk q) :
    Ev (gamT T (n + 2) 9 [.ml q, .ml (ds.map .im)]) fun r => ∃ d q', r = (.im d, [some (.ml q'), some (.ml (ds.map .im))]) ∧ PotOk q' ∧ d ∈ ds := by
  refine ev_gam (d := d9) rfl rfl ?_
  simp [d9, B9]
  have h0 : 0 < ds.length := List.length_pos_iff.mpr hd
  refine CallK.of (of_ev n (many := ds.length) (by omega) hq) ?_
  rintro _ ⟨i, q', rfl, hq', hi, _⟩
  obtain ⟨h1, h2⟩ := hi (by omega)
  simp [atI_pos h1]
  have h3 : i.toNat < ds.length := by omega
  rw [List.getElem?_eq_getElem h3]
  simp
  exact ⟨_, _, ⟨rfl, rfl⟩, hq', List.getElem_mem h3⟩
theorem iD_mem {cs : List Int} {d : PyData} (h : d ∈ iD cs) : ∃ c ∈ cs, d = .int c := by
  obtain ⟨c, h1, rfl⟩ := List.mem_map.mp h
  exact ⟨c, h1, rfl⟩
theorem iD_map {cs : List Int} {f : PyData → M} {g : Int → Int} (h : ∀ c, f (.int c) = mint (g c)) : (iD cs).map f = iM (cs.map g) := by
  simp [iD, iM, h]
theorem iD_filter {cs : List Int} {p : PyData → Bool} : ((iD cs).filter p).map M.im = iM (cs.filter fun c => p (.int c)) := by
  simp [iD, iM, List.filter_map]; rfl
theorem pot_ev (n : Nat) {ns : List Int} (h : ns.length ≤ 63) : Ev (gamT T (n + 1) 7 [.im (.list (ns.map .int))]) fun r => ∃ q, r = (.ml q, [none]) ∧ PotOk q := by
  have e0 : ns.map PyData.int = iD ns := rfl
  rw [e0]
  have hc : (iD ns).take 63 = iD ns := List.take_of_length_le (by simpa using h)
  refine ev_gam (d := d7) rfl rfl ?_
  simp only [d7, B7, pins, owned, List.map_cons, List.map_nil]
  rw [ev_Ss_cons]
  simp [hc]
  refine LcK.of (lc_map (iD ns) (fun d => match d with | .int c => mint (2 * (if c < 0 then -c else c) + (if c < 0 then 1 else 0)) | d => .im d) (fun env => env = [some (.im (.list (iD ns))), none, none, none, none]) rfl (by simp; omega) ?_ ?_) ?_
  · rintro k env rfl
    exact next_tm rfl (by simp)
  · rintro d hd env rfl
    obtain ⟨c, _, rfl⟩ := iD_mem hd
    simp
  · rintro ⟨ms, env⟩ ⟨hm, rfl⟩
    rw [iD_map (g := fun c => 2 * (if c < 0 then -c else c) + (if c < 0 then 1 else 0)) (fun c => rfl)] at hm
    simp only at hm
    subst hm
    have hl : (ns.map (fun c => 2 * (if c < 0 then -c else c) + (if c < 0 then 1 else 0))).length ≤ 63 := by simpa using h
    generalize ns.map (fun c => 2 * (if c < 0 then -c else c) + (if c < 0 then 1 else 0)) = cs at hl ⊢
    simp
    refine ForK.of (forLp_ev (iD cs) (fun k env => ∃ x m, env = [some (.im (.list (iD ns))), x, some (.ml (iM cs)), some (mint m), none]) (fun _ _ => False) ⟨_, _, rfl⟩ ?_ ?_) ?_
    · rintro k env ⟨x, m, rfl⟩
      exact next_sl rfl rfl (by simp)
    · rintro k d env hk ⟨x, m, rfl⟩
      obtain ⟨c, _, rfl⟩ := iD_mem (List.mem_of_getElem? hk)
      simp
    · rintro ⟨fl, env⟩ h2
      cases fl with
      | nx =>
        obtain ⟨x, m, rfl⟩ := h2
        simp
        refine LcK.of (lc_pure (iD cs) (fun d => match d with | .int c => decide (1000000000000 < c) | _ => false) .im (fun env => env = [some (.im (.list (iD ns))), none, some (.ml (iM cs)), some (mint m), none]) rfl (by simp; omega) ?_ ?_) ?_
        · rintro k env rfl
          exact next_sl rfl rfl (by simp)
        · rintro d hd env rfl
          obtain ⟨c, _, rfl⟩ := iD_mem hd
          simp
        · rintro ⟨ms, env⟩ ⟨hm, rfl⟩
          rw [iD_filter] at hm
          simp only at hm
          subst hm
          simp
          exact ⟨_, m, 0, Nat.le_trans (List.length_filter_le _ _) hl, rfl⟩
      | _ => exact h2.elim
/-- the first place from k, among j, at which p holds -/
def flt (p : Nat → Bool) : Nat → Nat → Option Nat
  | 0, _ => none
  | j + 1, k => if p k = true then some k else flt p j (k + 1)
theorem flt_none {p : Nat → Bool} : ∀ {j k : Nat}, (∀ i, k ≤ i → i < k + j → p i = false) → flt p j k = none
  | 0, _, _ => rfl
  | j + 1, k, h => by
    unfold flt
    rw [h k (Nat.le_refl _) (by omega)]
    exact flt_none (j := j) fun i h1 h2 => h i (by omega) (by omega)
theorem flt_some {p : Nat → Bool} : ∀ {j k i : Nat}, k ≤ i → i < k + j → p i = true → (∀ m, k ≤ m → m < i → p m = false) → flt p j k = some i
  | 0, _, _, h1, h2, _, _ => by omega
  | j + 1, k, i, h1, h2, h3, h4 => by
    unfold flt
    by_cases e : k = i
    · subst e; rw [if_pos h3]
    · rw [h4 k (Nat.le_refl _) (by omega)]
      exact flt_some (j := j) (by omega) (by omega) h3 fun m h5 h6 => h4 m (by omega) h6
theorem flt_no {p : Nat → Bool} : ∀ {j k : Nat}, flt p j k = none → ∀ i, k ≤ i → i < k + j → p i = false
  | 0, _, _, i, h1, h2 => by omega
  | j + 1, k, h, i, h1, h2 => by
    unfold flt at h
    split at h
    · cases h
    · next hp =>
      by_cases e : k = i
      · subst e; simpa using hp
      · exact flt_no (j := j) h i (by omega) (by omega)
theorem flt_is {p : Nat → Bool} : ∀ {j k i : Nat}, flt p j k = some i → i < k + j ∧ k ≤ i
  | 0, _, _, h => by cases h
  | j + 1, k, i, h => by
    unfold flt at h
    split at h
    · cases h; omega
    · have := flt_is (j := j) h; omega
theorem inF_t {L D : Nat} {xs : List PyData} {x : PyData} (hx : Nice L D x) (hxs : NiceL L D xs) (hD : D ≤ 60) : inF (.im x) (.im (.tuple xs)) = some (xs.any fun z => PyData.eqv z x) := by
  have h1 : SeqAt.shaped x = true := hx.shaped (by omega)
  have h2 : SeqAt.shaped (.list xs) = true := hxs.lst.shaped (by omega)
  cases x <;> simp [inF, M.seq?, M.fz, h1, h2]
def enD (xs : List PyData) : List PyData := xs.mapIdx fun k d => .tuple [.int k, d]
theorem enD_len {xs : List PyData} : (enD xs).length = xs.length := by simp [enD]
theorem enD_get {xs : List PyData} {k : Nat} : (enD xs)[k]? = xs[k]?.map fun d => .tuple [.int k, d] := by simp [enD]
theorem iM_set {b : List Int} {k : Nat} {x : Int} : (iM b).set k (.im (.int x)) = iM (b.set k x) := by simp [iM, List.map_set]
theorem zeros {n : Nat} : rep [PyData.int 0] n = iD (List.replicate n 0) := by simp [rep, iD]
theorem iD_get {r : List Int} {k : Nat} : (iD r)[k]? = r[k]?.map .int := by simp [iD]
theorem ixN_pos {n : Nat} {x : Int} (h0 : 0 ≤ x) (h1 : x < n) : ixN n x = some x.toNat := by unfold ixN; rw [if_pos h0, if_pos h1]
/-- b leads back -/
structure Bk (n : Nat) (r b : List Int) : Prop where
  len : b.length = n
  rng : ∀ x ∈ b, 0 ≤ x ∧ x < n
  bk : ∀ j : Nat, j < n → it b (it r j) = j
theorem Bk.fwd {n : Nat} {r b : List Int} (h : Bk n r b) (o : Ord n r) {y : Int} (h0 : 0 ≤ y) (h1 : y < n) : it r (it b y) = y := by
  obtain ⟨x, x0, x1, e⟩ := o.sur h0 h1
  have := h.bk x x1
  rw [e] at this
  rw [this, e]
theorem it_set {b : List Int} {k : Nat} {x : Int} {i : Int} (h0 : 0 ≤ i) (hk : k < b.length) : it (b.set k x) i = if i = k then x else it b i := by
  unfold it
  rw [List.getD_eq_getElem?_getD, List.getD_eq_getElem?_getD]
  by_cases e : i = k
  · subst e; simp [hk]
  · rw [if_neg e, List.getElem?_set_ne (by omega)]
theorem back_ev (n : Nat) {N : Nat} {r : List Int} (o : Ord N r) (hN : N ≤ 1000) : Ev (gamT T (n + 1) 11 [.im (.tuple (iD r))]) fun q => ∃ b, q = (.im (.tuple (iD b)), [none]) ∧ Bk N r b := by
  refine ev_gam (d := d11) rfl rfl ?_
  have hl := o.len
  simp [d11, B11, ims, zeros]
  have hz : (0 : Int) < N → ∀ x ∈ List.replicate N (0 : Int), 0 ≤ x ∧ x < N := fun h x hx => by have := (List.mem_replicate.mp hx).2; omega
  refine ⟨by omega, ?_⟩
  refine ForK.of (forLp_ev (enD (iD r)) (fun k env => ∃ b x y, env = [some (.im (.tuple (iD r))), some (.ml (iM b)), x, y] ∧ b.length = N ∧ (∀ x ∈ b, 0 ≤ x ∧ x < N) ∧ ∀ j : Nat, j < k → it b (it r j) = j) (fun _ _ => False)
    ⟨List.replicate N 0, _, _, by rw [hl], by simp, fun x hx => ?_, fun _ h => absurd h (by omega)⟩ ?_ ?_) ?_
  · have h1 := (List.mem_replicate.mp hx)
    have : 0 < N := by omega
    omega
  · rintro k env ⟨b, x, y, rfl, _⟩
    simp [nextK, peek, kdM, nextI, D8.items?, enD_len, enD_get]
  · rintro k d env hk ⟨b, x, y, rfl, hb, hr, hj⟩
    rw [enD_get] at hk
    obtain ⟨z, hz1, rfl⟩ := Option.map_eq_some_iff.mp hk
    rw [iD_get] at hz1
    obtain ⟨t, ht, rfl⟩ := Option.map_eq_some_iff.mp hz1
    have hlt := (List.getElem?_eq_some_iff.mp ht).1
    obtain ⟨t0, t1⟩ := o.rng t (List.mem_of_getElem? ht)
    have htk : it r k = t := by simp [it, ht]
    simp [ixN_pos t0 (by rw [hb]; exact t1 : t < (b.length : Int)), iM_set]
    refine ⟨b.set t.toNat k, ⟨rfl, by simp [hb], fun x hx => ?_, fun j hj2 => ?_⟩⟩
    · rcases List.mem_or_eq_of_mem_set hx with h | h
      · exact hr x h
      · subst h; omega
    · rw [it_set (o.it (by omega) (by omega : (j : Int) < N)).1 (by omega)]
      by_cases e : j = k
      · subst e; rw [htk, if_pos (by omega)]
      · rw [if_neg fun z => e ?_]
        · exact hj j (by omega)
        · have := o.inj (x := j) (y := k) (by omega) (by omega) (by omega) (by omega) (by rw [htk]; omega)
          omega
  · rintro ⟨fl, env⟩ h
    cases fl with
    | nx =>
      obtain ⟨b, x, y, rfl, hb, hr, hj⟩ := h
      rw [enD_len, len_iD] at hj
      simp
      exact ⟨b, rfl, hb, hr, fun j h => hj j (by omega)⟩
    | _ => exact h.elim
/-! a dict of ints that says yes to each -/
def kvM (ks : List Int) : List (Key × M) := ks.map fun k => (.inl k, mbl true)
theorem has_kv {ks : List Int} {g : Int} : mdHas (kvM ks) (.inl g) = decide (g ∈ ks) := by
  induction ks with
  | nil => rfl
  | cons k ks ih =>
    simp only [mdHas, kvM, List.map_cons, List.any_cons] at ih ⊢
    rw [ih]
    by_cases e : k = g
    · subst e; simp
    · have : ¬ ((.inl k : Key) = .inl g) := fun z => e (Sum.inl.inj z)
      have e2 : ¬ g = k := fun z => e z.symm
      simp [this, e2]
@[simp] theorem inF_kv {ks : List Int} {g : Int} : inF (.im (.int g)) (.md (kvM ks)) = some (decide (g ∈ ks)) := by
  show (D8.keyOf (.int g)).map (fun k => mdHas (kvM ks) k) = _
  simp only [D8.keyOf, Option.map_some, has_kv]
theorem set_kv {ks : List Int} {g : Int} (h : g ∉ ks) (hl : ks.length < 16777216) : mtF .setIx (.md (kvM ks)) [.im (.int g), .im (.bool true)] = some (.md (kvM (ks ++ [g])), .im .none) := by
  show (D8.keyOf (.int g)).bind (fun k => if (kvM ks).length < sizeLine ∧ (mdHas (kvM ks) k = false ∨ isIm (.im (.bool true)) = true) then some (M.md (mdPut (kvM ks) k (M.im (.bool true))), M.im .none) else none) = _
  have h1 : mdHas (kvM ks) (.inl g) = false := by rw [has_kv]; simp [h]
  have h2 : (kvM ks).length < sizeLine := by simp [kvM]; exact hl
  simp only [D8.keyOf, Option.bind_some, h1, h2, true_and, true_or, if_true, mdPut]
  simp [kvM]
theorem eqF_iMnil {cs : List Int} : eqF (.ml (iM cs)) (.ml []) = some (decide (cs = [])) := by
  have := eqF_lnil (cs := cs)
  unfold eqF at this ⊢
  simpa [M.fz] using this
theorem kvM_nil : kvM [] = [] := rfl
/-- what may be come to from 0 -/
inductive Orb (N : Nat) (r u : List Int) : Int → Prop
  | z : Orb N r u 0
  | r {x : Int} : Orb N r u x → Orb N r u (it r x)
  | u {x : Int} : Orb N r u x → Orb N r u (it u x)
  | rb {x : Int} : 0 ≤ x → x < N → Orb N r u (it r x) → Orb N r u x
  | ub {x : Int} : 0 ≤ x → x < N → Orb N r u (it u x) → Orb N r u x
theorem nd_len {N : Nat} {ks : List Int} (h : ks.Nodup) (hr : ∀ x ∈ ks, 0 ≤ x ∧ x < N) : ks.length ≤ N := by
  have := nd_le (l2 := D8.upTo N) h fun x hx => D8.mem_upTo.mpr (hr x hx)
  rwa [D8.len_upTo] at this
theorem idx_it {r : List Int} {x : Int} (h0 : 0 ≤ x) (h : x < r.length) : (atI (iD r) x).map M.im = some (mint (it r x)) := by
  rw [atI_pos h0, iD_get, it_some h0 h]; rfl
theorem orb_rng {N : Nat} {r u : List Int} (or : D8.Ord N r) (ou : D8.Ord N u) (hN : 0 < N) {x : Int} (h : Orb N r u x) : 0 ≤ x ∧ x < N := by
  induction h with
  | z => omega
  | r _ ih => exact or.it ih.1 ih.2
  | u _ ih => exact ou.it ih.1 ih.2
  | rb h1 h2 _ _ => exact ⟨h1, h2⟩
  | ub h1 h2 _ _ => exact ⟨h1, h2⟩
def Conn (N : Nat) (r u : List Int) : Prop := ∀ x : Int, 0 ≤ x → x < N → Orb N r u x
/-- a list or a tuple of these ints -/
def IsL (R : M) (r : List Int) : Prop := R = .im (.list (iD r)) ∨ R = .im (.tuple (iD r)) ∨ R = .ml (iM r)
def bk (R : M) : Option M := if owned R = true then some R else none
theorem iM_get {r : List Int} {k : Nat} : (iM r)[k]? = r[k]?.map mint := by simp [iM]
theorem IsL.idx {R : M} {r : List Int} (h : IsL R r) {x : Int} (h0 : 0 ≤ x) (h1 : x < r.length) : idxF R (.im (.int x)) = some (mint (it r x)) := by
  rcases h with rfl | rfl | rfl
  · rw [idxF_l, atI_pos h0, iD_get, it_some h0 h1]; rfl
  · rw [idxF_t, atI_pos h0, iD_get, it_some h0 h1]; rfl
  · rw [idxF_ml, atI_pos h0, iM_get, it_some h0 h1]; rfl
theorem any_iD {fs : List Int} {g : Int} : ((iD fs).any fun z => PyData.eqv z (.int g)) = decide (g ∈ fs) := by
  induction fs with
  | nil => rfl
  | cons f fs ih =>
    simp only [iD, List.map_cons, List.any_cons] at ih ⊢
    rw [ih]
    by_cases e : f = g
    · subst e; simp [PyData.eqv]
    · have e2 : ¬ g = f := fun z => e z.symm
      simp [PyData.eqv, e, e2]
@[simp] theorem inF_iM {fs : List Int} {g : Int} : inF (.im (.int g)) (.ml (iM fs)) = some (decide (g ∈ fs)) := by
  show (ims (iM fs)).bind _ = _
  rw [ims_iM, Option.bind_some]
  have h1 : SeqAt.shaped (.int g) = true := rfl
  rw [if_pos ⟨h1, shaped_iD⟩]
  exact congrArg some any_iD
/-- what may be come to from s ahead -/
structure Rch (N : Nat) (r u : List Int) (s : Int) (B : List Int) : Prop where
  nd : B.Nodup
  rng : ∀ x ∈ B, 0 ≤ x ∧ x < N
  hs : s ∈ B
  min : ∀ P : Int → Prop, P s → (∀ x : Int, 0 ≤ x → x < N → P x → P (it r x) ∧ P (it u x)) → ∀ x ∈ B, P x
theorem reach_core (Γ : Gam) {pn : List Nat} {N : Nat} {r u : List Int} {R U : M} (hR : IsL R r) (hU : IsL U u) (lr : r.length = N) (lu : u.length = N) (rr : ∀ x ∈ r, 0 ≤ x ∧ x < N) (ru : ∀ x ∈ u, 0 ≤ x ∧ x < N) {s : Int} (s0 : 0 ≤ s) (s1 : s < N) (hN : N ≤ 1000)
    (p3 : 3 ∉ pn) (p4 : 4 ∉ pn) (p5 : 5 ∉ pn) : Ev (execSs Γ pn B12 [some R, some U, some (mint s), none, none, none]) fun q => ∃ B y4 y5, q = (.rt (.im (.list (iD B))), [some R, some U, some (mint s), some (.im (.list (iD B))), y4, y5]) ∧ Rch N r u s B ∧ ∀ x ∈ B, it r x ∈ B ∧ it u x ∈ B := by
  rw [B12]
  simp [p3, p4]
  refine WhK.of (whLp_ev (I := fun m env => ∃ fs, ∃ p : Nat, ∃ y5, env = [some R, some U, some (mint s), some (.ml (iM fs)), some (mint p), y5] ∧ Rch N r u s fs ∧ (∀ (j : Nat) (x : Int), j < p → fs[j]? = some x → it r x ∈ fs ∧ it u x ∈ fs) ∧ p ≤ fs.length ∧ N - p ≤ m)
    (J := fun env => ∃ fs, ∃ p : Nat, ∃ y5, env = [some R, some U, some (mint s), some (.ml (iM fs)), some (mint p), y5] ∧ Rch N r u s fs ∧ ∀ x ∈ fs, it r x ∈ fs ∧ it u x ∈ fs) (R := fun _ _ => False) ?_ N _
    ⟨[s], 0, none, rfl, ⟨by simp, fun x hx => by simp at hx; subst hx; exact ⟨s0, s1⟩, by simp, fun P h _ x hx => by simp at hx; subst hx; exact h⟩, fun _ _ h => absurd h (by omega), by simp, by omega⟩) ?_
  · rintro m env ⟨fs, p, y5, rfl, w, cl, hp, hm⟩
    have hfs := nd_len w.nd w.rng
    simp
    by_cases hlt : p < fs.length
    · refine .inr ⟨by omega, ?_⟩
      obtain ⟨x, hx⟩ : ∃ x, fs[p]? = some x := ⟨_, List.getElem?_eq_getElem hlt⟩
      have hxm := List.mem_of_getElem? hx
      obtain ⟨x0, x1⟩ := w.rng x hxm
      have e1 := hR.idx x0 (by omega : x < r.length)
      have e2 := hU.idx x0 (by omega : x < u.length)
      have hp0 : (0 : Int) ≤ p := by omega
      simp [atI_pos hp0, iM_get, hx, e1, e2]
      obtain ⟨gs, hgs⟩ : ∃ gs, gs = [it r x, it u x] := ⟨_, rfl⟩
      refine ForK.of (forLp_ev (iD gs) (fun k env => ∃ fs', ∃ y5, env = [some R, some U, some (mint s), some (.ml (iM fs')), some (mint p), y5] ∧ Rch N r u s fs' ∧ (∃ tl, fs' = fs ++ tl) ∧ ∀ (j : Nat) (g : Int), j < k → gs[j]? = some g → g ∈ fs') (fun _ _ => False)
        ⟨fs, _, rfl, w, ⟨[], by simp⟩, fun _ _ h => absurd h (by omega)⟩ (fun k env _ => next_tm rfl (by rw [hgs]; rfl)) ?_) ?_
      · rintro k g env hk ⟨fs', y5, rfl, w', ⟨tl, htl⟩, hpre⟩
        rw [iD_get] at hk
        obtain ⟨gi, hgi, rfl⟩ := Option.map_eq_some_iff.mp hk
        have hfs' := nd_len w'.nd w'.rng
        have hgm : gi = it r x ∨ gi = it u x := by
          have := List.mem_of_getElem? hgi
          rw [hgs] at this
          simpa using this
        have hg01 : 0 ≤ gi ∧ gi < N := by
          rcases hgm with rfl | rfl
          · exact rr _ (it_mem x0 (by omega))
          · exact ru _ (it_mem x0 (by omega))
        simp [p5]
        refine ⟨fun hin => ?_, fun hnin => ?_⟩
        · refine ⟨fs', rfl, w', ⟨tl, htl⟩, fun j g hj hg => ?_⟩
          by_cases ej : j = k
          · subst ej; rw [hgi] at hg; cases hg; exact hin
          · exact hpre j g (by omega) hg
        · refine ⟨by omega, fs' ++ [gi], rfl, ⟨?_, fun y hy => ?_, List.mem_append_left _ w'.hs, fun P h1 h2 y hy => ?_⟩, ⟨tl ++ [gi], by rw [htl]; simp⟩, fun j g hj hg => ?_⟩
          · rw [List.nodup_append]
            exact ⟨w'.nd, by simp, fun a ha c hc e => hnin (by simp at hc; subst hc; exact e ▸ ha)⟩
          · rcases List.mem_append.mp hy with h | h
            · exact w'.rng y h
            · simp at h; subst h; exact hg01
          · rcases List.mem_append.mp hy with h | h
            · exact w'.min P h1 h2 y h
            · simp at h; subst h
              have hPx := w.min P h1 h2 x hxm
              have := h2 x x0 x1 hPx
              rcases hgm with rfl | rfl
              · exact this.1
              · exact this.2
          · by_cases ej : j = k
            · subst ej; rw [hgi] at hg; cases hg; simp
            · exact List.mem_append_left _ (hpre j g (by omega) hg)
      · rintro ⟨fl, env⟩ h2
        cases fl with
        | nx =>
          obtain ⟨fs', y5, rfl, w', ⟨tl, rfl⟩, hpre⟩ := h2
          rw [len_iD] at hpre
          simp [p4]
          refine ⟨m - 1, by omega, fs ++ tl, p + 1, ⟨rfl, by omega⟩, w', fun j y hj hy => ?_, by simp; omega, by omega⟩
          have up : ∀ z ∈ fs, z ∈ fs ++ tl := fun z hz => List.mem_append_left _ hz
          by_cases ej : j = p
          · subst ej
            rw [List.getElem?_append_left hlt, hx] at hy
            cases hy
            rw [hgs] at hpre
            exact ⟨hpre 0 _ (by simp) rfl, hpre 1 _ (by simp) rfl⟩
          · rw [List.getElem?_append_left (by omega)] at hy
            have := cl j y (by omega) hy
            exact ⟨up _ this.1, up _ this.2⟩
        | _ => exact h2.elim
    · refine .inl ⟨by omega, fs, ⟨rfl, p, rfl⟩, w, fun x hx => ?_⟩
      obtain ⟨j, hj, e⟩ := List.mem_iff_getElem.mp hx
      exact cl j x (by omega) (by rw [List.getElem?_eq_getElem hj, e])
  · rintro ⟨fl, env⟩ h2
    cases fl with
    | nx =>
      obtain ⟨fs, p, y5, rfl, w, cl⟩ := h2
      simp
      exact ⟨fs, rfl, w, cl⟩
    | _ => exact h2.elim
theorem reached_ev (n : Nat) {N : Nat} {r u : List Int} {R U : M} (hR : IsL R r) (hU : IsL U u) (lr : r.length = N) (lu : u.length = N) (rr : ∀ x ∈ r, 0 ≤ x ∧ x < N) (ru : ∀ x ∈ u, 0 ≤ x ∧ x < N) {s : Int} (s0 : 0 ≤ s) (s1 : s < N) (hN : N ≤ 1000) :
    Ev (gamT T (n + 1) 12 [R, U, .im (.int s)]) fun q => ∃ B, q = (.im (.list (iD B)), [bk R, bk U, none]) ∧ Rch N r u s B ∧ ∀ x ∈ B, it r x ∈ B ∧ it u x ∈ B := by
  refine ev_gam (d := d12) rfl rfl ?_
  show Ev (execSs (gamT T n) (pins [R, U, mint s] 0) B12 [some R, some U, some (mint s), none, none, none]) _
  have hp : ∀ j, 3 ≤ j → j ∉ pins [R, U, mint s] 0 := fun j hj => by
    rcases hR with rfl | rfl | rfl <;> rcases hU with rfl | rfl | rfl <;> simp <;> omega
  refine Ev.mono (reach_core (gamT T n) hR hU lr lu rr ru s0 s1 hN (hp 3 (by omega)) (hp 4 (by omega)) (hp 5 (by omega))) ?_
  rintro _ ⟨B, y4, y5, rfl, h1, h2⟩
  refine ⟨B, ?_, h1, h2⟩
  simp [bk]
/-- ahead and back: what is reached is all, exactly if all is one piece -/
theorem reach_conn {N : Nat} {r u B : List Int} (or : D8.Ord N r) (ou : D8.Ord N u) (h1 : 1 ≤ N) (w : Rch N r u 0 B) (cl : ∀ x ∈ B, it r x ∈ B ∧ it u x ∈ B) : B.length = N ↔ Conn N r u := by
  constructor
  · intro hl x x0 x1
    have hx : x ∈ B := nd_all (l1 := B) (l2 := D8.upTo N) w.nd (fun x hx => D8.mem_upTo.mpr (w.rng x hx)) (by rw [D8.len_upTo, hl]; exact Nat.le_refl _) x (D8.mem_upTo.mpr ⟨x0, x1⟩)
    exact w.min (Orb N r u) .z (fun x _ _ h => ⟨h.r, h.u⟩) x hx
  · intro hc
    have hB : ∀ x, Orb N r u x → x ∈ B := fun x h => by
      induction h with
      | z => exact w.hs
      | r _ ih => exact (cl _ ih).1
      | u _ ih => exact (cl _ ih).2
      | rb h1 h2 _ ih => exact or.closed w.nd w.rng (fun x hx => (cl x hx).1) h1 h2 ih
      | ub h1 h2 _ ih => exact ou.closed w.nd w.rng (fun x hx => (cl x hx).2) h1 h2 ih
    have := nd_le (l1 := D8.upTo N) (l2 := B) D8.nd_upTo fun x hx => hB x (hc x (D8.mem_upTo.mp hx).1 (D8.mem_upTo.mp hx).2)
    rw [D8.len_upTo] at this
    have := nd_len w.nd w.rng
    omega
/-! the fault of a floor -/
theorem iD_inj {a b : List Int} (h : iD a = iD b) : a = b := by
  have : ∀ {a b : List Int}, iD a = iD b → a = b := by
    intro a
    induction a with
    | nil => intro b h; cases b with
      | nil => rfl
      | cons _ _ => cases h
    | cons x a ih => intro b h; cases b with
      | nil => cases h
      | cons y b => simp only [iD, List.map_cons, List.cons.injEq, PyData.int.injEq] at h; rw [h.1, ih h.2]
  exact this h
theorem erase_perm : ∀ {l : List Int} {i : Nat} (h : i < l.length), (l[i] :: l.eraseIdx i).Perm l
  | [], _, h => absurd h (by simp)
  | x :: l, 0, _ => by simp
  | x :: l, i + 1, h => by
    have h' : i < l.length := by simpa using h
    have := erase_perm (l := l) (i := i) h'
    simp only [List.getElem_cons_succ, List.eraseIdx_cons_succ]
    exact (List.Perm.swap x l[i] _).trans (List.Perm.cons x this)
theorem order_ev (n : Nat) {q : List M} {r : List Int} (hq : PotOk q) (hl : r.length ≤ 1000) :
    Ev (gamT T (n + 2) 10 [.ml q, .ml (iM r)]) fun o => ∃ r' q', o = (.im (.list (iD r')), [some (.ml q'), some (.ml (iM r))]) ∧ PotOk q' ∧ r'.Perm r := by
  refine ev_gam (d := d10) rfl rfl ?_
  show Ev (execSs (gamT T (n + 1)) [0, 1] B10 [some (.ml q), some (.ml (iM r)), none, none]) _
  rw [B10]
  simp
  refine WhK.of (whLp_ev (I := fun m env => ∃ q l f, PotOk q ∧ env = [some (.ml q), some (.ml (iM r)), some (.ml (iM l)), some (.ml (iM f))] ∧ (f ++ l).Perm r ∧ l.length ≤ m)
    (J := fun env => ∃ q f, PotOk q ∧ env = [some (.ml q), some (.ml (iM r)), some (.ml (iM [])), some (.ml (iM f))] ∧ f.Perm r) (R := fun _ _ => False) ?_ r.length _ ⟨q, r, [], hq, rfl, by simp, Nat.le_refl _⟩) ?_
  · rintro m env ⟨q, l, f, hq, rfl, hp, hm⟩
    have hlf := hp.length_eq
    rw [List.length_append] at hlf
    simp [eqF_iMnil]
    by_cases e : l = []
    · subst e
      exact .inl ⟨rfl, q, hq, f, ⟨rfl, rfl, rfl⟩, by simpa using hp⟩
    · have hpos : 0 < l.length := List.length_pos_iff.mpr e
      refine .inr ⟨e, CallK.of (of_ev n (by omega) hq) ?_⟩
      rintro _ ⟨i, q', rfl, hq', hi, _⟩
      obtain ⟨i0, i1⟩ := hi (by omega)
      have hix : i.toNat < l.length := by omega
      simp [ixN_pos i0 i1, iM_get, List.getElem?_eq_getElem hix, iM_erase]
      refine ⟨by omega, by omega, m - 1, by omega, q', hq', l.eraseIdx i.toNat, f ++ [l[i.toNat]], ⟨rfl, rfl, rfl⟩, ?_, by rw [List.length_eraseIdx_of_lt hix]; omega⟩
      have h1 : (l[i.toNat] :: l.eraseIdx i.toNat).Perm l := erase_perm hix
      rw [List.append_assoc]
      exact (List.Perm.append_left f h1).trans hp
  · rintro ⟨fl, env⟩ h
    cases fl with
    | nx =>
      obtain ⟨q, f, hq, rfl, hp⟩ := h
      simp
      exact ⟨f, q, ⟨rfl, rfl⟩, hq, hp⟩
    | _ => exact h.elim
theorem divisors_ev (n : Nat) {N : Int} (h1 : 1 ≤ N) (h2 : N ≤ 1000) : Ev (gamT T (n + 1) 14 [mint N]) fun o => ∃ ds : List Int, o = (.ml (iM ds), [none]) ∧ (1 : Int) ∈ ds ∧ ds.length ≤ 1000 ∧ ∀ d ∈ ds, 1 ≤ d ∧ d ≤ N ∧ N % d = 0 := by
  refine ev_gam (d := d14) rfl rfl ?_
  show Ev (execSs (gamT T n) [] B14 [some (mint N), none, none]) _
  rw [B14]
  simp
  refine LcK.of (lc_pure (iD (rgI 1 (N + 1))) (fun d => match d with | .int d => decide (N % d = 0) | _ => false) .im (fun env => env = [some (mint N), none, none]) rfl (by simp [rgI_len]; omega) (fun k env _ => next_rg2 rfl (by omega) (by omega) (by omega) (by omega)) ?_) ?_
  · rintro d hd env rfl
    obtain ⟨c, hc, rfl⟩ := iD_mem hd
    have := rgI_mem.mp hc
    simp
    omega
  · rintro ⟨ms, env⟩ ⟨hm, rfl⟩
    rw [iD_filter] at hm
    simp only at hm
    subst hm
    simp
    refine ⟨_, rfl, ?_, ?_, fun d hd => ?_⟩
    · simp [List.mem_filter, rgI_mem]; omega
    · exact Nat.le_trans (List.length_filter_le _ _) (by simp [rgI_len]; omega)
    · simp only [List.mem_filter, rgI_mem, decide_eq_true_eq] at hd
      omega
theorem rgD_iD {n : Nat} : rgD n = iD (D8.upTo n) := by simp [rgD, D8.upTo, iD]
theorem cleans_iD {l : List Int} : cleans (iD l) = true := by
  induction l with
  | nil => simp [iD]
  | cons x l ih => simpa [iD] using ih
theorem intsOf_iD {l : List Int} : intsOf (iD l) = some l := by
  induction l with
  | nil => rfl
  | cons x l ih => simp only [iD, List.map_cons] at ih ⊢; simp [intsOf, ih]
theorem index_iD {l : List Int} {y : Int} (h : y ∈ l) : indexF (.im (.list (iD l))) (.im (.int y)) = some (mint (l.idxOf y : Nat)) := by
  show (intsOf (iD l)).bind _ = _
  rw [intsOf_iD, Option.bind_some]
  show (if y ∈ l then _ else _) = _
  rw [if_pos h]
def RL (R : M) (r : List Int) : Prop := R = .im (.list (iD r)) ∨ R = .ml (iM r)
theorem RL.isL {R : M} {r : List Int} (h : RL R r) : IsL R r := h.elim .inl fun z => .inr (.inr z)
theorem rl_rot {N : Int} : M.ml (iM (rgI 1 N) ++ [M.im (.int 0)]) = M.ml (iM (rgI 1 N ++ [0])) := by simp
theorem blk {a N x : Int} (h1 : 1 ≤ a) (hd : N % a = 0) (x0 : 0 ≤ x) (x1 : x < N) (y : Int) (y0 : 0 ≤ y) (y1 : y < a) : 0 ≤ x - x % a + y ∧ x - x % a + y < N := by
  have e1 := Int.emod_add_mul_ediv x a
  have e2 := Int.emod_add_mul_ediv N a
  have h3 := Int.emod_nonneg x (show a ≠ 0 by omega)
  have h4 := Int.emod_lt_of_pos x (show 0 < a by omega)
  have h5 : x / a < N / a := by
    apply Int.lt_of_mul_lt_mul_left (a := a) _ (by omega)
    omega
  have h6 : a * (x / a + 1) ≤ a * (N / a) := Int.mul_le_mul_of_nonneg_left (by omega) (by omega)
  rw [Int.mul_add, Int.mul_one] at h6
  have h7 : 0 ≤ a * (x / a) := Int.mul_nonneg (by omega) (Int.ediv_nonneg x0 (by omega))
  omega
theorem next_rgs {N i : Nat} {ks : List Nat} {k : Nat} {env : EnvM} (hs : slot env i = some (mint N)) (hk : ks = [3]) (h2 : N ≤ 1000) : nextK .rg1 [.sl i] ks k env = nth (iD (D8.upTo N)).length k (iD (D8.upTo N))[k]? := by
  have e : nextK .rg1 [.sl i] ks k env = nextK .rg1 [.tm (mint N)] ks k env := by simp only [nextK, peek, hs, Option.bind_some, Option.map_some]
  rw [e, next_rg hk (by omega) (by omega), Int.toNat_natCast, rgD_iD]
/-- a row called otherwise -/
theorem called_ev (n : Nat) {m : Nat} {a b nm : List Int} {D : PyData} (hNM : D = .list (iD nm) ∨ D = .tuple (iD nm)) (oa : D8.Ord m a) (ob : D8.Ord m b) (on : D8.Ord m nm) (hm : m ≤ 1000) :
    Ev (gamT T (n + 1) 15 [.im (.tuple [.tuple (iD a), .tuple (iD b)]), .im D]) fun o => ∃ a' b' : List Int, o = (.im (.tuple [.tuple (iD a'), .tuple (iD b')]), [none, none]) ∧ Cal m nm a a' ∧ Cal m nm b b' := by
  have hix : ∀ {x : Int}, 0 ≤ x → x < m → idxF (.im D) (.im (.int x)) = some (mint (it nm x)) := fun {x} x0 x1 => by
    rcases hNM with rfl | rfl
    · exact (show IsL _ nm from .inl rfl).idx x0 (by rw [on.len]; exact x1)
    · exact (show IsL _ nm from .inr (.inl rfl)).idx x0 (by rw [on.len]; exact x1)
  have hpin : pins [.im (.tuple [.tuple (iD a), .tuple (iD b)]), .im D] 0 = [] := by rcases hNM with rfl | rfl <;> rfl
  refine ev_gam (d := d15) rfl rfl ?_
  show Ev (execSs (gamT T n) (pins [.im (.tuple [.tuple (iD a), .tuple (iD b)]), .im D] 0) B15 [some (.im (.tuple [.tuple (iD a), .tuple (iD b)])), some (.im D), none, none, none, none, none]) _
  rw [hpin, B15]
  simp
  refine ForK.of (forLp_ev [.tuple (iD a), .tuple (iD b)] (fun k env => ∃ rs : List (List Int), ∃ x y z w, env = [some (.im (.tuple [.tuple (iD a), .tuple (iD b)])), some (.im D), some (.ml (rs.map fun r => .im (.tuple (iD r)))), x, y, z, w] ∧ rs.length = k ∧ ∀ (j : Nat) (r row : List Int), rs[j]? = some r → [a, b][j]? = some row → Cal m nm row r) (fun _ _ => False)
    ⟨[], _, _, _, _, rfl, rfl, fun _ _ _ h => absurd h (by simp)⟩ ?_ ?_) ?_
  · rintro k env ⟨rs, x, y, z, w, rfl, _⟩
    exact next_sl rfl rfl rfl
  · rintro k g env hk ⟨rs, x, y, z, w, rfl, hl, hrs⟩
    have hk2 := (List.getElem?_eq_some_iff.mp hk).1
    simp at hk2
    obtain ⟨row, rfl, orow, erow⟩ : ∃ row : List Int, g = .tuple (iD row) ∧ D8.Ord m row ∧ [a, b][k]? = some row := by
      rcases (by omega : k = 0 ∨ k = 1) with rfl | rfl
      · simp at hk; exact ⟨a, hk.symm, oa, rfl⟩
      · simp at hk; exact ⟨b, hk.symm, ob, rfl⟩
    have lrow := orow.len
    simp [ims, zeros, lrow]
    refine ⟨by omega, ?_⟩
    refine ForK.of (forLp_ev (enD (iD row)) (fun j env => ∃ f s o, env = [some (.im (.tuple [.tuple (iD a), .tuple (iD b)])), some (.im D), some (.ml (rs.map fun r => .im (.tuple (iD r)))), some (.im (.tuple (iD row))), some (.ml (iM f)), s, o] ∧ f.length = m ∧ ∀ i : Int, 0 ≤ i → i < j → i < m → it f (it nm i) = it nm (it row i)) (fun _ _ => False)
      ⟨List.replicate m 0, _, _, rfl, by simp, fun i h1 h2 => by omega⟩ ?_ ?_) ?_
    · rintro j env ⟨f, s, o, rfl, _⟩
      simp [nextK, peek, kdM, nextI, D8.items?, enD_len, enD_get]
    · rintro j g env hj ⟨f, s, o, rfl, lf, rf⟩
      rw [enD_get] at hj
      obtain ⟨t, ht1, rfl⟩ := Option.map_eq_some_iff.mp hj
      rw [iD_get] at ht1
      obtain ⟨t, ht, rfl⟩ := Option.map_eq_some_iff.mp ht1
      have hjl := (List.getElem?_eq_some_iff.mp ht).1
      have et : it row j = t := by have := it_some (r := row) (x := j) (by omega) (by omega); simp at this; rw [ht] at this; exact (Option.some.inj this).symm
      obtain ⟨t0, t1⟩ := orow.rng t (List.mem_of_getElem? ht)
      have hj0 : (0 : Int) ≤ j := by omega
      have e1 := hix hj0 (by omega : (j : Int) < m)
      have e2 := hix t0 t1
      have r1 := on.it hj0 (by omega : (j : Int) < m)
      simp [e1, e2, ixN_pos r1.1 (by rw [lf]; exact r1.2 : it nm j < (f.length : Int)), iM_set]
      refine ⟨f.set (it nm j).toNat (it nm t), rfl, by simp [lf], fun i i0 i1 i2 => ?_⟩
      have r2 := on.it i0 i2
      rw [it_set r2.1 (by omega)]
      by_cases e : i = j
      · subst e
        rw [if_pos (by omega), et]
      · rw [if_neg (fun z => e (on.inj i0 i2 hj0 (by omega) (by omega)))]
        exact rf i i0 (by omega) i2
    · rintro ⟨fl, env⟩ h
      cases fl with
      | nx =>
        obtain ⟨f, s, o, rfl, lf, rf⟩ := h
        rw [enD_len, len_iD, lrow] at rf
        simp
        refine ⟨by omega, rs ++ [f], by simp, by simp [hl], fun j r row' hr he => ?_⟩
        by_cases ej : j < rs.length
        · rw [List.getElem?_append_left ej] at hr
          exact hrs j r row' hr he
        · rw [List.getElem?_append_right (by omega)] at hr
          have : j = rs.length := by have := (List.getElem?_eq_some_iff.mp hr).1; simp at this; omega
          subst this
          simp at hr
          subst hr
          rw [hl, erow] at he
          cases he
          exact ⟨lf, fun i i0 i1 => rf i i0 i1 i1⟩
      | _ => exact h.elim
  · rintro ⟨fl, env⟩ h
    cases fl with
    | nx =>
      obtain ⟨rs, x, y, z, w, rfl, hl, hrs⟩ := h
      match rs, hl with
      | [r1, r2], _ =>
        simp
        rcases hNM with rfl | rfl
        · exact ⟨r1, r2, by simp, hrs 0 _ _ rfl rfl, hrs 1 _ _ rfl rfl⟩
        · exact ⟨r1, r2, by simp, hrs 0 _ _ rfl rfl, hrs 1 _ _ rfl rfl⟩
    | _ => exact h.elim

end K03

namespace D8
/-! ### rounds -/
structure Wlk (n : Nat) (r : List Int) (x : Int) (c : List Int) : Prop where
  hd : c[0]? = some x
  st : ∀ (i : Nat) (y z : Int), c[i]? = some y → c[i + 1]? = some z → z = it r y
  nd : c.Nodup
  rng : ∀ y ∈ c, 0 ≤ y ∧ y < n
def Cyc (n : Nat) (r : List Int) (x : Int) (c : List Int) : Prop := Wlk n r x c ∧ ∀ y, c.getLast? = some y → it r y = x
section
variable {n : Nat} {r : List Int}
theorem Wlk.one {x : Int} (h0 : 0 ≤ x) (h : x < n) : Wlk n r x [x] := ⟨rfl, fun i y z h1 h2 => by simp at h2, by simp, fun y hy => by simp at hy; subst hy; exact ⟨h0, h⟩⟩
theorem Wlk.ne {x : Int} {c : List Int} (w : Wlk n r x c) : c ≠ [] := fun e => by have := w.hd; rw [e] at this; simp at this
theorem Wlk.last {x : Int} {c : List Int} (w : Wlk n r x c) : ∃ y, c.getLast? = some y ∧ y ∈ c := by
  refine ⟨c.getLast w.ne, List.getLast?_eq_getLast w.ne, List.getLast_mem w.ne⟩
theorem Wlk.push {x y : Int} {c : List Int} (o : Ord n r) (w : Wlk n r x c) (hy : c.getLast? = some y) (hn : it r y ∉ c) : Wlk n r x (c ++ [it r y]) := by
  have hl : 0 < c.length := List.length_pos_iff.mpr w.ne
  have hm : y ∈ c := List.mem_of_getLast? hy
  refine ⟨by rw [List.getElem?_append_left hl]; exact w.hd, fun i a b h1 h2 => ?_, ?_, fun z hz => ?_⟩
  · by_cases c1 : i + 1 < c.length
    · rw [List.getElem?_append_left (by omega)] at h1
      rw [List.getElem?_append_left c1] at h2
      exact w.st i a b h1 h2
    · have hb := (List.getElem?_eq_some_iff.mp h2).1
      simp at hb
      have hi : i = c.length - 1 := by omega
      rw [List.getElem?_append_right (by omega)] at h2
      rw [List.getElem?_append_left (by omega)] at h1
      have : i + 1 - c.length = 0 := by omega
      rw [this] at h2
      simp at h2
      rw [List.getLast?_eq_getElem?, ← hi, h1] at hy
      cases hy
      exact h2.symm
  · rw [List.nodup_append]
    exact ⟨w.nd, by simp, fun a ha b hb e => hn (by simp at hb; subst hb; exact e ▸ ha)⟩
  · rcases List.mem_append.mp hz with h | h
    · exact w.rng z h
    · simp at h; subst h; have := w.rng y hm; exact o.it this.1 this.2
theorem Wlk.ret {x y : Int} {c : List Int} (o : Ord n r) (w : Wlk n r x c) (hy : c.getLast? = some y) (hm : it r y ∈ c) : it r y = x := by
  obtain ⟨i, hi⟩ := List.getElem?_of_mem hm
  have hil := (List.getElem?_eq_some_iff.mp hi).1
  cases i with
  | zero => rw [w.hd] at hi; exact (Option.some.inj hi).symm
  | succ i =>
    obtain ⟨a, ha⟩ : ∃ a, c[i]? = some a := ⟨c[i], List.getElem?_eq_getElem (by omega)⟩
    have e := w.st i a _ ha hi
    have ra := w.rng a (List.mem_of_getElem? ha)
    have ry := w.rng y (List.mem_of_getLast? hy)
    have := o.inj ry.1 ry.2 ra.1 ra.2 e
    subst this
    rw [List.getLast?_eq_getElem?] at hy
    have := (List.getElem?_inj (by omega) w.nd).mp (ha.trans hy.symm)
    omega
/-- one step along a round -/
theorem Cyc.step {x : Int} {c : List Int} (h : Cyc n r x c) {i : Int} (h0 : 0 ≤ i) (h1 : i < c.length) : it c ((i + 1) % c.length) = it r (it c i) := by
  have e1 := it_some h0 h1
  by_cases l : i + 1 < c.length
  · rw [Int.emod_eq_of_lt (by omega) l]
    have e2 := it_some (r := c) (x := i + 1) (by omega) l
    rw [show (i + 1).toNat = i.toNat + 1 by omega] at e2
    exact h.1.st _ _ _ e1 e2
  · rw [show i + 1 = (c.length : Int) by omega, Int.emod_self]
    have e3 : it c 0 = x := by have := it_some (r := c) (x := 0) (by omega) (by omega); rw [show (0 : Int).toNat = 0 from rfl, h.1.hd] at this; exact (Option.some.inj this).symm
    rw [e3, h.2]
    rw [List.getLast?_eq_getElem?, show c.length - 1 = i.toNat by omega, e1]
theorem Cyc.pw {x : Int} {c : List Int} (o : Ord n r) (h : Cyc n r x c) {i : Int} (h0 : 0 ≤ i) (h1 : i < c.length) (t : Int) : it c ((i + t) % c.length) = pw r t (it c i) := by
  have hp : (0 : Int) < c.length := by omega
  have m0 : ∀ z : Int, 0 ≤ z % c.length ∧ z % c.length < c.length := fun z => ⟨Int.emod_nonneg _ (by omega), Int.emod_lt_of_pos _ hp⟩
  have := o.pw_only (g := fun t => it c ((i + t) % c.length)) (fun t => h.1.rng _ (it_mem (m0 _).1 (m0 _).2)) (fun t => by
    show it c ((i + (t + 1)) % c.length) = _
    rw [show i + (t + 1) = i + t + 1 by omega, ← Int.emod_add_emod, h.step (m0 _).1 (m0 _).2]) t
  simp only [Int.add_zero] at this
  rw [this, Int.emod_eq_of_lt h0 h1]
/-- the rounds found in the first k places -/
inductive Rds (n : Nat) (r : List Int) : Nat → List (List Int) → Prop
  | nil : Rds n r 0 []
  | old {k : Nat} {rs : List (List Int)} : Rds n r k rs → (k : Int) ∈ rs.flatten → Rds n r (k + 1) rs
  | new {k : Nat} {rs : List (List Int)} {c : List Int} : Rds n r k rs → (k : Int) ∉ rs.flatten → Cyc n r k c → Rds n r (k + 1) (rs ++ [c])
theorem Rds.cyc {k : Nat} {rs : List (List Int)} (h : Rds n r k rs) : ∀ c ∈ rs, ∃ x, Cyc n r x c := by
  induction h with
  | nil => exact fun _ h => absurd h List.not_mem_nil
  | old _ _ ih => exact ih
  | new _ _ hc ih =>
    intro c h
    rcases List.mem_append.mp h with h | h
    · exact ih c h
    · simp at h; subst h; exact ⟨_, hc⟩
theorem Rds.has {k : Nat} {rs : List (List Int)} (h : Rds n r k rs) : ∀ j : Nat, j < k → (j : Int) ∈ rs.flatten := by
  induction h with
  | nil => exact fun _ h => absurd h (by omega)
  | @old k rs _ hm ih =>
    intro j hj
    by_cases e : j = k
    · subst e; exact hm
    · exact ih j (by omega)
  | @new k rs c _ _ hc ih =>
    intro j hj
    rw [List.flatten_append]
    by_cases e : j = k
    · subst e
      refine List.mem_append_right _ ?_
      simp
      exact List.mem_of_getElem? hc.1.hd
    · exact List.mem_append_left _ (ih j (by omega))
theorem Rds.rng {k : Nat} {rs : List (List Int)} (h : Rds n r k rs) : ∀ x ∈ rs.flatten, 0 ≤ x ∧ x < n := fun x hx => by
  obtain ⟨c, hc, hxc⟩ := List.mem_flatten.mp hx
  obtain ⟨_, h⟩ := h.cyc c hc
  exact h.1.rng x hxc
theorem Rds.back {k : Nat} {rs : List (List Int)} (o : Ord n r) (h : Rds n r k rs) {x : Int} (x0 : 0 ≤ x) (x1 : x < n) (hx : it r x ∈ rs.flatten) : x ∈ rs.flatten := by
  obtain ⟨c, hc, hxc⟩ := List.mem_flatten.mp hx
  obtain ⟨b, w, hl⟩ := h.cyc c hc
  refine List.mem_flatten.mpr ⟨c, hc, ?_⟩
  obtain ⟨i, hi⟩ := List.getElem?_of_mem hxc
  cases i with
  | zero =>
    obtain ⟨y, hy, hym⟩ := w.last
    have e := hl y hy
    rw [w.hd] at hi
    have ry := w.rng y hym
    have := o.inj ry.1 ry.2 x0 x1 (e.trans (Option.some.inj hi))
    exact this ▸ hym
  | succ i =>
    have hil := (List.getElem?_eq_some_iff.mp hi).1
    obtain ⟨a, ha⟩ : ∃ a, c[i]? = some a := ⟨c[i], List.getElem?_eq_getElem (by omega)⟩
    have e := w.st i a _ ha hi
    have ra := w.rng a (List.mem_of_getElem? ha)
    have := o.inj ra.1 ra.2 x0 x1 e.symm
    exact this ▸ List.mem_of_getElem? ha
/-- there is but one round from a place -/
theorem Cyc.only {x : Int} {c d : List Int} (hc : Cyc n r x c) (hd : Cyc n r x d) : c = d := by
  have pre : ∀ i, i < c.length → i < d.length → c[i]? = d[i]? := fun i => by
    induction i with
    | zero => intro _ _; rw [hc.1.hd, hd.1.hd]
    | succ i ih =>
      intro h1 h2
      have e := ih (by omega) (by omega)
      obtain ⟨a, ha⟩ : ∃ a, c[i]? = some a := ⟨c[i], List.getElem?_eq_getElem (by omega)⟩
      obtain ⟨b, hb⟩ : ∃ b, c[i + 1]? = some b := ⟨c[i + 1], List.getElem?_eq_getElem h1⟩
      obtain ⟨b', hb'⟩ : ∃ b, d[i + 1]? = some b := ⟨d[i + 1], List.getElem?_eq_getElem h2⟩
      rw [hb, hb', hc.1.st i a b ha hb, hd.1.st i a b' (e ▸ ha) hb']
  have lt : ∀ {c d : List Int}, Cyc n r x c → Cyc n r x d → (∀ i, i < c.length → i < d.length → c[i]? = d[i]?) → ¬ c.length < d.length := fun {c d} hc hd pre hl => by
    have hp : 0 < c.length := List.length_pos_iff.mpr hc.1.ne
    obtain ⟨y, hy, _⟩ := hc.1.last
    have e1 := hc.2 y hy
    rw [List.getLast?_eq_getElem?] at hy
    have e2 := pre (c.length - 1) (by omega) (by omega)
    obtain ⟨b, hb⟩ : ∃ b, d[c.length]? = some b := ⟨d[c.length], List.getElem?_eq_getElem hl⟩
    have e3 := hd.1.st (c.length - 1) y b (e2 ▸ hy) (by rw [show c.length - 1 + 1 = c.length by omega]; exact hb)
    rw [e1] at e3
    subst e3
    have := (List.getElem?_inj (i := c.length) (j := 0) hl hd.1.nd).mp (hb.trans hd.1.hd.symm)
    omega
  have l1 := lt hc hd pre
  have l2 := lt hd hc fun i h1 h2 => (pre i h2 h1).symm
  refine List.ext_getElem? fun i => ?_
  by_cases h : i < c.length
  · exact pre i h (by omega)
  · rw [List.getElem?_eq_none (by omega), List.getElem?_eq_none (by omega)]
theorem Rds.only {k : Nat} {rs rs' : List (List Int)} (h : Rds n r k rs) (h' : Rds n r k rs') : rs = rs' := by
  induction h generalizing rs' with
  | nil => cases h'; rfl
  | old _ hm ih =>
    cases h' with
    | old h1 _ => exact ih h1
    | new h1 hn _ => have := ih h1; subst this; exact absurd hm hn
  | new _ hn hc ih =>
    cases h' with
    | old h1 hm => have := ih h1; subst this; exact absurd hm hn
    | new h1 _ hc' => have := ih h1; subst this; rw [hc.only hc']
end
end D8

namespace K03
open PySem PySem.Spec PyProof.Rows L2 D8
def Fl (N : Nat) (way : Int) (env : EnvM) : Prop := ∃ q R U r u s1 s6 s7 s8 s9, PotOk q ∧ env = [some (.ml q), s1, some (mint N), some (mint way), some R, some U, s6, s7, s8, s9, none, none, none, none, none, none, none] ∧ RL R r ∧ RL U u ∧ D8.Ord N r ∧ D8.Ord N u
abbrev st0 : S := (.ite (.pr .eq (.cons (.nm 3) (.cons (.cs (.int 0)) .nil))) (.cons (.asg (.nm 4) (.pr .add (.cons (.pr .rgL2 (.cons (.cs (.int 1)) (.cons (.nm 2) .nil))) (.cons (.lsf (.cons (.cs (.int 0)) .nil)) .nil)))) .nil) .nil)
theorem st0_ev (Γ : Gam) {N : Nat} {way : Int} {env : EnvM} (h1 : 1 ≤ N) (h2 : N ≤ 1000) (h : Fl N way env) : Ev (execS Γ [0] st0 env) fun r => r.1 = .nx ∧ Fl N way r.2 := by
  obtain ⟨q, R, U, r, u, s1, s6, s7, s8, s9, hq, rfl, hR, hU, rr, ru⟩ := h
  have hrg : rgF 1 N = some (iD (rgI 1 N)) := rgF_of (by omega) (by omega) (by omega) (by omega)
  simp [hrg]
  refine ⟨fun e => ⟨by rw [rgI_len]; omega, q, _, U, rgI 1 N ++ [0], u, _, _, _, _, _, hq, rfl, .inr (by simp), hU, ord_rot h1, ru⟩, fun e => ⟨q, R, U, r, u, _, _, _, _, _, hq, rfl, hR, hU, rr, ru⟩⟩
abbrev st1 : S := (.ite (.pr .eq (.cons (.nm 3) (.cons (.cs (.int 1)) .nil))) (.cons (.asg (.nm 6) (.call 9 (.cons (.nm 0) (.cons (.call 14 (.cons (.nm 2) .nil)) .nil)))) (.cons (.asg (.nm 4) (.lc [13, 14] (.nm 14) .rg1 (.cons (.nm 2) .nil) none (.pr .add (.cons (.pr .sub (.cons (.nm 14) (.cons (.pr .mod (.cons (.nm 14) (.cons (.nm 6) .nil))) .nil))) (.cons (.pr .mod (.cons (.pr .int (.cons (.pr .add (.cons (.nm 14) (.cons (.cs (.int 1)) .nil))) .nil)) (.cons (.nm 6) .nil))) .nil))))) (.cons (.asg (.nm 7) (.call 8 (.cons (.nm 0) (.cons (.nm 6) .nil)))) (.cons (.asg (.nm 5) (.lc [13, 14] (.nm 14) .rg1 (.cons (.nm 2) .nil) none (.ite (.pr .lt (.cons (.pr .add (.cons (.nm 14) (.cons (.nm 6) .nil))) (.cons (.nm 2) .nil))) (.pr .add (.cons (.nm 14) (.cons (.nm 6) .nil))) (.pr .mod (.cons (.pr .int (.cons (.pr .add (.cons (.nm 14) (.cons (.nm 7) .nil))) .nil)) (.cons (.nm 6) .nil)))))) .nil)))) .nil)
theorem st1_ev (n : Nat) {N : Nat} {way : Int} {env : EnvM} (h1 : 1 ≤ N) (h2 : N ≤ 1000) (h : Fl N way env) : Ev (execS (gamT T (n + 2)) [0] st1 env) fun r => r.1 = .nx ∧ Fl N way r.2 := by
  obtain ⟨q, R, U, r, u, s1, s6, s7, s8, s9, hq, rfl, hR, hU, rr, ru⟩ := h
  simp
  refine ⟨fun e => ?_, fun e => ⟨q, R, U, r, u, _, _, _, _, _, hq, rfl, hR, hU, rr, ru⟩⟩
  refine CallK.of (divisors_ev (n + 1) (N := N) (by omega) (by omega)) ?_
  rintro _ ⟨ds, rfl, d1, dl, hds⟩
  simp
  rw [iM_iD]
  refine CallK.of (one_ev n (ds := iD ds) (by intro z; have : (PyData.int 1) ∈ iD ds := List.mem_map_of_mem d1; rw [z] at this; cases this) (by simp; omega) hq) ?_
  rintro _ ⟨d, q1, rfl, hq1, hd⟩
  obtain ⟨a, ha, rfl⟩ := iD_mem hd
  obtain ⟨a1, a2, a3⟩ := hds a ha
  simp
  refine LcK.of (lc_map (iD (D8.upTo N)) (fun d => match d with | .int x => mint (x - x % a + (x + 1) % a) | d => .im d) (fun env => env = [some (.ml q1), s1, some (mint N), some (mint way), some R, some U, some (mint a), s7, s8, s9, none, none, none, none, none, none, none]) rfl (by simp [D8.len_upTo]; omega) (fun k env h => by subst h; exact next_rgs rfl rfl h2) ?_) ?_
  · rintro d hd env rfl
    obtain ⟨c, hc, rfl⟩ := iD_mem hd
    simp
    omega
  rintro ⟨ms, env⟩ ⟨hm, rfl⟩
  rw [iD_map (g := fun x => x - x % a + (x + 1) % a) (fun c => rfl)] at hm
  simp only at hm
  subst hm
  have r1 : D8.Ord N ((D8.upTo N).map fun x => x - x % a + (x + 1) % a) := ord_box1 a1 a3 fun x x0 x1 => blk a1 a3 x0 x1 _ (Int.emod_nonneg _ (by omega)) (Int.emod_lt_of_pos _ (by omega))
  generalize (D8.upTo N).map (fun x => x - x % a + (x + 1) % a) = r' at r1 ⊢
  simp
  refine CallK.of (of_ev (n + 1) (by omega) hq1) ?_
  rintro _ ⟨tw, q2, rfl, hq2, htw, _⟩
  simp
  refine LcK.of (lc_map (iD (D8.upTo N)) (fun d => match d with | .int x => mint (if x + a < N then x + a else (x + tw) % a) | d => .im d) (fun env => env = [some (.ml q2), s1, some (mint N), some (mint way), some (.ml (iM r')), some U, some (mint a), some (mint tw), s8, s9, none, none, none, none, none, none, none]) rfl (by simp [D8.len_upTo]; omega) (fun k env h => by subst h; exact next_rgs rfl rfl h2) ?_) ?_
  · rintro d hd env rfl
    obtain ⟨c, hc, rfl⟩ := iD_mem hd
    simp
    refine ⟨fun h h' => by omega, fun h => ⟨by omega, fun h' => by omega⟩⟩
  rintro ⟨ms, env⟩ ⟨hm, rfl⟩
  rw [iD_map (g := fun x => if x + a < N then x + a else (x + tw) % a) (fun c => rfl)] at hm
  simp only at hm
  subst hm
  obtain ⟨tw0, tw1⟩ := htw (by omega)
  have r2 : D8.Ord N ((D8.upTo N).map fun x => if x + a < N then x + a else (x + tw) % a) := ord_box2 a1 a2 a3 tw0 tw1
  generalize (D8.upTo N).map (fun x => if x + a < N then x + a else (x + tw) % a) = u' at r2 ⊢
  simp
  exact ⟨q2, _, _, r', u', _, _, _, _, _, hq2, rfl, .inr rfl, .inr rfl, r1, r2⟩
abbrev st2 : S := (.ite (.pr .eq (.cons (.nm 3) (.cons (.cs (.int 2)) .nil))) (.cons (.asg (.nm 5) (.pr .rgL1 (.cons (.nm 2) .nil))) (.cons (.asg (.nm 4) (.pr .add (.cons (.pr .rgL2 (.cons (.cs (.int 1)) (.cons (.nm 2) .nil))) (.cons (.lsf (.cons (.cs (.int 0)) .nil)) .nil)))) (.cons (.ite (.pr .gt (.cons (.nm 2) (.cons (.cs (.int 1)) .nil))) (.cons (.par [(.nm 8), (.nm 9)] (.cons (.call 8 (.cons (.nm 0) (.cons (.nm 2) .nil))) (.cons (.call 8 (.cons (.nm 0) (.cons (.nm 2) .nil))) .nil))) (.cons (.par [(.ix 5 .nil (.nm 8)), (.ix 5 .nil (.nm 9))] (.cons (.pr .idx (.cons (.nm 5) (.cons (.nm 9) .nil))) (.cons (.pr .idx (.cons (.nm 5) (.cons (.nm 8) .nil))) .nil))) .nil)) .nil) .nil))) .nil)
theorem ord_swap {N : Nat} {u : List Int} (o : D8.Ord N u) {i j : Int} (i0 : 0 ≤ i) (i1 : i < N) (j0 : 0 ≤ j) (j1 : j < N) : D8.Ord N ((u.set i.toNat (it u j)).set j.toNat (it u i)) := by
  have lu := o.len
  have e : ∀ x : Int, 0 ≤ x → x < N → it ((u.set i.toNat (it u j)).set j.toNat (it u i)) x = it u (if x = j then i else if x = i then j else x) := fun x x0 x1 => by
    rw [it_set x0 (by simp; omega), it_set x0 (by omega)]
    have ei : ((i.toNat : Nat) : Int) = i := by omega
    have ej : ((j.toNat : Nat) : Int) = j := by omega
    rw [ei, ej]
    split
    · rfl
    · split <;> rfl
  refine ord_of (g := fun y => (fun x : Int => if x = j then i else if x = i then j else x) (inv u y)) (by simp [lu]) (fun x x0 x1 => ?_) fun x x0 x1 => ?_
  · rw [e x x0 x1]
    refine o.it ?_ ?_
    · split
      · exact i0
      · split <;> omega
    · split
      · exact i1
      · split <;> omega
  · rw [e x x0 x1]
    show (if inv u _ = j then i else _) = x
    rw [o.inv_it (by split; · exact i0
                     · split <;> omega) (by split; · exact i1
                                            · split <;> omega)]
    by_cases h1 : x = j
    · rw [if_pos h1]
      by_cases h2 : i = j
      · rw [if_pos h2]; omega
      · rw [if_neg h2, if_pos rfl]; exact h1.symm
    · rw [if_neg h1]
      by_cases h2 : x = i
      · rw [if_pos h2, if_pos rfl]; exact h2.symm
      · rw [if_neg h2, if_neg h1, if_neg h2]
theorem st2_ev (n : Nat) {N : Nat} {way : Int} {env : EnvM} (h1 : 1 ≤ N) (h2 : N ≤ 1000) (h : Fl N way env) : Ev (execS (gamT T (n + 2)) [0] st2 env) fun r => r.1 = .nx ∧ Fl N way r.2 := by
  obtain ⟨q, R, U, r, u, s1, s6, s7, s8, s9, hq, rfl, hR, hU, rr, ru⟩ := h
  have hrg : rgF 1 N = some (iD (rgI 1 N)) := rgF_of (by omega) (by omega) (by omega) (by omega)
  have hrg0 : rgF 0 N = some (iD (rgI 0 N)) := rgF_of (by omega) (by omega) (by omega) (by omega)
  simp [hrg, hrg0]
  refine ⟨fun e => ⟨by rw [rgI_len]; omega, fun h => ?_, fun h => ⟨q, _, _, rgI 1 N ++ [0], rgI 0 N, _, _, _, _, _, hq, rfl, .inr (by simp), .inr rfl, ord_rot h1, ord_rg⟩⟩, fun e => ⟨q, R, U, r, u, _, _, _, _, _, hq, rfl, hR, hU, rr, ru⟩⟩
  have hrow := ord_rg (n := N)
  generalize rgI 0 (N : Int) = u0 at hrow ⊢
  refine CallK.of (of_ev (n + 1) (by omega) hq) ?_
  rintro _ ⟨i, q1, rfl, hq1, hi, _⟩
  obtain ⟨i0, i1⟩ := hi (by omega)
  simp
  refine CallK.of (of_ev (n + 1) (by omega) hq1) ?_
  rintro _ ⟨j, q2, rfl, hq2, hj, _⟩
  obtain ⟨j0, j1⟩ := hj (by omega)
  have ei := it_some (r := u0) i0 (by rw [hrow.len]; exact i1)
  have ej := it_some (r := u0) j0 (by rw [hrow.len]; exact j1)
  have mi := hrow.rng _ (it_mem (r := u0) i0 (by rw [hrow.len]; exact i1))
  have mj := hrow.rng _ (it_mem (r := u0) j0 (by rw [hrow.len]; exact j1))
  have li : (i : Int) < (u0.length : Int) := by rw [hrow.len]; exact i1
  have lj : (j : Int) < (u0.length : Int) := by rw [hrow.len]; exact j1
  simp [atI_pos i0, atI_pos j0, iM_get, ei, ej, ixN_pos i0 li, ixN_pos j0 lj, iM_set]
  exact ⟨q2, _, _, rgI 1 N ++ [0], _, _, _, _, _, _, hq2, rfl, .inr (by simp), .inr rfl, ord_rot h1, ord_swap hrow i0 i1 j0 j1⟩
def flP1 : S := match B13 with
  | .cons s _ => s
  | _ => .pass
def flP2 : S := match B13 with
  | .cons _ (.cons s _) => s
  | _ => .pass
def flRest : Ss := match B13 with
  | .cons _ (.cons _ r) => r
  | _ => .nil
def flTail : Ss := match flRest with
  | .cons _ (.cons _ (.cons _ r)) => r
  | _ => .nil
theorem clean_tup {l : List Int} : clean (.tuple (iD l)) = true := by simp [cleans_iD]
/-- what is reached, called by places -/
theorem inv_mem {B : List Int} {z : Int} (h : z ∈ B) : 0 ≤ inv B z ∧ inv B z < B.length ∧ it B (inv B z) = z := by
  have hl := List.idxOf_lt_length_of_mem h
  refine ⟨by unfold inv; omega, by unfold inv; omega, ?_⟩
  unfold inv
  rw [it_get hl]
  exact List.getElem_idxOf hl
theorem inv_nd {B : List Int} (hn : B.Nodup) {i : Int} (i0 : 0 ≤ i) (i1 : i < B.length) : inv B (it B i) = i := by
  obtain ⟨a0, a1, a2⟩ := inv_mem (it_mem i0 i1)
  have h1 := it_some (r := B) i0 i1
  have h2 := it_some (r := B) a0 a1
  rw [a2] at h2
  have := (List.getElem?_inj (by omega) hn).mp (h1.trans h2.symm)
  omega
def byB (B row : List Int) : List Int := B.map fun x => inv B (it row x)
theorem byB_it {B row : List Int} {i : Int} (i0 : 0 ≤ i) (i1 : i < B.length) : it (byB B row) i = inv B (it row (it B i)) := it_map (n := B.length) rfl i0 i1
theorem byB_ord {N : Nat} {B row : List Int} (o : D8.Ord N row) (hn : B.Nodup) (hr : ∀ x ∈ B, 0 ≤ x ∧ x < N) (hc : ∀ x ∈ B, it row x ∈ B) : D8.Ord B.length (byB B row) :=
  ord_of (g := fun y => inv B (inv row (it B y))) (by simp [byB]) (fun i i0 i1 => by
    rw [byB_it i0 i1]
    have := inv_mem (hc _ (it_mem i0 i1))
    exact ⟨this.1, this.2.1⟩) fun i i0 i1 => by
    have hm := it_mem (r := B) i0 i1
    have h2 := inv_mem (hc _ hm)
    have h3 := hr _ hm
    show inv B (inv row (it B _)) = i
    rw [byB_it i0 i1, h2.2.2, o.inv_it h3.1 h3.2, inv_nd hn i0 i1]
theorem byB_cc {N : Nat} {r u B : List Int} {s : Int} (w : Rch N r u s B) (hc : ∀ x ∈ B, it r x ∈ B ∧ it u x ∈ B) : CC B.length (byB B r) (byB B u) := fun P h1 h2 => by
  have key : ∀ y ∈ B, y ∈ B ∧ (P (inv B y) ↔ P (inv B s)) := w.min (fun y => y ∈ B ∧ (P (inv B y) ↔ P (inv B s))) ⟨w.hs, Iff.rfl⟩ fun x x0 x1 ⟨hx, hp⟩ => by
    obtain ⟨a0, a1, a2⟩ := inv_mem hx
    have e1 := h1 _ a0 a1
    have e2 := h2 _ a0 a1
    rw [byB_it a0 a1, a2] at e1 e2
    exact ⟨⟨(hc x hx).1, e1.trans hp⟩, (hc x hx).2, e2.trans hp⟩
  intro x y x0 x1 y0 y1 hx
  have kx := (key _ (it_mem x0 x1)).2
  have ky := (key _ (it_mem y0 y1)).2
  rw [inv_nd w.nd x0 x1] at kx
  rw [inv_nd w.nd y0 y1] at ky
  exact ky.mpr (kx.mp hx)
def rowOf : PyData → List Int
  | .list ds => (intsOf ds).getD []
  | _ => []
theorem rowOf_iD {l : List Int} : rowOf (.list (iD l)) = l := by simp [rowOf, intsOf_iD]
theorem tail_ev (n : Nat) {N : Nat} {way : Int} {env : EnvM} (h1 : 1 ≤ N) (h2 : N ≤ 12) (h : Fl N way env) : Ev (execSs (gamT T (n + 2)) [0] flTail env) fun o => ∃ (m : Nat) (a b : List Int) (q' : List M) (e : EnvM), o = (.rt (.im (.tuple [.tuple (iD a), .tuple (iD b)])), some (.ml q') :: e) ∧ PotOk q' ∧ 1 ≤ m ∧ m ≤ 12 ∧ (D8.Ord m a ∧ D8.Ord m b) ∧ CC m a b ∧ e ≠ [] := by
  obtain ⟨q, R, U, r, u, s1, s6, s7, s8, s9, hq, rfl, hR, hU, rr, ru⟩ := h
  have fzR : R.fz = .list (iD r) := by rcases hR with rfl | rfl <;> simp
  have fzU : U.fz = .list (iD u) := by rcases hU with rfl | rfl <;> simp
  simp only [flTail, flRest, B13]
  rw [ev_Ss_cons]
  simp
  refine CallK.of (of_ev (n + 1) (by omega) hq) ?_
  rintro _ ⟨sq, q1, rfl, hq1, hs, _⟩
  obtain ⟨sq0, sq1⟩ := hs (by omega)
  have lB : ∀ {row : List Int} {B : List Int}, (∀ x ∈ B, it row x ∈ B) → D8.Ord N row → (∀ x ∈ B, 0 ≤ x ∧ x < N) → ∀ x ∈ B, (iD row)[x.toNat]? = some (.int (it row x)) ∧ indexF (.im (.list (iD B))) (.im (.int (it row x))) = some (mint (inv B (it row x))) ∧ 0 ≤ x := fun hc hr hb x hx => by
    have h := hb x hx
    refine ⟨?_, index_iD (hc x hx), h.1⟩
    rw [iD_get, it_some h.1 (by rw [hr.len]; exact h.2)]; rfl
  rcases hR with rfl | rfl <;> rcases hU with rfl | rfl
  all_goals
    simp
    refine CallK.of (reached_ev (n + 1) (by first | exact .inl rfl | exact .inr (.inr rfl)) (by first | exact .inl rfl | exact .inr (.inr rfl)) rr.len ru.len rr.rng ru.rng sq0 sq1 (by omega)) ?_
    rintro _ ⟨B, rfl, w, cl⟩
    have hB := nd_len w.nd w.rng
    have hB1 : 0 < B.length := List.length_pos_of_mem w.hs
    have hrgB : rgF 0 B.length = some (iD (rgI 0 B.length)) := rgF_of (by omega) (by omega) (by omega) (by omega)
    simp [bk]
    refine LcK.of (lc_map [.list (iD r), .list (iD u)] (fun d => .ml (iM (byB B (rowOf d)))) (fun env => ∃ R' U', env = [some (.ml q1), s1, some (mint N), some (mint way), R', U', s6, s7, s8, s9, some (.im (.list (iD B))), none, none, none, none, none, none]) ⟨_, _, rfl⟩ (by simp) (fun k env _ => next_tm rfl (by simp)) ?_) ?_
    · rintro d hd env ⟨R', U', rfl⟩
      obtain ⟨row, rfl, hrow, hcl⟩ : ∃ row, d = .list (iD row) ∧ D8.Ord N row ∧ ∀ x ∈ B, it row x ∈ B := by
        simp only [List.mem_cons, List.not_mem_nil, or_false] at hd
        rcases hd with rfl | rfl
        · exact ⟨r, rfl, rr, fun x hx => (cl x hx).1⟩
        · exact ⟨u, rfl, ru, fun x hx => (cl x hx).2⟩
      have hx3 := lB hcl hrow w.rng
      rw [rowOf_iD]
      simp
      refine LcK.of (lc_map (iD B) (fun d => match d with | .int x => mint (inv B (it row x)) | d => .im d) (fun env => env = [some (.ml q1), s1, some (mint N), some (mint way), R', U', s6, s7, s8, s9, some (.im (.list (iD B))), none, none, none, none, some (.im (.list (iD row))), none]) rfl (by simp; omega) (fun k env h => by subst h; exact next_sl rfl rfl rfl) ?_) ?_
      · rintro d hd env rfl
        obtain ⟨x, hx, rfl⟩ := iD_mem hd
        obtain ⟨e1, e2, x0⟩ := hx3 x hx
        simp [kdM, atI_pos x0, e1, e2]
      · rintro ⟨ms, env⟩ ⟨hm, rfl⟩
        rw [iD_map (g := fun x => inv B (it row x)) (fun c => rfl)] at hm
        simp only at hm
        subst hm
        simp [byB]
    rintro ⟨ms, env⟩ ⟨hm, R', U', rfl⟩
    simp only [List.map_cons, List.map_nil, rowOf_iD] at hm
    subst hm
    have r1 := byB_ord rr w.nd w.rng fun x hx => (cl x hx).1
    have r2 := byB_ord ru w.nd w.rng fun x hx => (cl x hx).2
    have cc := byB_cc w cl
    generalize byB B r = l1 at r1 cc ⊢
    generalize byB B u = l2 at r2 cc ⊢
    simp [hrgB]
    refine CallK.of (order_ev n hq1 (by rw [rgI_len]; omega)) ?_
    rintro _ ⟨nm, q2, rfl, hq2, hnm⟩
    have rn := ord_perm hnm
    simp [cleans_iD]
    refine CallK.of (called_ev (n + 1) (.inl rfl) r1 r2 rn (by omega)) ?_
    rintro _ ⟨a, b, rfl, ca, cb⟩
    simp
    exact ⟨B.length, a, b, q2, _, ⟨⟨rfl, rfl⟩, rfl, rfl⟩, hq2, by omega, by omega, ⟨ca.ord rn r1, cb.ord rn r2⟩, cc.called rn r1 r2 ca cb, by simp⟩
theorem floor_ev (n : Nat) {q : List M} {most : Int} (hq : PotOk q) (hm : 1 ≤ most ∧ most ≤ 12) : Ev (gamT T (n + 3) 13 [.ml q, mint most]) fun o => ∃ (m : Nat) (a b : List Int) (q' : List M), o = (.im (.tuple [.tuple (iD a), .tuple (iD b)]), [some (.ml q'), none]) ∧ PotOk q' ∧ 1 ≤ m ∧ m ≤ 12 ∧ Okf m (a, b) ∧ CC m a b := by
  refine ev_gam (d := d13) rfl rfl ?_
  show Ev (execSs (gamT T (n + 2)) [0] B13 [some (.ml q), some (mint most), none, none, none, none, none, none, none, none, none, none, none, none, none, none, none]) _
  rw [show B13 = .cons flP1 (.cons flP2 flRest) from rfl]
  simp only [flP1, flP2, B13]
  generalize hQ : (fun r : D8.Fl × EnvM => _) = Q
  rw [ev_Ss_cons]
  simp
  refine CallK.of (of_ev (n + 1) (by omega) hq) ?_
  rintro _ ⟨i, q1, rfl, hq1, hi, _⟩
  obtain ⟨i0, i1⟩ := hi (by omega)
  obtain ⟨N, hN⟩ : ∃ N : Nat, 1 + i = (N : Int) := ⟨(1 + i).toNat, by omega⟩
  simp [hN]
  refine CallK.of (of_ev (n + 1) (by decide) hq1) ?_
  rintro _ ⟨way, q2, rfl, hq2, _, _⟩
  have hrg0 : rgF 0 N = some (iD (rgI 0 N)) := rgF_of (by omega) (by omega) (by omega) (by omega)
  simp [hrg0]
  refine CallK.of (order_ev n hq2 (by rw [rgI_len]; omega)) ?_
  rintro _ ⟨r, q3, rfl, hq3, hr⟩
  simp [hrg0]
  refine CallK.of (order_ev n hq3 (by rw [rgI_len]; omega)) ?_
  rintro _ ⟨u, q4, rfl, hq4, hu⟩
  simp
  rw [show flRest = .cons st0 (.cons st1 (.cons st2 flTail)) from rfl]
  show Ev _ _
  refine ex_nx (st0_ev _ (N := N) (way := way) (by omega) (by omega) ⟨q4, _, _, r, u, _, _, _, _, _, hq4, rfl, .inl rfl, .inl rfl, ord_perm hr, ord_perm hu⟩) fun env he => ?_
  refine ex_nx (st1_ev n (by omega) (by omega) he) fun env he => ?_
  refine ex_nx (st2_ev n (by omega) (by omega) he) fun env he => ?_
  refine Ev.mono (tail_ev n (by omega) (by omega) he) ?_
  rintro _ ⟨m, a, b, q', e, rfl, hq', m1, m2, ra, rb, hne⟩
  subst hQ
  match e, hne with
  | x :: e, _ =>
    simp
    exact ⟨m, a, b, q', ⟨⟨rfl, rfl⟩, rfl⟩, hq', m1, m2, ra, rb⟩
def rsD (rs : List (List Int)) : List PyData := rs.map fun c => .tuple (iD c)
@[simp] theorem rsD_len {rs : List (List Int)} : (rsD rs).length = rs.length := by simp [rsD]
theorem rsD_get {rs : List (List Int)} {k : Nat} : (rsD rs)[k]? = rs[k]?.map fun c => .tuple (iD c) := by simp [rsD]
theorem rsD_nil : ([] : List M) = (rsD []).map M.im := rfl
theorem rds_len {N : Nat} {r : List Int} {k : Nat} {rs : List (List Int)} (h : Rds N r k rs) : rs.length ≤ k := by
  induction h with
  | nil => exact Nat.le_refl _
  | old _ _ ih => omega
  | new _ _ _ ih => simp; omega
@[simp] theorem inF_md {kvs : List (Key × M)} {g : Int} : inF (.im (.int g)) (.md kvs) = some (mdHas kvs (.inl g)) := rfl

end K03

namespace D8
open Classical
/-! ### orbits, periods, parity -/
theorem least_ex {P : Nat → Prop} (h : ∃ k, P k) : ∃ k, P k ∧ ∀ m, m < k → ¬ P m := by
  obtain ⟨k, hk⟩ := h
  induction k using Nat.strongRecOn with
  | ind k ih =>
    by_cases e : ∃ m, m < k ∧ P m
    · obtain ⟨m, h1, h2⟩ := e
      exact ih m h1 h2
    · exact ⟨k, hk, fun m h1 h2 => e ⟨m, h1, h2⟩⟩
section
variable {n : Nat} {r : List Int}
/-- y is in the orbit of x -/
def Ob (r : List Int) (x y : Int) : Prop := ∃ t : Int, pw r t x = y
structure Per (r : List Int) (x : Int) (l : Nat) : Prop where
  pos : 0 < l
  bk : pw r l x = x
  lt : ∀ m : Nat, 0 < m → m < l → pw r m x ≠ x
theorem Ord.per_ex (o : Ord n r) {x : Int} (h0 : 0 ≤ x) (h : x < n) : ∃ l, Per r x l := by
  have : ∃ k : Nat, 0 < k ∧ pw r k x = x := by
    refine Classical.byContradiction fun hn => ?_
    have nd : ((List.range (n + 1)).map fun (k : Nat) => pw r k x).Nodup := by
      rw [List.nodup_iff_pairwise_ne, List.pairwise_map]
      refine List.Pairwise.imp_of_mem ?_ List.pairwise_lt_range
      intro i j _ _ hij e
      refine hn ⟨j - i, by omega, ?_⟩
      have h1 := o.pw_add (-(i : Int)) j h0 h
      rw [← e, o.pw_back' i h0 h] at h1
      rw [← h1]
      congr 1
      omega
    have hl := nd_le (l2 := upTo n) nd fun y hy => by
      obtain ⟨k, _, rfl⟩ := List.mem_map.mp hy
      exact mem_upTo.mpr (o.pw_rng k h0 h)
    rw [List.length_map, List.length_range, len_upTo] at hl
    omega
  obtain ⟨k, ⟨k0, hk⟩, hm⟩ := least_ex this
  exact ⟨k, k0, hk, fun m m0 ml e => hm m ml ⟨m0, e⟩⟩
theorem Per.zero {l : Nat} {x : Int} (o : Ord n r) (h0 : 0 ≤ x) (h : x < n) (p : Per r x l) {t : Int} (e : pw r t x = x) : (l : Int) ∣ t := by
  have hp : (0 : Int) < l := by have := p.pos; omega
  have rep : ∀ k : Nat, pw r ((l : Int) * k) x = x := fun k => by
    induction k with
    | zero => simp; rfl
    | succ k ih =>
      have := o.pw_add l ((l : Int) * k) h0 h
      rw [ih, p.bk] at this
      rw [← this]
      congr 1
      rw [Int.natCast_succ, Int.mul_add, Int.mul_one, Int.add_comm]
  have rep2 : ∀ k : Int, pw r ((l : Int) * k) x = x := fun k => by
    rcases Int.le_total 0 k with hk | hk
    · have := rep k.toNat
      rwa [Int.toNat_of_nonneg hk] at this
    · have := rep (-k).toNat
      rw [Int.toNat_of_nonneg (by omega)] at this
      have h2 := o.pw_back ((l : Int) * k) h0 h
      rw [Int.mul_neg] at this
      rw [this] at h2
      exact h2
  have hm : pw r (t % l) x = x := by
    have := o.pw_add (t % l) ((l : Int) * (t / l)) h0 h
    rw [rep2, Int.emod_add_mul_ediv, e] at this
    exact this.symm
  have m0 := Int.emod_nonneg t (Int.ne_of_gt hp)
  have m1 := Int.emod_lt_of_pos t hp
  refine Int.dvd_of_emod_eq_zero ?_
  refine Classical.byContradiction fun hz => ?_
  refine p.lt (t % l).toNat (by omega) (by omega) ?_
  rw [Int.toNat_of_nonneg m0]
  exact hm
theorem Per.only {l l' : Nat} {x : Int} (p : Per r x l) (p' : Per r x l') : l = l' := by
  rcases Nat.lt_trichotomy l l' with h | h | h
  · exact absurd p.bk (p'.lt l p.pos h)
  · exact h
  · exact absurd p'.bk (p.lt l' p'.pos h)
theorem Ob.refl {x : Int} : Ob r x x := ⟨0, rfl⟩
theorem Ob.symm (o : Ord n r) {x y : Int} (h0 : 0 ≤ x) (h : x < n) (b : Ob r x y) : Ob r y x := by
  obtain ⟨t, rfl⟩ := b
  exact ⟨-t, o.pw_back' t h0 h⟩
theorem Ob.trans (o : Ord n r) {x y z : Int} (h0 : 0 ≤ x) (h : x < n) (b : Ob r x y) (c : Ob r y z) : Ob r x z := by
  obtain ⟨t, rfl⟩ := b
  obtain ⟨s, rfl⟩ := c
  exact ⟨s + t, o.pw_add s t h0 h⟩
theorem Ob.rng (o : Ord n r) {x y : Int} (h0 : 0 ≤ x) (h : x < n) (b : Ob r x y) : 0 ≤ y ∧ y < n := by
  obtain ⟨t, rfl⟩ := b
  exact o.pw_rng t h0 h
/-- it may be taken ahead -/
theorem Ob.nat (o : Ord n r) {x y : Int} (h0 : 0 ≤ x) (h : x < n) (b : Ob r x y) : ∃ k : Nat, pw r k x = y := by
  obtain ⟨t, rfl⟩ := b
  obtain ⟨l, p⟩ := o.per_ex h0 h
  have hp : (0 : Int) < l := by have := p.pos; omega
  refine ⟨(t % l).toNat, ?_⟩
  rw [Int.toNat_of_nonneg (Int.emod_nonneg t (Int.ne_of_gt hp))]
  have rep : ∀ k : Int, pw r ((l : Int) * k) x = x := fun k => by
    have pos : ∀ k : Nat, pw r ((l : Int) * k) x = x := fun k => by
      induction k with
      | zero => simp; rfl
      | succ k ih =>
        have := o.pw_add l ((l : Int) * k) h0 h
        rw [ih, p.bk] at this
        rw [← this]
        congr 1
        rw [Int.natCast_succ, Int.mul_add, Int.mul_one, Int.add_comm]
    rcases Int.le_total 0 k with hk | hk
    · have := pos k.toNat
      rwa [Int.toNat_of_nonneg hk] at this
    · have := pos (-k).toNat
      rw [Int.toNat_of_nonneg (by omega)] at this
      have h2 := o.pw_back ((l : Int) * k) h0 h
      rw [Int.mul_neg] at this
      rw [this] at h2
      exact h2
  have := o.pw_add (t % l) ((l : Int) * (t / l)) h0 h
  rw [rep, Int.emod_add_mul_ediv] at this
  exact this.symm
/-- in j steps, 1 to the period -/
theorem Ob.per (o : Ord n r) {x y : Int} {l : Nat} (h0 : 0 ≤ x) (h : x < n) (p : Per r x l) (b : Ob r x y) : ∃ j : Nat, 1 ≤ j ∧ j ≤ l ∧ pw r j x = y := by
  obtain ⟨k, rfl⟩ := b.nat o h0 h
  have hp := p.pos
  have rep : ∀ k : Nat, pw r ((l : Int) * k) x = x := fun k => by
    induction k with
    | zero => simp; rfl
    | succ k ih =>
      have := o.pw_add l ((l : Int) * k) h0 h
      rw [ih, p.bk] at this
      rw [← this]
      congr 1
      rw [Int.natCast_succ, Int.mul_add, Int.mul_one, Int.add_comm]
  have e1 : pw r ((k % l : Nat) : Int) x = pw r k x := by
    have := o.pw_add ((k % l : Nat) : Int) ((l : Int) * (k / l : Nat)) h0 h
    rw [rep] at this
    rw [← this]
    congr 1
    have := Nat.mod_add_div k l
    rw [← Int.natCast_mul, ← Int.natCast_add, this]
  by_cases z : k % l = 0
  · refine ⟨l, hp, Nat.le_refl _, ?_⟩
    rw [p.bk, ← e1, z]; rfl
  · exact ⟨k % l, by omega, Nat.le_of_lt (Nat.mod_lt _ hp), e1⟩
/-- an orbit's first -/
def Fst (r : List Int) (k : Nat) : Prop := ∀ j : Nat, j < k → ¬ Ob r j k
noncomputable def nOb (n : Nat) (r : List Int) : Nat := ((List.range n).filter fun k => decide (Fst r k)).length
end
theorem cnt_one {n k0 : Nat} {P P' : Nat → Prop} (h : ∀ k, k < n → (P k ↔ P' k ∨ k = k0)) (h0 : k0 < n) (hn : ¬ P' k0) : ((List.range n).filter fun k => decide (P k)).length = ((List.range n).filter fun k => decide (P' k)).length + 1 := by
  induction n with
  | zero => omega
  | succ n ih =>
    rw [List.range_succ, List.filter_append, List.filter_append, List.length_append, List.length_append]
    by_cases e : k0 = n
    · subst e
      have e1 : (List.range k0).filter (fun k => decide (P k)) = (List.range k0).filter (fun k => decide (P' k)) := by
        refine List.filter_congr fun k hk => ?_
        have hk := List.mem_range.mp hk
        have := h k (by omega)
        have ne : k ≠ k0 := by omega
        simp [this, ne]
      have hp : P k0 := (h k0 (by omega)).mpr (.inr rfl)
      rw [e1]
      simp [hp, hn]
    · have := ih (fun k hk => h k (by omega)) (by omega)
      have e2 : P n ↔ P' n := by
        have := h n (by omega)
        constructor
        · intro z; rcases this.mp z with z | z
          · exact z
          · exact absurd z.symm e
        · exact fun z => this.mpr (.inl z)
      rw [this]
      by_cases hp : P' n
      · simp [e2.mpr hp, hp]
      · have : ¬ P n := fun z => hp (e2.mp z)
        simp [this, hp]
/-- two places exchanged -/
structure Tr (n : Nat) (a b : Int) (r r' : List Int) : Prop where
  o : Ord n r
  o' : Ord n r'
  a0 : 0 ≤ a
  a1 : a < n
  b0 : 0 ≤ b
  b1 : b < n
  ne : a ≠ b
  ea : it r' a = it r b
  eb : it r' b = it r a
  ex : ∀ x : Int, 0 ≤ x → x < n → x ≠ a → x ≠ b → it r' x = it r x
theorem Tr.symm {n : Nat} {a b : Int} {r r' : List Int} (t : Tr n a b r r') : Tr n a b r' r := ⟨t.o', t.o, t.a0, t.a1, t.b0, t.b1, t.ne, t.eb.symm, t.ea.symm, fun x h0 h h1 h2 => (t.ex x h0 h h1 h2).symm⟩
theorem Tr.swap {n : Nat} {a b : Int} {r r' : List Int} (t : Tr n a b r r') : Tr n b a r r' := ⟨t.o, t.o', t.b0, t.b1, t.a0, t.a1, t.ne.symm, t.eb, t.ea, fun x h0 h h1 h2 => t.ex x h0 h h2 h1⟩
theorem pw_nat {n : Nat} {r : List Int} (o : Ord n r) (k : Nat) {x : Int} (h0 : 0 ≤ x) (h : x < n) : pw r ((k + 1 : Nat) : Int) x = it r (pw r k x) := by
  have := o.pw_succ k h0 h
  rwa [← Int.natCast_succ] at this
/-- in one orbit: exchanged, in two -/
theorem Tr.apart {n : Nat} {a b : Int} {r r' : List Int} (t : Tr n a b r r') (h : Ob r a b) : ¬ Ob r' a b := by
  obtain ⟨l, p⟩ := t.o.per_ex t.a0 t.a1
  obtain ⟨k, k1, k2, hk⟩ := h.per t.o t.a0 t.a1 p
  have kl : k < l := by
    rcases Nat.lt_or_eq_of_le k2 with z | z
    · exact z
    · subst z; exact absurd (p.bk.symm.trans hk) t.ne
  have inj : ∀ i j : Nat, i < l → j < l → pw r i a = pw r j a → i = j := fun i j hi hj e => by
    have key : ∀ i j : Nat, i < j → j < l → pw r i a = pw r j a → False := fun i j hij hj e => by
      have h1 := t.o.pw_add (-(i : Int)) j t.a0 t.a1
      rw [← e, t.o.pw_back' i t.a0 t.a1] at h1
      have h2 : pw r ((j - i : Nat) : Int) a = a := by rw [← h1]; congr 1; omega
      exact p.lt (j - i) (by omega) (by omega) h2
    rcases Nat.lt_trichotomy i j with z | z | z
    · exact (key i j z hj e).elim
    · exact z
    · exact (key j i z hi e.symm).elim
  have step : ∀ j : Nat, 1 ≤ j → j ≤ l - k → pw r' j a = pw r ((k + j : Nat) : Int) a := fun j => by
    induction j with
    | zero => omega
    | succ j ih =>
      intro h1 h2
      rw [pw_nat t.o' j t.a0 t.a1]
      by_cases z : j = 0
      · subst z
        have : pw r' ((0 : Nat) : Int) a = a := rfl
        rw [this, t.ea, pw_nat t.o k t.a0 t.a1, hk]
      · rw [ih (by omega) (by omega)]
        have hr := t.o.pw_rng ((k + j : Nat) : Int) t.a0 t.a1
        rw [show k + (j + 1) = (k + j) + 1 by omega, pw_nat t.o (k + j) t.a0 t.a1]
        refine t.ex _ hr.1 hr.2 (fun e => ?_) fun e => ?_
        · have : pw r ((0 : Nat) : Int) a = a := rfl
          have := inj (k + j) 0 (by omega) (by omega) (e.trans this.symm)
          omega
        · have := inj (k + j) k (by omega) (by omega) (e.trans hk.symm)
          omega
  have bk : pw r' ((l - k : Nat) : Int) a = a := by
    rw [step (l - k) (by omega) (Nat.le_refl _), show k + (l - k) = l by omega]
    exact p.bk
  intro h'
  obtain ⟨l', p'⟩ := t.o'.per_ex t.a0 t.a1
  have hl' : l' ≤ l - k := by
    have := p'.zero t.o' t.a0 t.a1 bk
    exact Nat.le_of_dvd (by omega) (Int.natCast_dvd_natCast.mp this)
  obtain ⟨j, j1, j2, hj⟩ := h'.per t.o' t.a0 t.a1 p'
  rw [step j j1 (by omega)] at hj
  by_cases z : k + j = l
  · rw [z, p.bk] at hj; exact t.ne hj
  · have := inj (k + j) k (by omega) (by omega) (hj.trans hk.symm)
    omega
/-- in two orbits: exchanged, in one -/
theorem Tr.walk {n : Nat} {a b : Int} {r r' : List Int} (t : Tr n a b r r') (h : ¬ Ob r a b) {l : Nat} (p : Per r b l) : ∀ j : Nat, 1 ≤ j → j ≤ l → pw r' j a = pw r j b := fun j => by
  induction j with
  | zero => omega
  | succ j ih =>
    intro h1 h2
    rw [pw_nat t.o' j t.a0 t.a1]
    by_cases z : j = 0
    · subst z
      exact t.ea
    · rw [ih (by omega) (by omega), pw_nat t.o j t.b0 t.b1]
      have hr := t.o.pw_rng (j : Int) t.b0 t.b1
      refine t.ex _ hr.1 hr.2 (fun e => ?_) fun e => p.lt j (by omega) (by omega) e
      exact h (Ob.symm t.o t.b0 t.b1 ⟨_, e⟩)
theorem Tr.joined {n : Nat} {a b : Int} {r r' : List Int} (t : Tr n a b r r') (h : ¬ Ob r a b) {x y : Int} (x0 : 0 ≤ x) (x1 : x < n) :
    Ob r' x y ↔ Ob r x y ∨ ((Ob r a x ∨ Ob r b x) ∧ (Ob r a y ∨ Ob r b y)) := by
  obtain ⟨lb, pb⟩ := t.o.per_ex t.b0 t.b1
  obtain ⟨la, pa⟩ := t.o.per_ex t.a0 t.a1
  have hb : ¬ Ob r b a := fun z => h (z.symm t.o t.b0 t.b1)
  have w1 := t.walk h pb
  have w2 := t.swap.walk hb pa
  -- all of both are behind a
  have ub : ∀ y, Ob r b y → Ob r' a y := fun y z => by
    obtain ⟨j, j1, j2, rfl⟩ := z.per t.o t.b0 t.b1 pb
    exact ⟨j, w1 j j1 j2⟩
  have ua' : ∀ y, Ob r a y → Ob r' b y := fun y z => by
    obtain ⟨j, j1, j2, rfl⟩ := z.per t.o t.a0 t.a1 pa
    exact ⟨j, w2 j j1 j2⟩
  have ua : ∀ y, Ob r a y → Ob r' a y := fun y z => (ub b .refl).trans t.o' t.a0 t.a1 (ua' y z)
  have uu : ∀ y, Ob r a y ∨ Ob r b y → Ob r' a y := fun y z => z.elim (ua y) (ub y)
  constructor
  · intro z
    obtain ⟨k, rfl⟩ := z.nat t.o' x0 x1
    clear z
    induction k with
    | zero => exact .inl .refl
    | succ k ih =>
      rw [pw_nat t.o' k x0 x1]
      have hr := t.o'.pw_rng (k : Int) x0 x1
      generalize pw r' (k : Int) x = z at ih hr
      have st : Ob r z (it r' z) ∨ ((Ob r a z ∨ Ob r b z) ∧ (Ob r a (it r' z) ∨ Ob r b (it r' z))) := by
        by_cases ea : z = a
        · subst ea
          exact .inr ⟨.inl .refl, .inr ⟨1, t.ea.symm⟩⟩
        · by_cases eb : z = b
          · subst eb
            exact .inr ⟨.inr .refl, .inl ⟨1, t.eb.symm⟩⟩
          · exact .inl ⟨1, (t.ex z hr.1 hr.2 ea eb).symm⟩
      have go : ∀ {c y z : Int}, 0 ≤ c → c < n → Ob r c y → Ob r y z → Ob r c z := fun c0 c1 h1 h2 => h1.trans t.o c0 c1 h2
      rcases ih with ih | ⟨i1, i2⟩
      · rcases st with st | ⟨s1, s2⟩
        · exact .inl (go x0 x1 ih st)
        · refine .inr ⟨?_, s2⟩
          have := Ob.symm t.o x0 x1 ih
          exact s1.imp (fun s => go t.a0 t.a1 s this) fun s => go t.b0 t.b1 s this
      · rcases st with st | ⟨s1, s2⟩
        · exact .inr ⟨i1, i2.imp (fun s => go t.a0 t.a1 s st) fun s => go t.b0 t.b1 s st⟩
        · exact .inr ⟨i1, s2⟩
  · rintro (z | ⟨z1, z2⟩)
    · by_cases u : Ob r a x ∨ Ob r b x
      · have u2 : Ob r a y ∨ Ob r b y := u.imp (fun s => s.trans t.o t.a0 t.a1 z) fun s => s.trans t.o t.b0 t.b1 z
        exact ((uu x u).symm t.o' t.a0 t.a1).trans t.o' x0 x1 (uu y u2)
      · obtain ⟨k, rfl⟩ := z.nat t.o x0 x1
        refine ⟨k, ?_⟩
        clear z
        induction k with
        | zero => rfl
        | succ k ih =>
          rw [pw_nat t.o' k x0 x1, pw_nat t.o k x0 x1, ih]
          have hr := t.o.pw_rng (k : Int) x0 x1
          refine t.ex _ hr.1 hr.2 (fun e => u (.inl ?_)) fun e => u (.inr ?_)
          · exact Ob.symm t.o x0 x1 ⟨k, e⟩
          · exact Ob.symm t.o x0 x1 ⟨k, e⟩
    · exact ((uu x z1).symm t.o' t.a0 t.a1).trans t.o' x0 x1 (uu y z2)
/-- the first of an orbit -/
theorem fst_ex {n : Nat} {r : List Int} (o : Ord n r) {a : Int} (a0 : 0 ≤ a) (a1 : a < n) : ∃ m : Nat, m < n ∧ Ob r a m ∧ ∀ j : Nat, Ob r a j → m ≤ j := by
  obtain ⟨m, h1, h2⟩ := least_ex (P := fun j : Nat => Ob r a j) ⟨a.toNat, ⟨0, by show a = _; omega⟩⟩
  refine ⟨m, ?_, h1, fun j hj => ?_⟩
  · have := h1.rng o a0 a1; omega
  · exact Nat.le_of_not_lt fun z => h2 j z hj
theorem fst_iff {n : Nat} {r : List Int} (o : Ord n r) {a : Int} (a0 : 0 ≤ a) (a1 : a < n) {m : Nat} (hm : Ob r a m) (hl : ∀ j : Nat, Ob r a j → m ≤ j) {k : Nat} (hk : Ob r a k) : Fst r k ↔ k = m := by
  have hkr := hk.rng o a0 a1
  have hmr := hm.rng o a0 a1
  constructor
  · intro f
    have := hl k hk
    refine Classical.byContradiction fun z => f m (by omega) ?_
    exact (hm.symm o a0 a1).trans o hmr.1 hmr.2 hk
  · rintro rfl j hj z
    by_cases jn : (j : Int) < n
    · have := hl j (hk.trans o a0 a1 (Ob.symm o (by omega) jn z))
      omega
    · omega
theorem Tr.join {n : Nat} {a b : Int} {r r' : List Int} (t : Tr n a b r r') (h : ¬ Ob r a b) : nOb n r = nOb n r' + 1 := by
  obtain ⟨ma, ma1, ma2, ma3⟩ := fst_ex t.o t.a0 t.a1
  obtain ⟨mb, mb1, mb2, mb3⟩ := fst_ex t.o t.b0 t.b1
  have dis : ∀ x, Ob r a x → Ob r b x → False := fun x h1 h2 => by
    have hx := h1.rng t.o t.a0 t.a1
    exact h (h1.trans t.o t.a0 t.a1 (h2.symm t.o t.b0 t.b1))
  have hne : ma ≠ mb := fun e => by subst e; exact dis _ ma2 mb2
  have J : ∀ {j k : Nat}, j < n → (Ob r' j k ↔ Ob r j k ∨ ((Ob r a j ∨ Ob r b j) ∧ (Ob r a k ∨ Ob r b k))) := fun {j k} hj => t.joined h (by omega) (by omega)
  have up : ∀ k, Fst r' k → k < n → Fst r k := fun k f hk j hj z => f j hj ((J (by omega)).mpr (.inl z))
  refine cnt_one (k0 := max ma mb) (fun k hk => ⟨fun f => ?_, fun z => ?_⟩) (by omega) fun f => ?_
  · refine Classical.byContradiction fun z => ?_
    have z1 : ¬ Fst r' k := fun y => z (.inl y)
    have z2 : k ≠ max ma mb := fun y => z (.inr y)
    have ⟨j, hj, hjk⟩ : ∃ j : Nat, j < k ∧ Ob r' j k := Classical.byContradiction fun y => z1 fun j hj q => y ⟨j, hj, q⟩
    rcases (J (by omega)).mp hjk with q | ⟨q1, q2⟩
    · exact f j hj q
    · rcases q2 with q2 | q2
      · have e := (fst_iff t.o t.a0 t.a1 ma2 ma3 q2).mp f
        rcases q1 with q1 | q1
        · have := ma3 j q1; omega
        · have := mb3 j q1; omega
      · have e := (fst_iff t.o t.b0 t.b1 mb2 mb3 q2).mp f
        rcases q1 with q1 | q1
        · have := ma3 j q1; omega
        · have := mb3 j q1; omega
  · rcases z with z | z
    · exact up k z hk
    · subst z
      rcases Nat.lt_or_gt_of_ne hne with c | c
      · rw [Nat.max_eq_right (by omega)]
        exact (fst_iff t.o t.b0 t.b1 mb2 mb3 mb2).mpr rfl
      · rw [Nat.max_eq_left (by omega)]
        exact (fst_iff t.o t.a0 t.a1 ma2 ma3 ma2).mpr rfl
  · rcases Nat.lt_or_gt_of_ne hne with c | c
    · rw [Nat.max_eq_right (by omega)] at f
      exact f ma c ((J ma1).mpr (.inr ⟨.inl ma2, .inr mb2⟩))
    · rw [Nat.max_eq_left (by omega)] at f
      exact f mb c ((J mb1).mpr (.inr ⟨.inr mb2, .inl ma2⟩))
theorem Tr.par {n : Nat} {a b : Int} {r r' : List Int} (t : Tr n a b r r') : (nOb n r + nOb n r') % 2 = 1 := by
  by_cases h : Ob r a b
  · have := t.symm.join (t.apart h); omega
  · have := t.join h; omega
/-! one behind another -/
def comp (r q : List Int) : List Int := q.map (it r)
theorem comp_it {n : Nat} {r q : List Int} (oq : Ord n q) {x : Int} (h0 : 0 ≤ x) (h : x < n) : it (comp r q) x = it r (it q x) := it_map oq.len h0 h
theorem Ord.comp {n : Nat} {r q : List Int} (o : Ord n r) (oq : Ord n q) : Ord n (D8.comp r q) :=
  ord_of (g := fun y => inv q (inv r y)) (by simp [D8.comp, oq.len]) (fun x h0 h => by
    rw [comp_it oq h0 h]; have := oq.it h0 h; exact o.it this.1 this.2) fun x h0 h => by
    have := oq.it h0 h
    show inv q (inv r _) = x
    rw [comp_it oq h0 h, o.inv_it this.1 this.2, oq.inv_it h0 h]
theorem comp_id {n : Nat} {r : List Int} (o : Ord n r) {q : List Int} (oq : Ord n q) (h : ∀ x : Int, 0 ≤ x → x < n → it q x = x) : comp r q = r :=
  it_ext (n := n) (by simp [comp, oq.len]) o.len fun x h0 h1 => by rw [comp_it oq h0 h1, h x h0 h1]
theorem par_of {n : Nat} : ∀ (k : Nat) {q : List Int}, Ord n q → (∀ x : Int, 0 ≤ x → x < n → k ≤ x → it q x = x) → ∃ e : Nat, ∀ r, Ord n r → (nOb n (comp r q) + nOb n r) % 2 = e
  | 0, q, oq, h => ⟨0, fun r o => by rw [comp_id o oq fun x h0 h1 => h x h0 h1 (by omega)]; omega⟩
  | k + 1, q, oq, h => by
    by_cases hk : (k : Int) < n
    · by_cases e : it q k = k
      · exact par_of k oq fun x h0 h1 h2 => by
          by_cases z : x = k
          · rw [z, e]
          · exact h x h0 h1 (by omega)
      · have k0 : (0 : Int) ≤ k := by omega
        obtain ⟨w', w0', w1', hw'⟩ := oq.sur k0 hk
        obtain ⟨w, w0, w1, hw⟩ : ∃ w : Int, 0 ≤ w ∧ w < n ∧ it q w = k := ⟨w', by omega, by omega, hw'⟩
        clear hw' w0' w1'
        have wk : w ≠ k := fun z => e (by rw [← z]; exact z ▸ hw)
        have v := oq.it k0 hk
        let q' := (q.set k k).set w.toNat (it q k)
        have lq : q.length = n := oq.len
        have iq : ∀ x : Int, 0 ≤ x → x < n → it q' x = if x = w then it q k else if x = k then k else it q x := fun x h0 h1 => by
          have : ∀ (l : List Int) (j : Nat) (y : Int), j < l.length → it (l.set j y) x = if x = j then y else it l x := fun l j y hj => by
            unfold it
            rw [List.getD_eq_getElem?_getD, List.getD_eq_getElem?_getD]
            by_cases z : x = j
            · subst z; simp [hj]
            · rw [if_neg z, List.getElem?_set_ne (by omega)]
          show it ((q.set k k).set w.toNat (it q k)) x = _
          rw [this _ _ _ (by rw [List.length_set, lq]; omega), this _ _ _ (by rw [lq]; omega)]
          rw [Int.toNat_of_nonneg w0]
        have oq' : Ord n q' := ord_of (g := fun y => if y = it q k then w else if y = k then k else inv q y) (by simp [q', lq]) (fun x h0 h1 => by
            rw [iq x h0 h1]
            split
            · exact v
            · split
              · exact ⟨k0, hk⟩
              · exact oq.it h0 h1) fun x h0 h1 => by
            have hx := oq.it h0 h1
            rw [iq x h0 h1]
            by_cases c1 : x = w
            · rw [if_pos c1]; simp [c1]
            · rw [if_neg c1]
              by_cases c2 : x = k
              · rw [if_pos c2]
                have : ¬ (k : Int) = it q k := fun z => e z.symm
                simp [this, c2]
              · rw [if_neg c2]
                have n1 : it q x ≠ it q k := fun z => c2 (oq.inj h0 h1 k0 hk z)
                have n2 : it q x ≠ k := fun z => c1 (oq.inj h0 h1 w0 w1 (z.trans hw.symm))
                simp [n1, n2, oq.inv_it h0 h1]
        obtain ⟨e', he⟩ := par_of k oq' fun x h0 h1 h2 => by
          rw [iq x h0 h1]
          by_cases c1 : x = w
          · subst c1
            rcases Int.lt_or_le x (k + 1 : Nat) with c | c
            · exact absurd (show x = k by omega) wk
            · have := h x h0 h1 c
              rw [hw] at this; omega
          · rw [if_neg c1]
            by_cases c2 : x = k
            · rw [if_pos c2, c2]
            · rw [if_neg c2]; exact h x h0 h1 (by omega)
        refine ⟨(e' + 1) % 2, fun r o => ?_⟩
        have tr : Tr n k w (comp r q) (comp r q') := by
          refine ⟨o.comp oq, o.comp oq', k0, hk, w0, w1, fun z => wk z.symm, ?_, ?_, fun x h0 h1 n1 n2 => ?_⟩
          · rw [comp_it oq' k0 hk, comp_it oq w0 w1, iq k k0 hk, if_neg (fun z => wk z.symm), if_pos rfl, hw]
          · rw [comp_it oq' w0 w1, comp_it oq k0 hk, iq w w0 w1, if_pos rfl]
          · rw [comp_it oq' h0 h1, comp_it oq h0 h1, iq x h0 h1, if_neg n2, if_neg n1]
        have h1 := tr.par
        have h2 := he r o
        omega
    · exact par_of k oq fun x h0 h1 h2 => by omega
theorem fst_id {n : Nat} {k : Nat} (hk : k < n) : Fst (upTo n) k := fun j hj ⟨t, z⟩ => by
  have o : Ord n (upTo n) := ⟨len_upTo, fun x hx => mem_upTo.mp hx, nd_upTo⟩
  have : ∀ t : Int, pw (upTo n) t (j : Int) = j := fun t => by
    have := o.pw_only (g := fun _ => (j : Int)) (fun _ => ⟨by omega, by omega⟩) (fun _ => (it_upTo (by omega) (by omega)).symm) t
    exact this.symm
  rw [this t] at z
  omega
theorem ord_upTo {n : Nat} : Ord n (upTo n) := ⟨len_upTo, fun x hx => mem_upTo.mp hx, nd_upTo⟩
theorem nOb_id {n : Nat} : nOb n (upTo n) = n := by
  unfold nOb
  rw [List.filter_eq_self.mpr]
  · simp
  · intro k hk
    simp only [decide_eq_true_eq]
    exact fst_id (List.mem_range.mp hk)
theorem par_comp {n : Nat} {r q : List Int} (o : Ord n r) (oq : Ord n q) : (nOb n (comp r q) + nOb n r + nOb n q + n) % 2 = 0 := by
  obtain ⟨e, he⟩ := par_of n oq fun x h0 h1 h2 => by omega
  have h1 := he r o
  have h2 := he (upTo n) ord_upTo
  rw [nOb_id] at h2
  have e2 : comp (upTo n) q = q := it_ext (n := n) (by simp [comp, oq.len]) oq.len fun x h0 h => by
    have := oq.it h0 h
    rw [comp_it oq h0 h, it_upTo this.1 this.2]
  rw [e2] at h2
  omega
/-- the way back -/
def bkL (n : Nat) (r : List Int) : List Int := (upTo n).map (inv r)
theorem bkL_it {n : Nat} {r : List Int} {x : Int} (h0 : 0 ≤ x) (h : x < n) : it (bkL n r) x = inv r x := by rw [bkL, it_map len_upTo h0 h, it_upTo h0 h]
theorem Ord.bkL {n : Nat} {r : List Int} (o : Ord n r) : Ord n (D8.bkL n r) :=
  ord_of (g := fun y => D8.it r y) (by simp [D8.bkL, len_upTo]) (fun x h0 h => by rw [bkL_it h0 h]; exact o.inv_rng h0 h) fun x h0 h => by
    show D8.it r _ = x
    rw [bkL_it h0 h, o.it_inv h0 h]
theorem pw_bkL {n : Nat} {r : List Int} (o : Ord n r) (t : Int) {x : Int} (h0 : 0 ≤ x) (h : x < n) : pw (bkL n r) t x = pw r (-t) x := by
  have := o.bkL.pw_only (g := fun t => pw r (-t) x) (fun t => o.pw_rng _ h0 h) (fun t => by
    have h1 := o.pw_rng (-t) h0 h
    show pw r (-(t + 1)) x = it (bkL n r) (pw r (-t) x)
    rw [bkL_it h1.1 h1.2]
    have e : inv r (pw r (-t) x) = pw r (-1) (pw r (-t) x) := rfl
    rw [e, ← o.pw_add _ _ h0 h]
    congr 1; omega) t
  have e0 : pw r (-0) x = x := rfl
  rw [e0] at this
  exact this.symm
theorem nOb_bkL {n : Nat} {r : List Int} (o : Ord n r) : nOb n (bkL n r) = nOb n r := by
  unfold nOb
  congr 1
  refine List.filter_congr fun k hk => ?_
  have hk := List.mem_range.mp hk
  have : Fst (bkL n r) k ↔ Fst r k := by
    have key : ∀ j : Nat, j < k → (Ob (bkL n r) j k ↔ Ob r j k) := fun j hj => by
      constructor
      · rintro ⟨t, e⟩
        rw [pw_bkL o t (by omega) (by omega)] at e
        exact ⟨_, e⟩
      · rintro ⟨t, e⟩
        exact ⟨-t, by rw [pw_bkL o (-t) (by omega) (by omega), Int.neg_neg]; exact e⟩
    exact ⟨fun f j hj z => f j hj ((key j hj).mpr z), fun f j hj z => f j hj ((key j hj).mp z)⟩
  simp only [this]
end D8

namespace D8
open PySem PySem.Spec PyProof.Rows L2
open Classical
/-! ### rounds and orbits -/
section
variable {n : Nat} {r : List Int}
theorem Cyc.rng0 {x : Int} {c : List Int} (h : Cyc n r x c) : 0 ≤ x ∧ x < n := h.1.rng x (List.mem_of_getElem? h.1.hd)
theorem Cyc.it0 {x : Int} {c : List Int} (h : Cyc n r x c) : it c 0 = x := by
  have hl : 0 < c.length := List.length_pos_iff.mpr h.1.ne
  have := it_some (r := c) (x := 0) (by omega) (by omega)
  rw [show (0 : Int).toNat = 0 from rfl, h.1.hd] at this
  exact (Option.some.inj this).symm
theorem Cyc.mem {x : Int} {c : List Int} (o : Ord n r) (h : Cyc n r x c) {y : Int} : y ∈ c ↔ Ob r x y := by
  have hl : 0 < c.length := List.length_pos_iff.mpr h.1.ne
  constructor
  · intro hy
    obtain ⟨i, hi, e⟩ := List.mem_iff_getElem.mp hy
    refine ⟨i, ?_⟩
    have := h.pw o (i := 0) (by omega) (by omega) i
    rw [h.it0, Int.zero_add, Int.emod_eq_of_lt (by omega) (by omega), it_get hi, e] at this
    exact this.symm
  · rintro ⟨t, rfl⟩
    have := h.pw o (i := 0) (by omega) (by omega) t
    rw [h.it0, Int.zero_add] at this
    rw [← this]
    exact it_mem (Int.emod_nonneg _ (by omega)) (Int.emod_lt_of_pos _ (by omega))
theorem Cyc.per {x : Int} {c : List Int} (o : Ord n r) (h : Cyc n r x c) {y : Int} (hy : y ∈ c) : Per r y c.length := by
  have hl : 0 < c.length := List.length_pos_iff.mpr h.1.ne
  obtain ⟨i, hi, rfl⟩ := List.mem_iff_getElem.mp hy
  have key : ∀ t : Int, D8.pw r t c[i] = it c ((i + t) % c.length) := fun t => by
    have := h.pw o (i := i) (by omega) (by omega) t
    rw [it_get hi] at this
    exact this.symm
  refine ⟨hl, ?_, fun m m0 ml e => ?_⟩
  · rw [key, Int.add_emod_right, Int.emod_eq_of_lt (by omega) (by omega), it_get hi]
  · rw [key] at e
    have q0 := Int.emod_nonneg ((i : Int) + m) (b := c.length) (by omega)
    have q1 := Int.emod_lt_of_pos ((i : Int) + m) (b := c.length) (by omega)
    have e2 := it_some (r := c) q0 q1
    rw [e] at e2
    have := (List.getElem?_inj (i := i) (j := (((i : Int) + m) % c.length).toNat) hi h.1.nd).mp ((List.getElem?_eq_getElem hi).trans e2.symm)
    have e3 : ((i : Int) + m) % c.length = i := by omega
    have e4 : ((i : Int) + m) % c.length = (i : Int) % c.length := by rw [e3, Int.emod_eq_of_lt (by omega) (by omega)]
    have e5 : ((m : Int)) % c.length = 0 := by
      have := Int.emod_emod_of_dvd
      have h6 := Int.sub_emod ((i : Int) + m) i c.length
      rw [e4, Int.sub_self, Int.zero_emod] at h6
      rwa [show (i : Int) + m - i = m by omega] at h6
    rw [Int.emod_eq_of_lt (by omega) (by omega)] at e5
    omega
theorem Rds.flat {k : Nat} {rs : List (List Int)} (o : Ord n r) (hk : k ≤ n) (h : Rds n r k rs) : ∀ y, y ∈ rs.flatten ↔ ∃ j : Nat, j < k ∧ Ob r j y := by
  induction h with
  | nil => simp
  | @old k rs _ hm ih =>
    intro y
    rw [ih (by omega)]
    constructor
    · rintro ⟨j, hj, z⟩; exact ⟨j, by omega, z⟩
    · rintro ⟨j, hj, z⟩
      by_cases e : j = k
      · subst e
        obtain ⟨i, hi, q⟩ := (ih (by omega) _).mp hm
        exact ⟨i, hi, q.trans o (by omega) (by omega) z⟩
      · exact ⟨j, by omega, z⟩
  | @new k rs c _ hn hc ih =>
    intro y
    rw [List.flatten_append, List.mem_append, ih (by omega)]
    constructor
    · rintro (⟨j, hj, z⟩ | z)
      · exact ⟨j, by omega, z⟩
      · refine ⟨k, by omega, (hc.mem o).mp ?_⟩
        simpa using z
    · rintro ⟨j, hj, z⟩
      by_cases e : j = k
      · subst e
        exact .inr (by simpa using (hc.mem o).mpr z)
      · exact .inl ⟨j, by omega, z⟩
theorem Rds.nOb {k : Nat} {rs : List (List Int)} (o : Ord n r) (hk : k ≤ n) (h : Rds n r k rs) : rs.length = ((List.range k).filter fun k => decide (Fst r k)).length := by
  induction h with
  | nil => rfl
  | @old k rs h1 hm ih =>
    have : ¬ Fst r k := fun f => by
      obtain ⟨j, hj, z⟩ := (h1.flat o (by omega) _).mp hm
      exact f j hj z
    rw [ih (by omega), List.range_succ, List.filter_append, List.length_append]
    simp [this]
  | @new k rs c h1 hn hc ih =>
    have : Fst r k := fun j hj z => hn ((h1.flat o (by omega) _).mpr ⟨j, hj, z⟩)
    rw [List.length_append, ih (by omega), List.range_succ, List.filter_append, List.length_append]
    simp [this]
theorem Rds.nd {k : Nat} {rs : List (List Int)} (o : Ord n r) (hk : k ≤ n) (h : Rds n r k rs) : rs.flatten.Nodup := by
  induction h with
  | nil => simp
  | old _ _ ih => exact ih (by omega)
  | @new k rs c h1 hn hc ih =>
    rw [List.flatten_append, List.nodup_append]
    refine ⟨ih (by omega), by simpa using hc.1.nd, fun x hx y hy e => ?_⟩
    subst e
    have hy : x ∈ c := by simpa using hy
    obtain ⟨j, hj, z⟩ := (h1.flat o (by omega) _).mp hx
    have := (hc.mem o).mp hy
    refine hn ((h1.flat o (by omega) _).mpr ⟨j, hj, z.trans o (by omega) (by omega) ?_⟩)
    exact this.symm o (by omega) (by omega)
theorem Rds.perm {rs : List (List Int)} (o : Ord n r) (h : Rds n r n rs) : rs.flatten.Perm (upTo n) := by
  refine List.perm_iff_count.mpr fun x => ?_
  have h1 : x ∈ rs.flatten ↔ x ∈ upTo n := ⟨fun hx => mem_upTo.mpr (h.rng x hx), fun hx => by
    have := mem_upTo.mp hx
    have e : ((x.toNat : Nat) : Int) = x := by omega
    rw [← e]
    exact h.has x.toNat (by omega)⟩
  by_cases hx : x ∈ rs.flatten
  · rw [(h.nd o (Nat.le_refl _)).count, if_pos hx, (nd_upTo (n := n)).count, if_pos (h1.mp hx)]
  · rw [List.count_eq_zero.mpr hx, List.count_eq_zero.mpr fun z => hx (h1.mpr z)]
theorem Rds.sum {rs : List (List Int)} (o : Ord n r) (h : Rds n r n rs) : (rs.map List.length).sum = n := by
  have := (h.perm o).length_eq
  rw [len_upTo, List.length_flatten] at this
  exact this
/-- how many squares have a round of this length -/
noncomputable def nPer (n : Nat) (r : List Int) (l : Nat) : Nat := ((upTo n).filter fun x => decide (Per r x l)).length
theorem Rds.cntl {rs : List (List Int)} (o : Ord n r) (h : Rds n r n rs) (l : Nat) : nPer n r l = l * (rs.map List.length).count l := by
  have h1 : nPer n r l = (rs.flatten.filter fun x => decide (Per r x l)).length := ((h.perm o).filter _).length_eq.symm
  rw [h1]
  have hc : ∀ c ∈ rs, ∀ x ∈ c, Per r x c.length := fun c hc x hx => by
    obtain ⟨y, hy⟩ := h.cyc c hc
    exact hy.per o hx
  clear h1 h
  induction rs with
  | nil => simp
  | cons c rs ih =>
    rw [List.flatten_cons, List.filter_append, List.length_append, ih fun d hd => hc d (List.mem_cons_of_mem _ hd), List.map_cons, List.count_cons]
    have := hc c List.mem_cons_self
    by_cases e : c.length = l
    · have e1 : c.filter (fun x => decide (Per r x l)) = c := List.filter_eq_self.mpr fun x hx => by simpa [e] using this x hx
      rw [e1, e]
      simp [Nat.mul_add, Nat.add_comm]
    · have e1 : c.filter (fun x => decide (Per r x l)) = [] := List.filter_eq_nil_iff.mpr fun x hx => by
        simp only [decide_eq_true_eq]
        exact fun p => e ((this x hx).only p)
      rw [e1]
      simp [e]
end
theorem Rds.type {n : Nat} {r r' : List Int} {rs rs' : List (List Int)} (o : Ord n r) (o' : Ord n r') (h : Rds n r n rs) (h' : Rds n r' n rs') (e : ∀ l, nPer n r l = nPer n r' l) : (rs.map List.length).Perm (rs'.map List.length) := by
  refine List.perm_iff_count.mpr fun l => ?_
  have h1 := h.cntl o l
  have h2 := h'.cntl o' l
  rw [e l, h2] at h1
  by_cases z : l = 0
  · subst z
    have : ∀ {r : List Int} {rs : List (List Int)}, Rds n r n rs → (rs.map List.length).count 0 = 0 := fun h => by
      refine List.count_eq_zero.mpr fun hm => ?_
      obtain ⟨c, hc, e⟩ := List.mem_map.mp hm
      obtain ⟨y, hy⟩ := h.cyc c hc
      have := List.length_pos_iff.mpr hy.1.ne
      omega
    rw [this h, this h']
  · exact (Nat.eq_of_mul_eq_mul_left (by omega) h1).symm
theorem nPer_conj {n : Nat} {r r' sg : List Int} (o : Ord n r) (o' : Ord n r') (os : Ord n sg) (hc : ∀ x : Int, 0 ≤ x → x < n → it r' (it sg x) = it sg (it r x)) (l : Nat) : nPer n r l = nPer n r' l := by
  have hp : (sg.map id).Perm (upTo n) := by
    rw [List.map_id]
    refine List.perm_iff_count.mpr fun x => ?_
    have h1 : x ∈ sg ↔ x ∈ upTo n := ⟨fun hx => mem_upTo.mpr (os.rng x hx), fun hx => by have := mem_upTo.mp hx; exact os.mem this.1 this.2⟩
    by_cases hx : x ∈ sg
    · rw [os.nd.count, if_pos hx, (nd_upTo (n := n)).count, if_pos (h1.mp hx)]
    · rw [List.count_eq_zero.mpr hx, List.count_eq_zero.mpr fun z => hx (h1.mpr z)]
  rw [List.map_id] at hp
  have e1 : nPer n r' l = (sg.filter fun x => decide (Per r' x l)).length := (hp.filter _).length_eq.symm
  have e2 : sg = (upTo n).map (it sg) := it_ext (n := n) os.len (by rw [List.length_map, len_upTo]) fun x h0 h => by rw [it_map len_upTo h0 h, it_upTo h0 h]
  rw [e1]
  conv => rhs; rw [e2]
  rw [List.filter_map, List.length_map]
  unfold nPer
  congr 1
  refine List.filter_congr fun x hx => ?_
  obtain ⟨x0, x1⟩ := mem_upTo.mp hx
  have pc : ∀ t : Int, pw r' t (it sg x) = it sg (pw r t x) := fun t => o.pw_conj o' (sg := it sg) (fun y y0 y1 => os.it y0 y1) hc t x0 x1
  have : Per r x l ↔ Per r' (it sg x) l := by
    constructor
    · intro p
      refine ⟨p.pos, by rw [pc, p.bk], fun m m0 ml e => p.lt m m0 ml ?_⟩
      rw [pc] at e
      have := o.pw_rng (m : Int) x0 x1
      exact os.inj this.1 this.2 x0 x1 e
    · intro p
      refine ⟨p.pos, ?_, fun m m0 ml e => p.lt m m0 ml (by rw [pc, e])⟩
      have e := p.bk
      rw [pc] at e
      have := o.pw_rng (l : Int) x0 x1
      exact os.inj this.1 this.2 x0 x1 e
  simp only [Function.comp, this]
theorem nPer_bkL {n : Nat} {r : List Int} (o : Ord n r) (l : Nat) : nPer n (bkL n r) l = nPer n r l := by
  unfold nPer
  congr 1
  refine List.filter_congr fun x hx => ?_
  obtain ⟨x0, x1⟩ := mem_upTo.mp hx
  have key : ∀ m : Nat, pw (bkL n r) m x = x ↔ pw r m x = x := fun m => by
    rw [pw_bkL o m x0 x1]
    constructor
    · intro e
      have := o.pw_back m x0 x1
      rwa [e] at this
    · intro e
      have := o.pw_back' m x0 x1
      rwa [e] at this
  have : Per (bkL n r) x l ↔ Per r x l := ⟨fun p => ⟨p.pos, (key l).mp p.bk, fun m m0 ml e => p.lt m m0 ml ((key m).mpr e)⟩, fun p => ⟨p.pos, (key l).mpr p.bk, fun m m0 ml e => p.lt m m0 ml ((key m).mp e)⟩⟩
  simp only [this]
/-! ints, sorted -/
def srt (cs : List Int) : List Int := cs.mergeSort fun a b => decide (a ≤ b)
theorem dataLe_ii (a b : Int) : PySem.W.dataLe false id (PyData.int a) (PyData.int b) = decide (a ≤ b) := by
  rw [PySem.W.dataLe_eq]
  show (!PySem.W.dataLt (PyData.int b) (PyData.int a)) = _
  rw [PySem.W.dataLt_int]
  by_cases h : a ≤ b
  · have : ¬ b < a := by omega
    simp [h, this]
  · have : b < a := by omega
    simp [h, this]
theorem iD_sort (cs : List Int) : (iD cs).mergeSort (PySem.W.dataLe false id) = iD (srt cs) := by
  unfold iD srt
  exact (List.map_mergeSort (r := fun a b => decide (a ≤ b)) (s := PySem.W.dataLe false id) (f := PyData.int) (l := cs) fun a _ b _ => (dataLe_ii a b).symm).symm
theorem srt_perm (cs : List Int) : (srt cs).Perm cs := List.mergeSort_perm _ _
theorem srt_pw (cs : List Int) : (srt cs).Pairwise (· ≤ ·) := by
  have := List.pairwise_mergeSort (le := fun a b : Int => decide (a ≤ b)) (fun a b c h1 h2 => by simp at *; omega) (fun a b => by simp; omega) cs
  exact this.imp fun h => by simpa using h
theorem srt_only {a b : List Int} (ha : a.Pairwise (· ≤ ·)) (hb : b.Pairwise (· ≤ ·)) (h : a.Perm b) : a = b := h.eq_of_pairwise (le := (· ≤ ·)) (fun a b _ _ h1 h2 => Int.le_antisymm h1 h2) ha hb
theorem srt_congr {a b : List Int} (h : a.Perm b) : srt a = srt b := srt_only (srt_pw a) (srt_pw b) ((srt_perm a).trans (h.trans (srt_perm b).symm))
end D8

namespace D8
open PySem PySem.Spec PyProof.Rows L2
/-! ### short ways for specs -/
section
variable {nxt : Nat → EnvM → Option (Option PyData)} {st : PyData → EnvM → Option EnvM} {body : EnvM → Option (Fl × EnvM)} {env : EnvM} {Q : Fl × EnvM → Prop}
/-- a loop that goes to its end -/
theorem for_each (ds : List PyData) (I : Nat → EnvM → Prop) (h0 : I 0 env) (hn : ∀ k env, I k env → nxt k env = nth ds.length k ds[k]?) (hb : ∀ k d env, ds[k]? = some d → I k env → Ev ((st d env).bind body) fun r => r.1 = .nx ∧ I (k + 1) r.2) (hq : ∀ env, I ds.length env → Q (.nx, env)) : ForK env 0 (nxt, st, body, Q) .mk := by
  refine ForK.of (forLp_ev ds I (fun _ _ => False) h0 hn fun k d env hk i => (hb k d env hk i).mono fun r h => ?_) ?_
  · rw [h.1]; exact h.2
  · rintro ⟨fl, env⟩ h
    cases fl with
    | nx => exact hq env h
    | _ => exact h.elim
/-- the same over ints -/
theorem for_ints (cs : List Int) (I : Nat → EnvM → Prop) (h0 : I 0 env) (hn : ∀ k env, I k env → nxt k env = nth (iD cs).length k (iD cs)[k]?) (hb : ∀ (k : Nat) (c : Int) (env : EnvM), cs[k]? = some c → I k env → Ev ((st (.int c) env).bind body) fun r => r.1 = .nx ∧ I (k + 1) r.2) (hq : ∀ env, I cs.length env → Q (.nx, env)) : ForK env 0 (nxt, st, body, Q) .mk := by
  refine for_each (iD cs) I h0 hn (fun k d env hk i => ?_) fun env h => hq env (by rwa [len_iD] at h)
  have hk : (cs.map PyData.int)[k]? = some d := hk
  rw [List.getElem?_map] at hk
  obtain ⟨c, hc, rfl⟩ := Option.map_eq_some_iff.mp hk
  exact hb k c env hc i
end
section
variable {nxt : Nat → EnvM → Option (Option PyData)} {st : PyData → EnvM → Option EnvM} {c : EnvM → Option (Bool × EnvM)} {e : EnvM → Option (M × EnvM)} {w : EnvM → EnvM} {env : EnvM} {Q : List M × EnvM → Prop}
/-- a comprehension that leaves the surroundings alone -/
theorem lcm (ds : List PyData) (f : PyData → M) (hl : ds.length ≤ 16777216) (hn : ∀ k, nxt k env = nth ds.length k ds[k]?) (hb : ∀ d ∈ ds, Ev (st d env) fun env1 => Ev (e env1) fun q => q.1 = f d ∧ w q.2 = env) (hq : Q (ds.map f, env)) : LcK env 0 [] (nxt, st, (fun env => some (true, env)), e, w, Q) .mk := by
  refine LcK.of (lc_map ds f (fun env' => env' = env) rfl hl (fun k env' h => by rw [h]; exact hn k) fun d hd env' h => by rw [h]; exact hb d hd) ?_
  rintro ⟨ms, env'⟩ ⟨h1, h2⟩
  simp only at h1 h2
  rw [h1, h2]; exact hq
theorem lcm_ints (cs : List Int) (f : Int → M) (hl : cs.length ≤ 16777216) (hn : ∀ k, nxt k env = nth (iD cs).length k (iD cs)[k]?) (hb : ∀ x ∈ cs, Ev (st (.int x) env) fun env1 => Ev (e env1) fun q => q.1 = f x ∧ w q.2 = env) (hq : Q (cs.map f, env)) : LcK env 0 [] (nxt, st, (fun env => some (true, env)), e, w, Q) .mk := by
  refine lcm (iD cs) (fun d => match d with | .int x => f x | d => .im d) (by simpa using hl) hn (fun d hd => ?_) ?_
  · obtain ⟨x, hx, rfl⟩ := List.mem_map.mp hd
    exact hb x hx
  · have e : (iD cs).map (fun d => match d with | .int x => f x | d => .im d) = cs.map f := by rw [iD, List.map_map]; rfl
    rw [e]; exact hq
theorem lcf (ds : List PyData) (p : PyData → Bool) (f : PyData → M) (hl : ds.length ≤ 16777216) (hn : ∀ k, nxt k env = nth ds.length k ds[k]?) (hb : ∀ d ∈ ds, Ev (st d env) fun env1 => Ev (c env1) fun t => t.1 = p d ∧ (p d = true → Ev (e t.2) fun q => q.1 = f d ∧ w q.2 = env) ∧ (p d = false → w t.2 = env)) (hq : Q ((ds.filter p).map f, env)) : LcK env 0 [] (nxt, st, c, e, w, Q) .mk := by
  refine LcK.of (lc_pure ds p f (fun env' => env' = env) rfl hl (fun k env' h => by rw [h]; exact hn k) fun d hd env' h => by rw [h]; exact hb d hd) ?_
  rintro ⟨ms, env'⟩ ⟨h1, h2⟩
  simp only at h1 h2
  rw [h1, h2]; exact hq
theorem lcf_ints (cs : List Int) (p : Int → Bool) (f : Int → M) (hl : cs.length ≤ 16777216) (hn : ∀ k, nxt k env = nth (iD cs).length k (iD cs)[k]?) (hb : ∀ x ∈ cs, Ev (st (.int x) env) fun env1 => Ev (c env1) fun t => t.1 = p x ∧ (p x = true → Ev (e t.2) fun q => q.1 = f x ∧ w q.2 = env) ∧ (p x = false → w t.2 = env)) (hq : Q ((cs.filter p).map f, env)) : LcK env 0 [] (nxt, st, c, e, w, Q) .mk := by
  refine lcf (iD cs) (fun d => match d with | .int x => p x | _ => false) (fun d => match d with | .int x => f x | d => .im d) (by simpa using hl) hn (fun d hd => ?_) ?_
  · obtain ⟨x, hx, rfl⟩ := List.mem_map.mp hd
    exact hb x hx
  · have e : ((iD cs).filter (fun d => match d with | .int x => p x | _ => false)).map (fun d => match d with | .int x => f x | d => .im d) = (cs.filter p).map f := by rw [iD, List.filter_map, List.map_map]; rfl
    rw [e]; exact hq
end
/-! reading -/
theorem iD_getN {r : List Int} {k : Nat} : (iD r)[k]? = r[k]?.map .int := by simp [iD]
theorem atD {r : List Int} {x : Int} (h0 : 0 ≤ x) (h1 : x < r.length) : atI (iD r) x = some (.int (it r x)) := by
  rw [atI_pos h0, iD_getN, it_some h0 h1]; rfl
theorem atM {r : List Int} {x : Int} (h0 : 0 ≤ x) (h1 : x < r.length) : atI (iM r) x = some (mint (it r x)) := by
  rw [atI_pos h0, iM, List.getElem?_map, it_some h0 h1]; rfl
theorem rgD_up {n : Nat} : rgD n = iD (upTo n) := by simp [rgD, upTo, iD]
theorem next_rgN {n k : Nat} {env : EnvM} {ks : List Nat} (hk : ks = [3]) (h : n ≤ 1000000) : nextK .rg1 [.tm (mint (n : Nat))] ks k env = nth (iD (upTo n)).length k (iD (upTo n))[k]? := by
  rw [next_rg hk (by omega) (by omega), Int.toNat_natCast, rgD_up]
theorem next_rgS {n i k : Nat} {env : EnvM} {ks : List Nat} (hs : slot env i = some (mint (n : Nat))) (hk : ks = [3]) (h : n ≤ 1000000) : nextK .rg1 [.sl i] ks k env = nth (iD (upTo n)).length k (iD (upTo n))[k]? := by
  have e : nextK .rg1 [.sl i] ks k env = nextK .rg1 [.tm (mint (n : Nat))] ks k env := by simp only [nextK, peek, hs, Option.bind_some, Option.map_some]
  rw [e, next_rgN hk h]
/-- of enumerate -/
def enumD (xs : List PyData) : List PyData := xs.mapIdx fun k d => .tuple [.int k, d]
theorem next_enT {xs : List PyData} {m : M} {k : Nat} {env : EnvM} {ks : List Nat} (hk : ks = [kdM m]) (h : D8.items? m = some xs) : nextK .en [.tm m] ks k env = nth (enumD xs).length k (enumD xs)[k]? := by
  subst hk
  simp [nextK, peek, nextI, h, enumD]
theorem next_enS {xs : List PyData} {m : M} {i k : Nat} {env : EnvM} {ks : List Nat} (hs : slot env i = some m) (hk : ks = [kdM m]) (h : D8.items? m = some xs) : nextK .en [.sl i] ks k env = nth (enumD xs).length k (enumD xs)[k]? := by
  subst hk
  simp only [nextK, peek, hs]
  simp [nextI, h, enumD]
theorem enumD_len {xs : List PyData} : (enumD xs).length = xs.length := by simp [enumD]
/-! the first round that holds a square -/
def rowT : PyData → List Int
  | .tuple xs => (intsOf xs).getD []
  | _ => []
theorem intsOf_iD' {l : List Int} : intsOf (iD l) = some l := by
  induction l with
  | nil => rfl
  | cons x l ih => show (intsOf (iD l)).map (x :: ·) = _; rw [ih]; rfl
theorem rowT_iD {l : List Int} : rowT (.tuple (iD l)) = l := by simp [rowT, intsOf_iD']
def kOf (rs : List (List Int)) (x : Int) : Nat := rs.findIdx fun c => decide (x ∈ c)
def hasX (x : Int) : PyData → Bool
  | .tuple [_, c] => decide (x ∈ rowT c)
  | _ => false
def fstX : PyData → M
  | .tuple [k, _] => .im k
  | d => .im d
theorem kf_gen (x : Int) : ∀ (rs : List (List Int)) (g : Nat → Int), x ∈ rs.flatten → ∃ rest, ((rs.mapIdx fun k c => PyData.tuple [.int (g k), .tuple (iD c)]).filter (hasX x)).map fstX = mint (g (kOf rs x)) :: rest
  | [], _, h => by simp at h
  | c :: rs, g, h => by
    rw [List.mapIdx_cons]
    by_cases hc : x ∈ c
    · have e : hasX x (.tuple [.int (g 0), .tuple (iD c)]) = true := by simp [hasX, rowT_iD, hc]
      rw [List.filter_cons_of_pos e, List.map_cons]
      have e2 : kOf (c :: rs) x = 0 := by simp [kOf, List.findIdx_cons, hc]
      exact ⟨_, by rw [e2]; rfl⟩
    · have e : ¬ hasX x (.tuple [.int (g 0), .tuple (iD c)]) = true := by simp [hasX, rowT_iD, hc]
      rw [List.filter_cons_of_neg e]
      have hr : x ∈ rs.flatten := by
        rw [List.flatten_cons, List.mem_append] at h
        exact h.resolve_left hc
      obtain ⟨rest, hh⟩ := kf_gen x rs (fun k => g (k + 1)) hr
      have e2 : kOf (c :: rs) x = kOf rs x + 1 := by simp [kOf, List.findIdx_cons, hc]
      exact ⟨rest, by rw [e2]; exact hh⟩
theorem kOf_lt {rs : List (List Int)} {x : Int} (h : x ∈ rs.flatten) : kOf rs x < rs.length := by
  obtain ⟨c, hc, hx⟩ := List.mem_flatten.mp h
  exact List.findIdx_lt_length.mpr ⟨c, hc, by simpa using hx⟩
theorem kOf_cnt : ∀ {rs : List (List Int)} (i : Nat), rs.flatten.Nodup → (rs.flatten.map (kOf rs)).count i = (rs[i]?.map List.length).getD 0
  | [], i, _ => by simp
  | c :: rs, i, nd => by
    rw [List.flatten_cons, List.nodup_append] at nd
    obtain ⟨n1, n2, n3⟩ := nd
    rw [List.flatten_cons, List.map_append, List.count_append]
    have e1 : c.map (kOf (c :: rs)) = c.map fun _ => 0 := List.map_congr_left fun x hx => by simp [kOf, List.findIdx_cons, hx]
    have e2 : rs.flatten.map (kOf (c :: rs)) = (rs.flatten.map (kOf rs)).map (· + 1) := by
      rw [List.map_map]
      refine List.map_congr_left fun x hx => ?_
      have : x ∉ c := fun z => n3 x z x hx rfl
      simp [kOf, List.findIdx_cons, this]
    rw [e1, e2]
    cases i with
    | zero =>
      have : ((rs.flatten.map (kOf rs)).map (· + 1)).count 0 = 0 := List.count_eq_zero.mpr fun z => by
        obtain ⟨y, _, e⟩ := List.mem_map.mp z; omega
      rw [this]
      simp [List.map_const', List.count_replicate]
    | succ i =>
      have z : (c.map fun _ => 0).count (i + 1) = 0 := List.count_eq_zero.mpr fun z => by
        obtain ⟨y, _, e⟩ := List.mem_map.mp z; omega
      have s : ((rs.flatten.map (kOf rs)).map (· + 1)).count (i + 1) = (rs.flatten.map (kOf rs)).count i := by
        generalize rs.flatten.map (kOf rs) = L
        induction L with
        | nil => rfl
        | cons a L ih =>
          rw [List.map_cons, List.count_cons, List.count_cons, ih]
          simp
      rw [z, s, kOf_cnt i n2]
      simp
end D8
namespace D8
open PySem PySem.Spec PyProof.Rows L2
theorem rpr_one {L D : Nat} {d : PyData} (h : Nice L D d) (hL : L ≤ 16000000) (hD : D ≤ 58) : ∃ s : Str, rprF (.im d) = some (mstr s) ∧ okT s := by
  refine ⟨_, ?_, okT_shown h.lay⟩
  have e2 : dz d = true := by
    have hn := noDict_lay h.lay
    cases d with
    | list xs =>
      have hl : PyData.canLayAll0 xs = true := by have := h.lay; simpa only [PyData.canLay0] using this
      simp only [dz]
      rw [List.all_eq_true]
      intro x hx
      have hx2 : x.canLay0 = true := by
        clear hn h
        induction xs with
        | nil => cases hx
        | cons y xs ih =>
          simp only [PyData.canLayAll0, Bool.and_eq_true] at hl
          rcases List.mem_cons.mp hx with rfl | hx
          · exact hl.1
          · exact ih hl.2 hx
      have := noDict_lay hx2
      unfold dz1
      split
      · rfl
      · rw [this]; rfl
    | _ => simp only [dz, hn]; rfl
  show (if _ then _ else _) = _
  rw [fz_0, if_pos ⟨h.sh, e2, by have := h.dp; omega, by have := h.ln; show _ ≤ 16777216; omega⟩]
end D8
namespace D8
open PySem PySem.Spec PyProof.Rows L2
@[simp] theorem sumF_iM {cs : List Int} : sumF (.ml (iM cs)) = some (mint cs.sum) := by
  show (ims (iM cs)).bind _ = _
  rw [ims_iM, Option.bind_some, intsOf_iD']; rfl
@[simp] theorem sumF_iT {cs : List Int} : sumF (.im (.tuple (iD cs))) = some (mint cs.sum) := by
  show (intsOf (iD cs)).map _ = _
  rw [intsOf_iD']; rfl
@[simp] theorem sumF_iL {cs : List Int} : sumF (.im (.list (iD cs))) = some (mint cs.sum) := by
  show (intsOf (iD cs)).map _ = _
  rw [intsOf_iD']; rfl
end D8
namespace D8
open PySem PySem.Spec PyProof.Rows L2
/-! counts -/
def cts (R : Nat) (L : List Nat) : List Int := (List.range R).map fun i => (L.count i : Int)
theorem cts_nil {R : Nat} : cts R [] = List.replicate R 0 := by
  refine List.ext_getElem? fun i => ?_
  by_cases h : i < R
  · simp [cts, h]
  · simp [cts, h]
theorem cts_len {R : Nat} {L : List Nat} : (cts R L).length = R := by simp [cts]
theorem cts_it {R : Nat} {L : List Nat} {k : Nat} (h : k < R) : it (cts R L) (k : Int) = (L.count k : Int) := by
  rw [it_get (by rw [cts_len]; exact h)]
  simp [cts]
theorem cts_set {R : Nat} {L : List Nat} {k : Nat} (h : k < R) : (cts R L).set k ((L.count k : Int) + 1) = cts R (L ++ [k]) := by
  refine List.ext_getElem (by simp [cts_len]) fun i h1 h2 => ?_
  have hi : i < R := by simpa [cts_len] using h2
  by_cases e : i = k
  · subst e; simp [cts]
  · rw [List.getElem_set_ne (by omega)]
    have : ¬ k = i := fun z => e z.symm
    simp [cts, this]
theorem iM_set' {b : List Int} {k : Nat} {x : Int} : (iM b).set k (.im (.int x)) = iM (b.set k x) := by simp [iM, List.map_set]
theorem eqF_iM {a : List Int} : eqF (.ml (iM a)) (.ml (iM a)) = some true := by
  have h : ∀ l : List Int, PyData.eqvAll (iD l) (iD l) = true := fun l => by
    induction l with
    | nil => rfl
    | cons x l ih => simp [iD, PyData.eqvAll, PyData.eqv] at ih ⊢; exact ih
  simp [eqF, M.fz, shaped_iD, PyData.eqv, h]
theorem rpr_iM {a : List Int} (h : ∀ x ∈ a, x.natAbs < 10 ^ 30) (hl : a.length ≤ 100000) : ∃ s : Str, rprF (.ml (iM a)) = some (mstr s) ∧ okT s := by
  have := niceL_each (xs := iD a) (l := 40) (D := 0) fun x hx => by
    obtain ⟨c, hc, rfl⟩ := List.mem_map.mp hx
    exact nice_int (h c hc)
  rw [len_iD] at this
  obtain ⟨h1, h2⟩ := rpr_list this (by omega) (by decide)
  rw [iD_im] at h1
  exact ⟨_, h1, h2⟩
theorem ixN_p {n : Nat} {x : Int} (h0 : 0 ≤ x) (h1 : x < n) : ixN n x = some x.toNat := by unfold ixN; rw [if_pos h0, if_pos h1]
end D8
namespace D8
open PySem PySem.Spec PyProof.Rows L2
theorem eqvAll_iD : ∀ {a b : List Int}, PyData.eqvAll (iD a) (iD b) = decide (a = b)
  | [], [] => rfl
  | [], y :: b => rfl
  | x :: a, [] => rfl
  | x :: a, y :: b => by
    have ih := eqvAll_iD (a := a) (b := b)
    have e : PyData.eqvAll (iD (x :: a)) (iD (y :: b)) = (PyData.eqv (.int x) (.int y) && PyData.eqvAll (iD a) (iD b)) := rfl
    rw [e, ih]
    by_cases h1 : x = y <;> by_cases h2 : a = b <;> simp [PyData.eqv, h1, h2]
theorem shaped_iT {a : List Int} : SeqAt.shaped (.tuple (iD a)) = true := by simp [SeqAt.shaped, PyData.canLay0, PyData.depth, canLay_iD, depth_iD]
@[simp] theorem eqF_TT {a b : List Int} : eqF (.im (.tuple (iD a))) (.im (.tuple (iD b))) = some (decide (a = b)) := by
  simp [eqF, M.fz, shaped_iT, PyData.eqv, eqvAll_iD]
@[simp] theorem eqF_LL {a b : List Int} : eqF (.im (.list (iD a))) (.im (.list (iD b))) = some (decide (a = b)) := by
  simp [eqF, M.fz, shaped_iD, PyData.eqv, eqvAll_iD]
@[simp] theorem eqF_bb {a b : Bool} : eqF (.im (.bool a)) (.im (.bool b)) = some (decide (a = b)) := by cases a <;> cases b <;> rfl
end D8
namespace D8
open PySem PySem.Spec PyProof.Rows L2
@[simp] theorem eqF_nn : eqF (.ml []) (.ml []) = some true := by
  have h : SeqAt.shaped (.list []) = true := by decide
  simp [eqF, M.fz, fzs, h, PyData.eqv, PyData.eqvAll]
end D8

namespace D8
open PySem PySem.Spec PyProof.Rows L2
/-! ### a block in two -/
def takeS : Nat → Ss → Ss
  | 0, _ => .nil
  | _, .nil => .nil
  | k + 1, .cons s ss => .cons s (takeS k ss)
def dropS : Nat → Ss → Ss
  | 0, ss => ss
  | _, .nil => .nil
  | k + 1, .cons _ ss => dropS k ss
theorem ev_split {Γ : Gam} {pn : List Nat} {Q : Fl × EnvM → Prop} (P : EnvM → Prop) : ∀ (k : Nat) {ss : Ss} {env : EnvM}, Ev (execSs Γ pn (takeS k ss) env) (fun r => r.1 = .nx ∧ P r.2) → (∀ env, P env → Ev (execSs Γ pn (dropS k ss) env) Q) → Ev (execSs Γ pn ss env) Q
  | 0, ss, env, h, h2 => by
    obtain ⟨r, e, h3, h4⟩ := h
    cases ss <;> (simp only [takeS, execSs, Option.some.injEq] at e; subst e; exact h2 _ h4)
  | k + 1, .nil, env, h, h2 => by
    obtain ⟨r, e, h3, h4⟩ := h
    simp only [takeS, execSs, Option.some.injEq] at e; subst e; exact h2 _ h4
  | k + 1, .cons s ss, env, h, h2 => by
    obtain ⟨r, e, h3, h4⟩ := h
    simp only [takeS, execSs] at e
    rw [bsi] at e
    obtain ⟨⟨f, env1⟩, e1, e2⟩ := e
    cases f with
    | nx =>
      obtain ⟨r2, e3, q⟩ := ev_split P k ⟨r, e2, h3, h4⟩ h2
      refine ⟨r2, ?_, q⟩
      simp only [execSs, e1, Option.bind_some]
      exact e3
    | _ =>
      simp only [Option.some.injEq] at e2
      subst e2
      cases h3
@[simp ↓] theorem ev_st_tpl {Γ : Gam} {pn : List Nat} {env : EnvM} {ts : Tgs} {xs : List M} {Q : EnvM → Prop} : Et (store Γ pn (.tp ts) (.ml xs) env) Q = Et (setTp pn (.tp ts) (.list (fzs xs)) env) Q := by
  show Ev _ _ = Ev _ _
  simp only [store]
@[simp ↓] theorem ev_setT_tpl {env : EnvM} {ts : Tgs} {ds : List PyData} {Q : EnvM → Prop} : Et (setT (.tp ts) (.list ds) env) Q = Et (setTs ts ds env) Q := by
  show Ev _ _ = Ev _ _
  simp only [setT]
end D8

namespace D8
open PySem PySem.Spec PyProof.Rows L2
/-! ### a floor walked from a square -/
def ext (fs : List Int) (g : Int) : List Int := if g ∈ fs then fs else fs ++ [g]
theorem ext_mem {fs : List Int} {g y : Int} : y ∈ ext fs g ↔ y ∈ fs ∨ y = g := by
  unfold ext
  split
  · next h => exact ⟨.inl, fun e => e.elim id fun e => e ▸ h⟩
  · simp
theorem ext_nd {fs : List Int} {g : Int} (h : fs.Nodup) : (ext fs g).Nodup := by
  unfold ext
  split
  · exact h
  · next hn => rw [List.nodup_append]; exact ⟨h, by simp, fun a ha c hc e => hn (by simp at hc; subst hc; exact e ▸ ha)⟩
theorem ext_pre {fs : List Int} {g : Int} : fs <+: ext fs g := by
  unfold ext
  split
  · exact List.prefix_refl _
  · exact List.prefix_append _ _
def bf (F : Flo) (s : Int) : Nat → List Int
  | 0 => [s]
  | p + 1 => match (bf F s p)[p]? with
    | some x => ext (ext (bf F s p) (it F.1 x)) (it F.2 x)
    | none => bf F s p
theorem bf_some {F : Flo} {s x : Int} {p : Nat} (h : (bf F s p)[p]? = some x) : bf F s (p + 1) = ext (ext (bf F s p) (it F.1 x)) (it F.2 x) := by rw [bf, h]
theorem bf_none {F : Flo} {s : Int} {p : Nat} (h : (bf F s p)[p]? = none) : bf F s (p + 1) = bf F s p := by rw [bf, h]
theorem bf_pre {F : Flo} {s : Int} {p : Nat} : bf F s p <+: bf F s (p + 1) := by
  cases h : (bf F s p)[p]? with
  | none => rw [bf_none h]; exact List.prefix_refl _
  | some x => rw [bf_some h]; exact List.IsPrefix.trans ext_pre ext_pre
theorem bf_stop {F : Flo} {s : Int} {p : Nat} (h : (bf F s p).length ≤ p) : ∀ q, p ≤ q → bf F s q = bf F s p
  | 0, hq => by rw [show p = 0 by omega]
  | q + 1, hq => by
    rcases Nat.lt_or_ge p (q + 1) with c | c
    · have ih := bf_stop h q (by omega)
      rw [bf_none (by rw [ih]; exact List.getElem?_eq_none (by omega)), ih]
    · rw [show p = q + 1 by omega]
theorem bf_nd {F : Flo} {s : Int} : ∀ p, (bf F s p).Nodup
  | 0 => by simp [bf]
  | p + 1 => by
    cases h : (bf F s p)[p]? with
    | none => rw [bf_none h]; exact bf_nd p
    | some x => rw [bf_some h]; exact ext_nd (ext_nd (bf_nd p))
theorem bf_hd {F : Flo} {s : Int} : ∀ p, (bf F s p)[0]? = some s
  | 0 => rfl
  | p + 1 => by
    obtain ⟨t, ht⟩ := bf_pre (F := F) (s := s) (p := p)
    have := bf_hd (F := F) (s := s) p
    rw [← ht, List.getElem?_append_left (List.getElem?_eq_some_iff.mp this).1, this]
theorem bf_self {F : Flo} {s : Int} (p : Nat) : s ∈ bf F s p := List.mem_of_getElem? (bf_hd p)
theorem bf_rng {n : Nat} {F : Flo} (o : Okf n F) {s : Int} (s0 : 0 ≤ s) (s1 : s < n) : ∀ p, ∀ x ∈ bf F s p, 0 ≤ x ∧ x < n
  | 0 => fun x hx => by simp [bf] at hx; subst hx; exact ⟨s0, s1⟩
  | p + 1 => fun x hx => by
    cases h : (bf F s p)[p]? with
    | none => rw [bf_none h] at hx; exact bf_rng o s0 s1 p x hx
    | some y =>
      rw [bf_some h, ext_mem, ext_mem] at hx
      have hy := bf_rng o s0 s1 p y (List.mem_of_getElem? h)
      rcases hx with (hx | rfl) | rfl
      · exact bf_rng o s0 s1 p x hx
      · exact o.1.it hy.1 hy.2
      · exact o.2.it hy.1 hy.2
theorem bf_cl {F : Flo} {s : Int} : ∀ (p j : Nat) (x : Int), j < p → (bf F s p)[j]? = some x → it F.1 x ∈ bf F s p ∧ it F.2 x ∈ bf F s p
  | 0, _, _, h, _ => absurd h (by omega)
  | p + 1, j, x, hj, hx => by
    cases h : (bf F s p)[p]? with
    | none =>
      rw [bf_none h] at hx ⊢
      by_cases e : j = p
      · subst e; rw [h] at hx; cases hx
      · exact bf_cl p j x (by omega) hx
    | some y =>
      have hl := (List.getElem?_eq_some_iff.mp h).1
      obtain ⟨t, ht⟩ := bf_pre (F := F) (s := s) (p := p)
      rw [← ht, List.getElem?_append_left (by omega)] at hx
      rw [bf_some h]
      simp only [ext_mem]
      by_cases e : j = p
      · subst e; rw [h] at hx; cases hx; exact ⟨.inl (.inr rfl), .inr rfl⟩
      · have := bf_cl p j x (by omega) hx
        exact ⟨.inl (.inl this.1), .inl (.inl this.2)⟩
theorem bf_le {n : Nat} {F : Flo} (o : Okf n F) {s : Int} (s0 : 0 ≤ s) (s1 : s < n) (p : Nat) : (bf F s p).length ≤ n := by
  have := nd_le (l2 := upTo n) (bf_nd (F := F) (s := s) p) fun x hx => mem_upTo.mpr (bf_rng o s0 s1 p x hx)
  rwa [len_upTo] at this
theorem bf_closed {n : Nat} {F : Flo} (o : Okf n F) {s : Int} (s0 : 0 ≤ s) (s1 : s < n) : ∀ x ∈ bf F s n, it F.1 x ∈ bf F s n ∧ it F.2 x ∈ bf F s n := fun x hx => by
  obtain ⟨j, hj, e⟩ := List.mem_iff_getElem.mp hx
  have := bf_le o s0 s1 n
  exact bf_cl n j x (by omega) (by rw [List.getElem?_eq_getElem hj, e])
theorem bf_ord {n : Nat} {F : Flo} (o : Okf n F) (c : CC n F.1 F.2) {s : Int} (s0 : 0 ≤ s) (s1 : s < n) : Ord n (bf F s n) := by
  have nd := bf_nd (F := F) (s := s) n
  have rg := bf_rng o s0 s1 n
  have cl := bf_closed o s0 s1
  have all : ∀ x ∈ upTo n, x ∈ bf F s n := fun x hx => by
    obtain ⟨x0, x1⟩ := mem_upTo.mp hx
    exact c (· ∈ bf F s n) (fun y y0 y1 => ⟨fun h => o.1.closed nd rg (fun z hz => (cl z hz).1) y0 y1 h, fun h => (cl y h).1⟩) (fun y y0 y1 => ⟨fun h => o.2.closed nd rg (fun z hz => (cl z hz).2) y0 y1 h, fun h => (cl y h).2⟩) s x s0 s1 x0 x1 (bf_self n)
  have h1 := nd_le (l2 := bf F s n) nd_upTo all
  rw [len_upTo] at h1
  have h2 := bf_le o s0 s1 n
  exact ⟨by omega, rg, nd⟩
end D8

namespace D8
open PySem PySem.Spec PyProof.Rows L2
/-! ### alike floors -/
structure Iso (n : Nat) (F G : Flo) (f : Int → Int) : Prop where
  rng : ∀ x : Int, 0 ≤ x → x < n → 0 ≤ f x ∧ f x < n
  inj : ∀ x y : Int, 0 ≤ x → x < n → 0 ≤ y → y < n → f x = f y → x = y
  r : ∀ x : Int, 0 ≤ x → x < n → f (it F.1 x) = it G.1 (f x)
  u : ∀ x : Int, 0 ≤ x → x < n → f (it F.2 x) = it G.2 (f x)
theorem ext_map {n : Nat} {f : Int → Int} (inj : ∀ x y : Int, 0 ≤ x → x < n → 0 ≤ y → y < n → f x = f y → x = y) {fs : List Int} {g : Int} (hf : ∀ x ∈ fs, 0 ≤ x ∧ x < n) (g0 : 0 ≤ g) (g1 : g < n) : ext (fs.map f) (f g) = (ext fs g).map f := by
  unfold ext
  by_cases h : g ∈ fs
  · rw [if_pos h, if_pos (List.mem_map.mpr ⟨g, h, rfl⟩)]
  · rw [if_neg h, if_neg fun z => by
      obtain ⟨y, hy, e⟩ := List.mem_map.mp z
      have := inj y g (hf y hy).1 (hf y hy).2 g0 g1 e
      exact h (this ▸ hy)]
    simp
theorem bf_map {n : Nat} {F G : Flo} {f : Int → Int} (o : Okf n F) (i : Iso n F G f) {s : Int} (s0 : 0 ≤ s) (s1 : s < n) : ∀ p, bf G (f s) p = (bf F s p).map f
  | 0 => rfl
  | p + 1 => by
    have ih := bf_map o i s0 s1 p
    have rg := bf_rng o s0 s1 p
    cases h : (bf F s p)[p]? with
    | none => rw [bf_none h, bf_none (by rw [ih, List.getElem?_map, h]; rfl), ih]
    | some x =>
      obtain ⟨x0, x1⟩ := rg x (List.mem_of_getElem? h)
      have h1 := o.1.it x0 x1
      have h2 := o.2.it x0 x1
      rw [bf_some h, bf_some (x := f x) (by rw [ih, List.getElem?_map, h]; rfl), ih, ← i.r x x0 x1, ← i.u x x0 x1, ext_map i.inj rg h1.1 h1.2, ext_map i.inj (fun y hy => ?_) h2.1 h2.2]
      rcases ext_mem.mp hy with hy | rfl
      · exact rg y hy
      · exact h1
theorem Iso.map_ord {n : Nat} {F G : Flo} {f : Int → Int} (i : Iso n F G f) {B : List Int} (o : Ord n B) : Ord n (B.map f) := by
  refine ⟨by rw [List.length_map]; exact o.len, fun x hx => ?_, ?_⟩
  · obtain ⟨y, hy, rfl⟩ := List.mem_map.mp hx
    have := o.rng y hy
    exact i.rng y this.1 this.2
  · unfold List.Nodup
    rw [List.pairwise_map]
    refine List.Pairwise.imp_of_mem ?_ o.nd
    intro a b ha hb hne e
    exact hne (i.inj a b (o.rng a ha).1 (o.rng a ha).2 (o.rng b hb).1 (o.rng b hb).2 e)
theorem Iso.inv_map {n : Nat} {F G : Flo} {f : Int → Int} (i : Iso n F G f) {B : List Int} (o : Ord n B) {y : Int} (y0 : 0 ≤ y) (y1 : y < n) : inv (B.map f) (f y) = inv B y := by
  have h := o.inv_rng y0 y1
  have e : it (B.map f) (inv B y) = f y := by rw [it_map o.len h.1 h.2, o.it_inv y0 y1]
  rw [← e, (i.map_ord o).inv_it h.1 h.2]
/-- by the names of B -/
def byW (B row : List Int) : List Int := B.map fun x => inv B (it row x)
/-- the floor, its squares named as one walks from s -/
def cf (n : Nat) (F : Flo) (s : Int) : Flo := (byW (bf F s n) F.1, byW (bf F s n) F.2)
theorem byW_it {n : Nat} {B row : List Int} (o : Ord n B) {a : Int} (a0 : 0 ≤ a) (a1 : a < n) : it (byW B row) a = inv B (it row (it B a)) := it_map o.len a0 a1
theorem byW_ord {n : Nat} {B row : List Int} (o : Ord n B) (r : Ord n row) : Ord n (byW B row) := by
  refine ord_of (g := fun a => inv B (inv row (it B a))) (by simp [byW, o.len]) (fun a a0 a1 => ?_) fun a a0 a1 => ?_
  · rw [byW_it o a0 a1]
    have h1 := o.it a0 a1
    have h2 := r.it h1.1 h1.2
    exact o.inv_rng h2.1 h2.2
  · rw [byW_it o a0 a1]
    have h1 := o.it a0 a1
    have h2 := r.it h1.1 h1.2
    rw [o.it_inv h2.1 h2.2, r.inv_it h1.1 h1.2, o.inv_it a0 a1]
theorem cf_ok {n : Nat} {F : Flo} (o : Okf n F) (c : CC n F.1 F.2) {s : Int} (s0 : 0 ≤ s) (s1 : s < n) : Okf n (cf n F s) := ⟨byW_ord (bf_ord o c s0 s1) o.1, byW_ord (bf_ord o c s0 s1) o.2⟩
/-- called by the names of the walk -/
theorem cf_cal {n : Nat} {F : Flo} (o : Okf n F) (c : CC n F.1 F.2) {s : Int} (s0 : 0 ≤ s) (s1 : s < n) : CalF n (bkL n (bf F s n)) F (cf n F s) := by
  have ob := bf_ord o c s0 s1
  have key : ∀ row, Ord n row → Cal n (bkL n (bf F s n)) row (byW (bf F s n) row) := fun row r => ⟨by simp [byW, ob.len], fun x x0 x1 => by
    have h1 := ob.inv_rng x0 x1
    have h2 := r.it x0 x1
    rw [bkL_it x0 x1, byW_it ob h1.1 h1.2, ob.it_inv x0 x1, bkL_it h2.1 h2.2]⟩
  exact ⟨key _ o.1, key _ o.2⟩
theorem cf_iso {n : Nat} {F G : Flo} {f : Int → Int} (o : Okf n F) (c : CC n F.1 F.2) (i : Iso n F G f) {s : Int} (s0 : 0 ≤ s) (s1 : s < n) : cf n G (f s) = cf n F s := by
  have ob := bf_ord o c s0 s1
  unfold cf byW
  rw [bf_map o i s0 s1 n]
  refine Prod.ext ?_ ?_
  · show ((bf F s n).map f).map _ = _
    rw [List.map_map]
    refine List.map_congr_left fun x hx => ?_
    obtain ⟨x0, x1⟩ := ob.rng x hx
    have h := o.1.it x0 x1
    show inv ((bf F s n).map f) (it G.1 (f x)) = _
    rw [← i.r x x0 x1, i.inv_map ob h.1 h.2]
  · show ((bf F s n).map f).map _ = _
    rw [List.map_map]
    refine List.map_congr_left fun x hx => ?_
    obtain ⟨x0, x1⟩ := ob.rng x hx
    have h := o.2.it x0 x1
    show inv ((bf F s n).map f) (it G.2 (f x)) = _
    rw [← i.u x x0 x1, i.inv_map ob h.1 h.2]
/-- the map of one floor's squares to another's, by the walks from s and from t -/
def isoF (n : Nat) (F G : Flo) (s t : Int) (x : Int) : Int := it (bf G t n) (inv (bf F s n) x)
theorem hd_inv {n : Nat} {F : Flo} (o : Okf n F) (c : CC n F.1 F.2) {s : Int} (s0 : 0 ≤ s) (s1 : s < n) : inv (bf F s n) s = 0 := by
  have ob := bf_ord o c s0 s1
  have h0 : it (bf F s n) 0 = s := by
    have := bf_hd (F := F) (s := s) n
    have h := it_some (r := bf F s n) (x := 0) (by decide) (by rw [ob.len]; omega)
    rw [show (0 : Int).toNat = 0 from rfl, this] at h
    exact (Option.some.inj h).symm
  have := ob.inv_it (x := 0) (by decide) (by omega)
  rwa [h0] at this
theorem iso_cf {n : Nat} {F G : Flo} (o : Okf n F) (c : CC n F.1 F.2) (og : Okf n G) (cg : CC n G.1 G.2) {s t : Int} (s0 : 0 ≤ s) (s1 : s < n) (t0 : 0 ≤ t) (t1 : t < n) (e : cf n F s = cf n G t) : Iso n F G (isoF n F G s t) ∧ isoF n F G s t s = t := by
  have ob := bf_ord o c s0 s1
  have oc := bf_ord og cg t0 t1
  have key : ∀ ra rb, Ord n ra → Ord n rb → byW (bf F s n) ra = byW (bf G t n) rb → ∀ x : Int, 0 ≤ x → x < n → isoF n F G s t (it ra x) = it rb (isoF n F G s t x) := fun ra rb oa ob' h x x0 x1 => by
    have hi := ob.inv_rng x0 x1
    have h1 := byW_it (row := ra) ob hi.1 hi.2
    have h2 := byW_it (row := rb) oc hi.1 hi.2
    rw [h, h2, ob.it_inv x0 x1] at h1
    have hg := oc.it hi.1 hi.2
    have hg2 := ob'.it hg.1 hg.2
    show it (bf G t n) (inv (bf F s n) (it ra x)) = it rb (it (bf G t n) (inv (bf F s n) x))
    rw [← h1, oc.it_inv hg2.1 hg2.2]
  refine ⟨⟨fun x x0 x1 => ?_, fun x y x0 x1 y0 y1 h => ?_, key _ _ o.1 og.1 (congrArg Prod.fst e), key _ _ o.2 og.2 (congrArg Prod.snd e)⟩, ?_⟩
  · have hi := ob.inv_rng x0 x1
    exact oc.it hi.1 hi.2
  · have hx := ob.inv_rng x0 x1
    have hy := ob.inv_rng y0 y1
    have := oc.inj hx.1 hx.2 hy.1 hy.2 h
    rw [← ob.it_inv x0 x1, this, ob.it_inv y0 y1]
  · have h := hd_inv o c s0 s1
    have hg := hd_inv og cg t0 t1
    show it (bf G t n) (inv (bf F s n) s) = t
    rw [h, ← hg, oc.it_inv t0 t1]
theorem Iso.only {n : Nat} {F G : Flo} {f g : Int → Int} (c : CC n F.1 F.2) (o : Okf n F) (og : Okf n G) (i : Iso n F G f) (j : Iso n F G g) {s : Int} (s0 : 0 ≤ s) (s1 : s < n) (e : f s = g s) {x : Int} (x0 : 0 ≤ x) (x1 : x < n) : f x = g x := by
  refine c (fun x => f x = g x) (fun y y0 y1 => ?_) (fun y y0 y1 => ?_) s x s0 s1 x0 x1 e
  · have h1 := i.rng y y0 y1
    have h2 := j.rng y y0 y1
    show f (it F.1 y) = g (it F.1 y) ↔ f y = g y
    rw [i.r y y0 y1, j.r y y0 y1]
    exact ⟨fun h => og.1.inj h1.1 h1.2 h2.1 h2.2 h, fun h => by rw [h]⟩
  · have h1 := i.rng y y0 y1
    have h2 := j.rng y y0 y1
    show f (it F.2 y) = g (it F.2 y) ↔ f y = g y
    rw [i.u y y0 y1, j.u y y0 y1]
    exact ⟨fun h => og.2.inj h1.1 h1.2 h2.1 h2.2 h, fun h => by rw [h]⟩
end D8

namespace D8
open PySem PySem.Spec PyProof.Rows L2
/-! ### how many are alike -/
def cls (n : Nat) (F : Flo) (a : Int) : List Int := (upTo n).filter fun x => decide (cf n F x = cf n F a)
theorem mem_cls {n : Nat} {F : Flo} {a x : Int} : x ∈ cls n F a ↔ (0 ≤ x ∧ x < n) ∧ cf n F x = cf n F a := by simp only [cls, List.mem_filter, mem_upTo, decide_eq_true_eq]
theorem cls_nd {n : Nat} {F : Flo} {a : Int} : (cls n F a).Nodup := nd_upTo.filter _
theorem cls_le {n : Nat} {F : Flo} (o : Okf n F) (c : CC n F.1 F.2) {a b : Int} (a0 : 0 ≤ a) (a1 : a < n) (b0 : 0 ≤ b) (b1 : b < n) : (cls n F a).length ≤ (cls n F b).length := by
  have nd : ((cls n F a).map fun x => isoF n F F a x b).Nodup := by
    unfold List.Nodup
    rw [List.pairwise_map]
    refine List.Pairwise.imp_of_mem ?_ cls_nd
    intro x y hx hy hne e
    obtain ⟨⟨x0, x1⟩, ex⟩ := mem_cls.mp hx
    obtain ⟨⟨y0, y1⟩, ey⟩ := mem_cls.mp hy
    obtain ⟨ix, hx'⟩ := iso_cf o c o c a0 a1 x0 x1 ex.symm
    obtain ⟨iy, hy'⟩ := iso_cf o c o c a0 a1 y0 y1 ey.symm
    have := ix.only c o o iy b0 b1 e a0 a1
    rw [hx', hy'] at this
    exact hne this
  have := nd_le (l2 := cls n F b) nd fun z hz => by
    obtain ⟨x, hx, rfl⟩ := List.mem_map.mp hz
    obtain ⟨⟨x0, x1⟩, ex⟩ := mem_cls.mp hx
    obtain ⟨ix, hx'⟩ := iso_cf o c o c a0 a1 x0 x1 ex.symm
    exact mem_cls.mpr ⟨ix.rng b b0 b1, cf_iso o c ix b0 b1⟩
  rwa [List.length_map] at this
theorem cls_eq {n : Nat} {F : Flo} (o : Okf n F) (c : CC n F.1 F.2) {a b : Int} (a0 : 0 ≤ a) (a1 : a < n) (b0 : 0 ≤ b) (b1 : b < n) : (cls n F a).length = (cls n F b).length := Nat.le_antisymm (cls_le o c a0 a1 b0 b1) (cls_le o c b0 b1 a0 a1)
theorem dvd_cls {β : Type} [DecidableEq β] (key : Int → β) (k : Nat) : ∀ (m : Nat) (l : List Int), l.length ≤ m → (∀ a ∈ l, (l.filter fun x => decide (key x = key a)).length = k) → k ∣ l.length
  | _, [], _, _ => ⟨0, rfl⟩
  | 0, _ :: _, h, _ => by simp at h
  | m + 1, h :: t, hl, hk => by
    have e := hk h List.mem_cons_self
    have hp := (List.filter_append_perm (fun x => decide (key x = key h)) (h :: t)).length_eq
    rw [List.length_append, e] at hp
    have hneg : ((h :: t).filter fun x => !decide (key x = key h)) = t.filter fun x => !decide (key x = key h) := List.filter_cons_of_neg (by simp)
    have hle := List.length_filter_le (fun x => !decide (key x = key h)) t
    have ih := dvd_cls key k m ((h :: t).filter fun x => !decide (key x = key h)) (by rw [hneg]; simp at hl; omega) fun a ha => by
      obtain ⟨ha1, ha2⟩ := List.mem_filter.mp ha
      have hne : key a ≠ key h := by simpa using ha2
      rw [List.filter_filter, ← hk a ha1]
      congr 1
      refine List.filter_congr fun x _ => ?_
      by_cases q : key x = key a
      · have : key x ≠ key h := fun z => hne (q ▸ z)
        simp [q, hne]
      · simp [q]
    rw [← hp]
    exact Nat.dvd_add (Nat.dvd_refl k) ih
theorem cls_dvd {n : Nat} {F : Flo} (o : Okf n F) (c : CC n F.1 F.2) {a : Int} (a0 : 0 ≤ a) (a1 : a < n) : (cls n F a).length ∣ n := by
  have := dvd_cls (cf n F) (cls n F a).length n (upTo n) (by rw [len_upTo]; exact Nat.le_refl _) fun b hb => by
    obtain ⟨b0, b1⟩ := mem_upTo.mp hb
    exact cls_eq o c b0 b1 a0 a1
  rwa [len_upTo] at this
/-! ### the least -/
structure SO {α : Type} (lt : α → α → Bool) : Prop where
  irr : ∀ a, lt a a = false
  tr : ∀ a b c, lt a b = true → lt b c = true → lt a c = true
  tri : ∀ a b, a = b ∨ lt a b = true ∨ lt b a = true
section
open PySem.W
theorem so_int : SO (DatumOrd.lt (α := Int)) := ⟨fun a => decide_eq_false (by omega), fun a b c h1 h2 => decide_eq_true (Int.lt_trans (of_decide_eq_true h1) (of_decide_eq_true h2)), fun a b => by
  rcases Int.lt_trichotomy a b with h | h | h
  · exact .inr (.inl (decide_eq_true h))
  · exact .inl h
  · exact .inr (.inr (decide_eq_true h))⟩
theorem so_list {α : Type} [DecidableEq α] [DatumOrd α] (h : SO (DatumOrd.lt (α := α))) : SO (listLt (α := α)) := by
  refine ⟨fun a => ?_, fun a => ?_, fun a => ?_⟩
  · induction a with
    | nil => rfl
    | cons x xs ih => simp [listLt, ih]
  · induction a with
    | nil =>
      intro b c h1 h2
      cases b with
      | nil => exact h2
      | cons y ys =>
        cases c with
        | nil => simp [listLt] at h2
        | cons z zs => rfl
    | cons x xs ih =>
      intro b c h1 h2
      cases b with
      | nil => simp [listLt] at h1
      | cons y ys =>
        cases c with
        | nil => simp [listLt] at h2
        | cons z zs =>
          simp only [listLt] at h1 h2 ⊢
          by_cases e1 : x = y
          · subst e1
            rw [if_pos rfl] at h1
            by_cases e2 : x = z
            · subst e2
              rw [if_pos rfl] at h2 ⊢
              exact ih _ _ h1 h2
            · rw [if_neg e2] at h2 ⊢
              exact h2
          · rw [if_neg e1] at h1
            by_cases e2 : y = z
            · subst e2
              rw [if_neg e1]
              exact h1
            · rw [if_neg e2] at h2
              have h3 := h.tr _ _ _ h1 h2
              by_cases e3 : x = z
              · subst e3
                rw [h.irr] at h3
                cases h3
              · rw [if_neg e3]
                exact h3
  · induction a with
    | nil =>
      intro b
      cases b with
      | nil => exact .inl rfl
      | cons y ys => exact .inr (.inl rfl)
    | cons x xs ih =>
      intro b
      cases b with
      | nil => exact .inr (.inr rfl)
      | cons y ys =>
        simp only [listLt]
        by_cases e : x = y
        · subst e
          rw [if_pos rfl, if_pos rfl]
          rcases ih ys with h1 | h1
          · exact .inl (by rw [h1])
          · exact .inr h1
        · rw [if_neg e, if_neg (fun z => e z.symm)]
          exact .inr ((h.tri x y).resolve_left e)
theorem so_tup {α : Type} [DecidableEq α] [DatumOrd α] (h : SO (DatumOrd.lt (α := α))) : SO (DatumOrd.lt (α := Tup α)) := by
  have l := so_list h
  exact ⟨fun a => l.irr _, fun a b c => l.tr _ _ _, fun a b => by
    rcases l.tri a.items b.items with e | e
    · left; cases a; cases b; exact congrArg Tup.mk e
    · exact .inr e⟩
theorem so_pair {α β : Type} [DecidableEq α] [DatumOrd α] [DecidableEq β] [DatumOrd β] (h : SO (DatumOrd.lt (α := α))) (k : SO (DatumOrd.lt (α := β))) : SO (DatumOrd.lt (α := α × β)) := by
  have e : ∀ p q : α × β, DatumOrd.lt p q = if p.1 = q.1 then DatumOrd.lt p.2 q.2 else DatumOrd.lt p.1 q.1 := fun _ _ => rfl
  refine ⟨fun a => by rw [e, if_pos rfl, k.irr], fun a b c h1 h2 => ?_, fun a b => ?_⟩
  · rw [e] at h1 h2 ⊢
    by_cases e1 : a.1 = b.1
    · rw [if_pos e1] at h1
      by_cases e2 : b.1 = c.1
      · rw [if_pos e2] at h2
        rw [if_pos (e1.trans e2)]
        exact k.tr _ _ _ h1 h2
      · rw [if_neg e2] at h2
        rw [if_neg (by rw [e1]; exact e2), e1]
        exact h2
    · rw [if_neg e1] at h1
      by_cases e2 : b.1 = c.1
      · rw [if_neg (by rw [← e2]; exact e1), ← e2]
        exact h1
      · rw [if_neg e2] at h2
        have h3 := h.tr _ _ _ h1 h2
        rw [if_neg]
        · exact h3
        · intro z
          rw [z, h.irr] at h3
          cases h3
  · rw [e, e]
    by_cases e1 : a.1 = b.1
    · rw [if_pos e1, if_pos e1.symm]
      rcases k.tri a.2 b.2 with h1 | h1
      · exact .inl (Prod.ext e1 h1)
      · exact .inr h1
    · rw [if_neg e1, if_neg (fun z => e1 z.symm)]
      exact .inr ((h.tri a.1 b.1).resolve_left e1)
theorem min_spec {α : Type} {lt : α → α → Bool} (h : SO lt) : ∀ (xs : List α) (x : α), xs.foldl (fun a y => if lt y a = true then y else a) x ∈ x :: xs ∧ ∀ y ∈ x :: xs, lt y (xs.foldl (fun a y => if lt y a = true then y else a) x) = false
  | [], x => ⟨by simp, fun y hy => by simp at hy; subst hy; exact h.irr _⟩
  | y :: ys, x => by
    obtain ⟨h1, h2⟩ := min_spec h ys (if lt y x = true then y else x)
    rw [List.foldl_cons]
    generalize List.foldl (fun a y => if lt y a = true then y else a) (if lt y x = true then y else x) ys = m at h1 h2
    refine ⟨?_, fun z hz => ?_⟩
    · rcases List.mem_cons.mp h1 with e | e
      · split at e
        · rw [e]; simp
        · rw [e]; simp
      · exact List.mem_cons_of_mem _ (List.mem_cons_of_mem _ e)
    · have h0 := h2 _ List.mem_cons_self
      by_cases c : lt y x = true
      · rw [if_pos c] at h0
        rcases List.mem_cons.mp hz with rfl | hz
        · cases q : lt z m with
          | false => rfl
          | true => rw [h.tr _ _ _ c q] at h0; cases h0
        · rcases List.mem_cons.mp hz with rfl | hz
          · exact h0
          · exact h2 z (List.mem_cons_of_mem _ hz)
      · rw [if_neg c] at h0
        rcases List.mem_cons.mp hz with rfl | hz
        · exact h0
        · rcases List.mem_cons.mp hz with rfl | hz
          · cases q : lt z m with
            | false => rfl
            | true =>
              rcases h.tri m x with e | e | e
              · rw [e] at q; exact absurd q c
              · exact absurd (h.tr _ _ _ q e) c
              · rw [e] at h0; cases h0
          · exact h2 z (List.mem_cons_of_mem _ hz)
/-- a floor as ordered data -/
def toF (F : Flo) : Tup Int × Tup Int := (⟨F.1⟩, ⟨F.2⟩)
def ofF (p : Tup Int × Tup Int) : Flo := (p.1.items, p.2.items)
def floD' (F : Flo) : PyData := .tuple [.tuple (iD F.1), .tuple (iD F.2)]
theorem toF_D (F : Flo) : Datum.toD (toF F) = floD' F := rfl
/-- the least of these floors -/
def mnF : List Flo → Flo
  | [] => ([], [])
  | F :: Fs => ofF (minOf (toF F) (Fs.map toF))
theorem mnF_D (F : Flo) (Fs : List Flo) : PySem.W.minD (floD' F) (Fs.map floD') = floD' (mnF (F :: Fs)) := by
  have := minD_map (toF F) (Fs.map toF)
  rw [List.map_map] at this
  exact this
theorem mnF_spec : ∀ {l : List Flo}, l ≠ [] → mnF l ∈ l ∧ ∀ G ∈ l, DatumOrd.lt (toF G) (toF (mnF l)) = false
  | [], h => absurd rfl h
  | F :: Fs, _ => by
    obtain ⟨h1, h2⟩ := min_spec (so_pair (so_tup so_int) (so_tup so_int)) (Fs.map toF) (toF F)
    refine ⟨?_, fun G hG => ?_⟩
    · have : toF F :: Fs.map toF = (F :: Fs).map toF := rfl
      rw [this] at h1
      obtain ⟨G, hG, e⟩ := List.mem_map.mp h1
      have e2 : mnF (F :: Fs) = G := by
        show ofF _ = G
        unfold minOf
        rw [← e]
        rfl
      rw [e2]; exact hG
    · have : toF F :: Fs.map toF = (F :: Fs).map toF := rfl
      rw [this] at h2
      exact h2 (toF G) (List.mem_map.mpr ⟨G, hG, rfl⟩)
theorem toF_inj {F G : Flo} (h : toF F = toF G) : F = G := congrArg ofF h
theorem mnF_congr {l l' : List Flo} (h : l ≠ []) (h' : l' ≠ []) (e : ∀ G, G ∈ l ↔ G ∈ l') : mnF l = mnF l' := by
  obtain ⟨a1, a2⟩ := mnF_spec h
  obtain ⟨b1, b2⟩ := mnF_spec h'
  rcases (so_pair (so_tup so_int) (so_tup so_int)).tri (toF (mnF l)) (toF (mnF l')) with q | q | q
  · exact toF_inj q
  · rw [b2 _ ((e _).mp a1)] at q; cases q
  · rw [a2 _ ((e _).mpr b1)] at q; cases q
end
/-- the least name of a floor -/
def leastF (n : Nat) (F : Flo) : Flo := mnF ((upTo n).map (cf n F))
theorem leastF_mem {n : Nat} {F : Flo} (h : 1 ≤ n) : ∃ s : Int, 0 ≤ s ∧ s < n ∧ leastF n F = cf n F s := by
  have hne : (upTo n).map (cf n F) ≠ [] := fun z => by
    have := congrArg List.length z
    rw [List.length_map, len_upTo] at this
    simp at this; omega
  obtain ⟨s, hs, e⟩ := List.mem_map.mp (mnF_spec hne).1
  obtain ⟨s0, s1⟩ := mem_upTo.mp hs
  exact ⟨s, s0, s1, e.symm⟩
/-- alike exactly if their least names are one -/
theorem leastF_iso {n : Nat} {F G : Flo} (h1 : 1 ≤ n) (o : Okf n F) (c : CC n F.1 F.2) {f : Int → Int} (i : Iso n F G f) (og : Okf n G) (cg : CC n G.1 G.2) : leastF n G = leastF n F := by
  have hne : ∀ H : Flo, (upTo n).map (cf n H) ≠ [] := fun H z => by
    have := congrArg List.length z
    rw [List.length_map, len_upTo] at this
    simp at this; omega
  refine mnF_congr (hne G) (hne F) fun K => ?_
  simp only [List.mem_map]
  constructor
  · rintro ⟨t, ht, rfl⟩
    obtain ⟨t0, t1⟩ := mem_upTo.mp ht
    -- f is onto
    have om := i.map_ord (ord_upTo (n := n))
    obtain ⟨s, hs, e⟩ := List.mem_map.mp (om.mem t0 t1)
    obtain ⟨s0, s1⟩ := mem_upTo.mp hs
    exact ⟨s, hs, by rw [← e, cf_iso o c i s0 s1]⟩
  · rintro ⟨s, hs, rfl⟩
    obtain ⟨s0, s1⟩ := mem_upTo.mp hs
    have := i.rng s s0 s1
    exact ⟨f s, mem_upTo.mpr this, cf_iso o c i s0 s1⟩
theorem iso_least {n : Nat} {F G : Flo} (h1 : 1 ≤ n) (o : Okf n F) (c : CC n F.1 F.2) (og : Okf n G) (cg : CC n G.1 G.2) (e : leastF n G = leastF n F) : ∃ f, Iso n F G f := by
  obtain ⟨s, s0, s1, es⟩ := leastF_mem (F := F) h1
  obtain ⟨t, t0, t1, et⟩ := leastF_mem (F := G) h1
  exact ⟨_, (iso_cf o c og cg s0 s1 t0 t1 (by rw [← es, ← et, e])).1⟩
end D8

namespace K03
open PySem PySem.Spec PyProof.Rows L2 D8
theorem bk_inv {N : Nat} {r b : List Int} (o : D8.Ord N r) (h : Bk N r b) {y : Int} (y0 : 0 ≤ y) (y1 : y < N) : it b y = inv r y := by
  have e := h.fwd o y0 y1
  have hr := h.rng _ (it_mem (r := b) y0 (by rw [h.len]; exact y1))
  have hi := o.inv_rng y0 y1
  exact o.inj hr.1 hr.2 hi.1 hi.2 (by rw [e, o.it_inv y0 y1])
def floD (F : Flo) : PyData := .tuple [.tuple (iD F.1), .tuple (iD F.2)]
def lensD (rs : List (List Int)) : PyData := .tuple ((iD (rs.map fun c => (c.length : Int))).mergeSort (PySem.W.dataLe false id))
theorem sort_iM {cs : List Int} : sortF (.ml (iM cs)) = some (mList ((iD cs).mergeSort (PySem.W.dataLe false id))) := by
  show (ims (iM cs)).bind _ = _
  rw [ims_iM, Option.bind_some, if_pos]
  refine ⟨?_, ?_, ?_⟩
  · simp only [iD, List.all_map, List.all_eq_true]
    intro x hx
    simp only [Function.comp, List.all_eq_true]
    intro y hy
    simp [PySem.W.alike]
  · simp [sortableB, iD]
  · simp [iD, PyData.depth]
theorem row_nice {m : Nat} {r : List Int} (h : D8.Ord m r) (hm : m ≤ 13) : NiceL 550 0 (iD r) := by
  have := niceL_each (xs := iD r) (l := 40) (D := 0) fun x hx => by
    obtain ⟨c, hc, rfl⟩ := iD_mem hx
    have := h.rng c hc
    exact nice_int (by omega)
  rw [len_iD, h.len] at this
  exact this.mono (by omega) (Nat.le_refl _)
theorem flo_nice {m : Nat} {F : Flo} (h : Okf m F) (hm : m ≤ 13) : Nice 1300 2 (floD F) := (NiceL.cons (row_nice h.1 hm).tup (NiceL.one (row_nice h.2 hm).tup)).tup.mono (by decide) (by decide)
theorem eq_nice {L D : Nat} {d : PyData} (h : Nice L D d) (hD : D ≤ 60) : eqF (.im d) (.im d) = some true := by
  have := h.shaped (by omega)
  show (if SeqAt.shaped d = true ∧ SeqAt.shaped d = true then some (PyData.eqv d d) else none) = _
  rw [if_pos ⟨this, this⟩, SeqAt.eqv_refl d h.lay]
theorem rpr2 {L M D : Nat} {a b : PyData} (ha : Nice L D a) (hb : Nice M D b) (hL : L + M ≤ 1000000) (hD : D ≤ 50) : ∃ s : Str, rprF (.ml [.im a, .im b]) = some (mstr s) ∧ okT s := by
  have hn : NiceL 1100000 D [a, b] := (NiceL.cons ha (NiceL.one hb)).mono (by omega) (Nat.le_refl _)
  obtain ⟨h4, h5⟩ := rpr_list hn (by decide) (by omega)
  exact ⟨_, h4, h5⟩
theorem cc_conn {m : Nat} {r u : List Int} (or : D8.Ord m r) (ou : D8.Ord m u) (h : CC m r u) (h1 : 1 ≤ m) : Conn m r u := fun x x0 x1 =>
  h (Orb m r u) (fun x x0 x1 => ⟨fun h => h.rb x0 x1, fun h => h.r⟩) (fun x x0 x1 => ⟨fun h => h.ub x0 x1, fun h => h.u⟩) 0 x (by omega) (by omega) x0 x1 .z
theorem calledF_ev (n : Nat) {m : Nat} {F : Flo} {nm : List Int} (h : Okf m F) (on : D8.Ord m nm) (hm : m ≤ 1000) : Ev (gamT T (n + 1) 15 [.im (floD F), .im (.tuple (iD nm))]) fun q => ∃ G : Flo, q = (.im (floD G), [none, none]) ∧ CalF m nm F G := by
  refine Ev.mono (called_ev n (.inr rfl) h.1 h.2 on hm) ?_
  rintro _ ⟨a, b, rfl, ca, cb⟩
  exact ⟨(a, b), rfl, ca, cb⟩
theorem calF_ok {m : Nat} {F G : Flo} {nm : List Int} (h : Okf m F) (on : D8.Ord m nm) (c : CalF m nm F G) : Okf m G := ⟨c.1.ord on h.1, c.2.ord on h.2⟩
theorem bk_eq {N : Nat} {r b : List Int} (o : D8.Ord N r) (h : Bk N r b) : b = bkL N r := it_ext (n := N) h.len o.bkL.len fun x x0 x1 => by rw [bk_inv o h x0 x1, bkL_it x0 x1]
/-! how often each round is met -/
theorem lback_ev (n : Nat) {N : Nat} {r : List Int} (o : Ord N r) (hN : N ≤ 1000) : Ev (gamT T (n + 1) 11 [.im (.list (iD r))]) fun q => ∃ b, q = (.im (.tuple (iD b)), [none]) ∧ Bk N r b := by
  refine ev_gam (d := d11) rfl rfl ?_
  have hl := o.len
  simp [d11, B11, ims, zeros]
  have hz : (0 : Int) < N → ∀ x ∈ List.replicate N (0 : Int), 0 ≤ x ∧ x < N := fun h x hx => by have := (List.mem_replicate.mp hx).2; omega
  refine ⟨by omega, ?_⟩
  refine ForK.of (forLp_ev (enD (iD r)) (fun k env => ∃ b x y, env = [some (.im (.list (iD r))), some (.ml (iM b)), x, y] ∧ b.length = N ∧ (∀ x ∈ b, 0 ≤ x ∧ x < N) ∧ ∀ j : Nat, j < k → it b (it r j) = j) (fun _ _ => False)
    ⟨List.replicate N 0, _, _, by rw [hl], by simp, fun x hx => ?_, fun _ h => absurd h (by omega)⟩ ?_ ?_) ?_
  · have h1 := (List.mem_replicate.mp hx)
    have : 0 < N := by omega
    omega
  · rintro k env ⟨b, x, y, rfl, _⟩
    simp [nextK, peek, kdM, nextI, D8.items?, enD_len, enD_get]
  · rintro k d env hk ⟨b, x, y, rfl, hb, hr, hj⟩
    rw [enD_get] at hk
    obtain ⟨z, hz1, rfl⟩ := Option.map_eq_some_iff.mp hk
    rw [iD_get] at hz1
    obtain ⟨t, ht, rfl⟩ := Option.map_eq_some_iff.mp hz1
    have hlt := (List.getElem?_eq_some_iff.mp ht).1
    obtain ⟨t0, t1⟩ := o.rng t (List.mem_of_getElem? ht)
    have htk : it r k = t := by simp [it, ht]
    simp [ixN_pos t0 (by rw [hb]; exact t1 : t < (b.length : Int)), iM_set]
    refine ⟨b.set t.toNat k, ⟨rfl, by simp [hb], fun x hx => ?_, fun j hj2 => ?_⟩⟩
    · rcases List.mem_or_eq_of_mem_set hx with h | h
      · exact hr x h
      · subst h; omega
    · rw [it_set (o.it (by omega) (by omega : (j : Int) < N)).1 (by omega)]
      by_cases e : j = k
      · subst e; rw [htk, if_pos (by omega)]
      · rw [if_neg fun z => e ?_]
        · exact hj j (by omega)
        · have := o.inj (x := j) (y := k) (by omega) (by omega) (by omega) (by omega) (by rw [htk]; omega)
          omega
  · rintro ⟨fl, env⟩ h
    cases fl with
    | nx =>
      obtain ⟨b, x, y, rfl, hb, hr, hj⟩ := h
      rw [enD_len, len_iD] at hj
      simp
      exact ⟨b, rfl, hb, hr, fun j h => hj j (by omega)⟩
    | _ => exact h.elim
/-! a dict of ints that says yes to each -/
/-- a row called otherwise -/
theorem renamed_ev (n : Nat) {m : Nat} {a b nm : List Int} {D : PyData} (hNM : D = .list (iD nm) ∨ D = .tuple (iD nm)) (oa : D8.Ord m a) (ob : D8.Ord m b) (on : D8.Ord m nm) (hm : m ≤ 1000) :
    Ev (gamT T (n + 1) 0 [.im (.tuple [.tuple (iD a), .tuple (iD b)]), .im D]) fun o => ∃ a' b' : List Int, o = (.im (.tuple [.tuple (iD a'), .tuple (iD b')]), [none, none]) ∧ Cal m nm a a' ∧ Cal m nm b b' := by
  have hix : ∀ {x : Int}, 0 ≤ x → x < m → idxF (.im D) (.im (.int x)) = some (mint (it nm x)) := fun {x} x0 x1 => by
    rcases hNM with rfl | rfl
    · exact (show IsL _ nm from .inl rfl).idx x0 (by rw [on.len]; exact x1)
    · exact (show IsL _ nm from .inr (.inl rfl)).idx x0 (by rw [on.len]; exact x1)
  have hpin : pins [.im (.tuple [.tuple (iD a), .tuple (iD b)]), .im D] 0 = [] := by rcases hNM with rfl | rfl <;> rfl
  refine ev_gam (d := d0) rfl rfl ?_
  show Ev (execSs (gamT T n) (pins [.im (.tuple [.tuple (iD a), .tuple (iD b)]), .im D] 0) B0 [some (.im (.tuple [.tuple (iD a), .tuple (iD b)])), some (.im D), none, none, none, none, none]) _
  rw [hpin, B0]
  simp
  refine ForK.of (forLp_ev [.tuple (iD a), .tuple (iD b)] (fun k env => ∃ rs : List (List Int), ∃ x y z w, env = [some (.im (.tuple [.tuple (iD a), .tuple (iD b)])), some (.im D), some (.ml (rs.map fun r => .im (.tuple (iD r)))), x, y, z, w] ∧ rs.length = k ∧ ∀ (j : Nat) (r row : List Int), rs[j]? = some r → [a, b][j]? = some row → Cal m nm row r) (fun _ _ => False)
    ⟨[], _, _, _, _, rfl, rfl, fun _ _ _ h => absurd h (by simp)⟩ ?_ ?_) ?_
  · rintro k env ⟨rs, x, y, z, w, rfl, _⟩
    exact next_sl rfl rfl rfl
  · rintro k g env hk ⟨rs, x, y, z, w, rfl, hl, hrs⟩
    have hk2 := (List.getElem?_eq_some_iff.mp hk).1
    simp at hk2
    obtain ⟨row, rfl, orow, erow⟩ : ∃ row : List Int, g = .tuple (iD row) ∧ D8.Ord m row ∧ [a, b][k]? = some row := by
      rcases (by omega : k = 0 ∨ k = 1) with rfl | rfl
      · simp at hk; exact ⟨a, hk.symm, oa, rfl⟩
      · simp at hk; exact ⟨b, hk.symm, ob, rfl⟩
    have lrow := orow.len
    simp [ims, zeros, lrow]
    refine ⟨by omega, ?_⟩
    refine ForK.of (forLp_ev (enD (iD row)) (fun j env => ∃ f s o, env = [some (.im (.tuple [.tuple (iD a), .tuple (iD b)])), some (.im D), some (.ml (rs.map fun r => .im (.tuple (iD r)))), some (.im (.tuple (iD row))), some (.ml (iM f)), s, o] ∧ f.length = m ∧ ∀ i : Int, 0 ≤ i → i < j → i < m → it f (it nm i) = it nm (it row i)) (fun _ _ => False)
      ⟨List.replicate m 0, _, _, rfl, by simp, fun i h1 h2 => by omega⟩ ?_ ?_) ?_
    · rintro j env ⟨f, s, o, rfl, _⟩
      simp [nextK, peek, kdM, nextI, D8.items?, enD_len, enD_get]
    · rintro j g env hj ⟨f, s, o, rfl, lf, rf⟩
      rw [enD_get] at hj
      obtain ⟨t, ht1, rfl⟩ := Option.map_eq_some_iff.mp hj
      rw [iD_get] at ht1
      obtain ⟨t, ht, rfl⟩ := Option.map_eq_some_iff.mp ht1
      have hjl := (List.getElem?_eq_some_iff.mp ht).1
      have et : it row j = t := by have := it_some (r := row) (x := j) (by omega) (by omega); simp at this; rw [ht] at this; exact (Option.some.inj this).symm
      obtain ⟨t0, t1⟩ := orow.rng t (List.mem_of_getElem? ht)
      have hj0 : (0 : Int) ≤ j := by omega
      have e1 := hix hj0 (by omega : (j : Int) < m)
      have e2 := hix t0 t1
      have r1 := on.it hj0 (by omega : (j : Int) < m)
      simp [e1, e2, ixN_pos r1.1 (by rw [lf]; exact r1.2 : it nm j < (f.length : Int)), iM_set]
      refine ⟨f.set (it nm j).toNat (it nm t), rfl, by simp [lf], fun i i0 i1 i2 => ?_⟩
      have r2 := on.it i0 i2
      rw [it_set r2.1 (by omega)]
      by_cases e : i = j
      · subst e
        rw [if_pos (by omega), et]
      · rw [if_neg (fun z => e (on.inj i0 i2 hj0 (by omega) (by omega)))]
        exact rf i i0 (by omega) i2
    · rintro ⟨fl, env⟩ h
      cases fl with
      | nx =>
        obtain ⟨f, s, o, rfl, lf, rf⟩ := h
        rw [enD_len, len_iD, lrow] at rf
        simp
        refine ⟨by omega, rs ++ [f], by simp, by simp [hl], fun j r row' hr he => ?_⟩
        by_cases ej : j < rs.length
        · rw [List.getElem?_append_left ej] at hr
          exact hrs j r row' hr he
        · rw [List.getElem?_append_right (by omega)] at hr
          have : j = rs.length := by have := (List.getElem?_eq_some_iff.mp hr).1; simp at this; omega
          subst this
          simp at hr
          subst hr
          rw [hl, erow] at he
          cases he
          exact ⟨lf, fun i i0 i1 => rf i i0 i1 i1⟩
      | _ => exact h.elim
  · rintro ⟨fl, env⟩ h
    cases fl with
    | nx =>
      obtain ⟨rs, x, y, z, w, rfl, hl, hrs⟩ := h
      match rs, hl with
      | [r1, r2], _ =>
        simp
        rcases hNM with rfl | rfl
        · exact ⟨r1, r2, by simp, hrs 0 _ _ rfl rfl, hrs 1 _ _ rfl rfl⟩
        · exact ⟨r1, r2, by simp, hrs 0 _ _ rfl rfl, hrs 1 _ _ rfl rfl⟩
    | _ => exact h.elim


end K03

namespace K03
open PySem PySem.Spec PyProof.Rows L2 D8
theorem foldl_ext1 {fs : List Int} {gs : List Int} {k : Nat} {g : Int} (h : gs[k]? = some g) : (gs.take (k + 1)).foldl ext fs = ext ((gs.take k).foldl ext fs) g := by
  rw [List.take_succ, h, List.foldl_append]
  rfl
theorem walk_ev (n : Nat) {N : Nat} {F : Flo} (o : Okf N F) {s : Int} (s0 : 0 ≤ s) (s1 : s < N) (hN : N ≤ 1000) :
    Ev (gamT T (n + 1) 12 [.im (.tuple (iD F.1)), .im (.tuple (iD F.2)), .im (.int s)]) fun q => q = (.im (.list (iD (bf F s N))), [none, none, none]) := by
  refine ev_gam (d := d12) rfl rfl ?_
  show Ev (execSs (gamT T n) [] B12 [some (.im (.tuple (iD F.1))), some (.im (.tuple (iD F.2))), some (mint s), none, none, none]) _
  rw [B12]
  simp
  refine WhK.of (whLp_ev (I := fun m env => ∃ p : Nat, ∃ y5, env = [some (.im (.tuple (iD F.1))), some (.im (.tuple (iD F.2))), some (mint s), some (.ml (iM (bf F s p))), some (mint p), y5] ∧ p ≤ (bf F s p).length ∧ N - p ≤ m)
    (J := fun env => ∃ p : Nat, ∃ y5, env = [some (.im (.tuple (iD F.1))), some (.im (.tuple (iD F.2))), some (mint s), some (.ml (iM (bf F s N))), some (mint p), y5]) (R := fun _ _ => False) ?_ N _
    ⟨0, none, rfl, by simp, by omega⟩) ?_
  · rintro m env ⟨p, y5, rfl, hp, hm⟩
    have hle := bf_le o s0 s1 p
    simp
    by_cases hlt : p < (bf F s p).length
    · refine .inr ⟨by omega, ?_⟩
      obtain ⟨x, hx⟩ : ∃ x, (bf F s p)[p]? = some x := ⟨_, List.getElem?_eq_getElem hlt⟩
      obtain ⟨x0, x1⟩ := bf_rng o s0 s1 p x (List.mem_of_getElem? hx)
      have e1 := atD (r := F.1) x0 (by rw [o.1.len]; exact x1)
      have e2 := atD (r := F.2) x0 (by rw [o.2.len]; exact x1)
      have hp0 : (0 : Int) ≤ p := by omega
      simp [atI_pos hp0, iM_get, hx, e1, e2]
      obtain ⟨gs, hgs⟩ : ∃ gs, gs = [it F.1 x, it F.2 x] := ⟨_, rfl⟩
      have hgr : ∀ g ∈ gs, 0 ≤ g ∧ g < N := fun g hg => by
        rw [hgs] at hg
        simp only [List.mem_cons, List.not_mem_nil, or_false] at hg
        rcases hg with rfl | rfl
        · exact o.1.it x0 x1
        · exact o.2.it x0 x1
      refine ForK.of (forLp_ev (iD gs) (fun k env => ∃ fs', ∃ y5, env = [some (.im (.tuple (iD F.1))), some (.im (.tuple (iD F.2))), some (mint s), some (.ml (iM fs')), some (mint p), y5] ∧ fs' = (gs.take k).foldl ext (bf F s p) ∧ fs'.Nodup ∧ ∀ y ∈ fs', 0 ≤ y ∧ y < N) (fun _ _ => False)
        ⟨bf F s p, _, rfl, rfl, bf_nd p, bf_rng o s0 s1 p⟩ (fun k env _ => next_tm rfl (by rw [hgs]; rfl)) ?_) ?_
      · rintro k g env hk ⟨fs', y5, rfl, hfs, nd, rg⟩
        rw [iD_get] at hk
        obtain ⟨gi, hgi, rfl⟩ := Option.map_eq_some_iff.mp hk
        have hl := nd_len nd rg
        have hst := foldl_ext1 (fs := bf F s p) hgi
        rw [← hfs] at hst
        have hg := hgr gi (List.mem_of_getElem? hgi)
        simp
        refine ⟨fun hin => ?_, fun hnin => ?_⟩
        · refine ⟨fs', rfl, ?_, nd, rg⟩
          rw [hst, ext, if_pos hin]
        · refine ⟨by omega, fs' ++ [gi], rfl, ?_, ?_, fun y hy => ?_⟩
          · rw [hst, ext, if_neg hnin]
          · have := ext_nd (g := gi) nd
            rwa [ext, if_neg hnin] at this
          · rcases List.mem_append.mp hy with h | h
            · exact rg y h
            · simp at h; subst h; exact hg
      · rintro ⟨fl, env⟩ h2
        cases fl with
        | nx =>
          obtain ⟨fs', y5, rfl, hfs, nd, rg⟩ := h2
          rw [len_iD, List.take_length, hgs] at hfs
          have hb : fs' = bf F s (p + 1) := by rw [hfs, bf_some hx]; rfl
          subst hb
          have hl := (bf_pre (F := F) (s := s) (p := p)).length_le
          simp
          refine ⟨m - 1, by omega, p + 1, ⟨rfl, by omega⟩, by omega, by omega⟩
        | _ => exact h2.elim
    · refine .inl ⟨by omega, ?_⟩
      have : bf F s N = bf F s p := bf_stop (by omega) N (by omega)
      rw [this]
      exact ⟨rfl, p, rfl⟩
  · rintro ⟨fl, env⟩ h2
    cases fl with
    | nx =>
      obtain ⟨p, y5, rfl⟩ := h2
      simp
    | _ => exact h2.elim
theorem lwalked_ev (n : Nat) {N : Nat} {F : Flo} (o : Okf N F) (c : CC N F.1 F.2) {s : Int} (s0 : 0 ≤ s) (s1 : s < N) (hN : N ≤ 1000) :
    Ev (gamT T (n + 2) 16 [.im (floD F), mint s]) fun q => q = (.im (.tuple (iD (bkL N (bf F s N)))), [none, none]) := by
  refine ev_gam (d := d16) rfl rfl ?_
  show Ev (execSs (gamT T (n + 1)) [] B16 [some (.im (floD F)), some (mint s)]) _
  rw [B16]
  simp [floD]
  refine CallK.of (walk_ev n o s0 s1 hN) ?_
  rintro _ rfl
  have ob := bf_ord o c s0 s1
  simp
  refine CallK.of (lback_ev n ob hN) ?_
  rintro _ ⟨b, rfl, hb⟩
  obtain rfl := bk_eq ob hb
  simp

end K03

namespace D8
open PySem PySem.Spec PyProof.Rows L2
/-! ### a dict of ints to ints -/
def kF (ks : List Int) (φ : Int → Int) : List (Key × M) := ks.map fun k => (.inl k, mint (φ k))
theorem kF_nil {φ : Int → Int} : kF [] φ = [] := rfl
theorem kF_has {ks : List Int} {φ : Int → Int} {g : Int} : mdHas (kF ks φ) (.inl g) = decide (g ∈ ks) := by
  induction ks with
  | nil => rfl
  | cons k ks ih =>
    simp only [mdHas, kF, List.map_cons, List.any_cons] at ih ⊢
    rw [ih]
    by_cases e : k = g
    · subst e; simp
    · have : ¬ ((.inl k : Key) = .inl g) := fun z => e (Sum.inl.inj z)
      have e2 : ¬ g = k := fun z => e z.symm
      simp [this, e2]
theorem kF_get {ks : List Int} {φ : Int → Int} {g : Int} (h : g ∈ ks) : mdGet (kF ks φ) (.inl g) = some (mint (φ g)) := by
  induction ks with
  | nil => cases h
  | cons k ks ih =>
    by_cases e : k = g
    · subst e; simp [mdGet, kF]
    · have : ¬ ((.inl k : Key) = .inl g) := fun z => e (Sum.inl.inj z)
      have h2 : g ∈ ks := (List.mem_cons.mp h).resolve_left fun z => e z.symm
      have := ih h2
      simp only [mdGet, kF, List.map_cons] at this ⊢
      rw [List.find?_cons_of_neg (by simpa using ‹¬ ((.inl k : Key) = .inl g)›)]
      exact this
theorem kF_no {ks : List Int} {φ : Int → Int} {g : Int} (h : g ∉ ks) : mdGet (kF ks φ) (.inl g) = none := by
  have h0 : (kF ks φ).find? (fun p => decide (p.1 = Sum.inl g)) = none := by
    rw [List.find?_eq_none]
    intro p hp
    obtain ⟨k, hk, rfl⟩ := List.mem_map.mp hp
    simp only [decide_eq_true_eq]
    intro e
    exact h (Sum.inl.inj e ▸ hk)
  show Option.map _ _ = none
  rw [h0]; rfl
theorem kF_idx {ks : List Int} {φ : Int → Int} {g : Int} (h : g ∈ ks) : idxF (.md (kF ks φ)) (.im (.int g)) = some (mint (φ g)) := by
  show (mdGet (kF ks φ) (.inl g)).bind _ = _
  rw [kF_get h]; rfl
theorem kF_in {ks : List Int} {φ : Int → Int} {g : Int} : inF (.im (.int g)) (.md (kF ks φ)) = some (decide (g ∈ ks)) := by
  show some (mdHas (kF ks φ) (.inl g)) = _
  rw [kF_has]
theorem kF_put {ks : List Int} {φ : Int → Int} {g v : Int} (h : g ∉ ks) : mdPut (kF ks φ) (.inl g) (mint v) = kF (ks ++ [g]) (fun k => if k = g then v else φ k) := by
  rw [mdPut, kF_has, if_neg (by simpa using h)]
  simp only [kF, List.map_append, List.map_cons, List.map_nil, if_true]
  congr 1
  refine List.map_congr_left fun k hk => ?_
  have : k ≠ g := fun e => h (e ▸ hk)
  rw [if_neg this]
theorem kF_put' {ks : List Int} {φ : Int → Int} {g v : Int} (h : g ∉ ks) (e : φ g = v) : mdPut (kF ks φ) (.inl g) (mint v) = kF (ks ++ [g]) φ := by
  rw [mdPut, kF_has, if_neg (by simpa using h)]
  simp [kF, e]
theorem kF_set' {ks : List Int} {φ : Int → Int} {g v : Int} (h : g ∉ ks) (e : φ g = v) (hl : ks.length < 16777216) : mtF .setIx (.md (kF ks φ)) [.im (.int g), .im (.int v)] = some (.md (kF (ks ++ [g]) φ), .im .none) := by
  show (keyOf (.int g)).bind (fun k => if (kF ks φ).length < sizeLine ∧ (mdHas (kF ks φ) k = false ∨ isIm (.im (.int v)) = true) then some (M.md (mdPut (kF ks φ) k (M.im (.int v))), M.im .none) else none) = _
  have h2 : (kF ks φ).length < sizeLine := by simp [kF]; exact hl
  simp only [keyOf, Option.bind_some, kF_has]
  rw [if_pos ⟨h2, .inr rfl⟩, kF_put' h e]
theorem kF_set {ks : List Int} {φ : Int → Int} {g v : Int} (h : g ∉ ks) (hl : ks.length < 16777216) : mtF .setIx (.md (kF ks φ)) [.im (.int g), .im (.int v)] = some (.md (kF (ks ++ [g]) (fun k => if k = g then v else φ k)), .im .none) := by
  show (keyOf (.int g)).bind (fun k => if (kF ks φ).length < sizeLine ∧ (mdHas (kF ks φ) k = false ∨ isIm (.im (.int v)) = true) then some (M.md (mdPut (kF ks φ) k (M.im (.int v))), M.im .none) else none) = _
  have h2 : (kF ks φ).length < sizeLine := by simp [kF]; exact hl
  simp only [keyOf, Option.bind_some, kF_has]
  rw [if_pos ⟨h2, .inr rfl⟩, kF_put h]
/-- a walk goes on until all are met -/
theorem bf_gt {n : Nat} {F : Flo} (o : Okf n F) (c : CC n F.1 F.2) {s : Int} (s0 : 0 ≤ s) (s1 : s < n) {k : Nat} (hk : k < n) : k < (bf F s k).length := by
  rcases Nat.lt_or_ge k (bf F s k).length with h | h
  · exact h
  · have := bf_stop h n (by omega)
    have h2 := (bf_ord o c s0 s1).len
    rw [this] at h2
    omega
theorem bf_pre' {F : Flo} {s : Int} {p : Nat} : ∀ {q : Nat}, p ≤ q → bf F s p <+: bf F s q
  | 0, h => by rw [show p = 0 by omega]; exact List.prefix_refl _
  | q + 1, h => by
    rcases Nat.lt_or_ge p (q + 1) with c | c
    · exact List.IsPrefix.trans (bf_pre' (q := q) (by omega)) bf_pre
    · rw [show p = q + 1 by omega]; exact List.prefix_refl _
/-- an item's place -/
theorem inv_pre {B fs : List Int} {g : Int} (h : fs ++ [g] <+: B) (nd : B.Nodup) : inv B g = fs.length := by
  obtain ⟨t, rfl⟩ := h
  have hn : g ∉ fs := fun hg => by
    rw [List.append_assoc, List.nodup_append] at nd
    exact nd.2.2 g hg g (by simp) rfl
  unfold inv
  rw [List.append_assoc, List.idxOf_append, if_neg hn]
  simp
end D8

namespace K03
open PySem PySem.Spec PyProof.Rows L2 D8
theorem walked_ev (n : Nat) {N : Nat} {F : Flo} (o : Okf N F) (c : CC N F.1 F.2) {s : Int} (s0 : 0 ≤ s) (s1 : s < N) (hN : N ≤ 1000) :
    Ev (gamT T (n + 1) 1 [.im (floD F), mint s]) fun q => q = (.im (.tuple (iD (bkL N (bf F s N)))), [none, none]) := by
  refine ev_gam (d := d1) rfl rfl ?_
  show Ev (execSs (gamT T n) [] B1 [some (.im (floD F)), some (mint s), none, none, none, none, none, none, none]) _
  rw [B1]
  have ob := bf_ord o c s0 s1
  have lr := o.1.len
  have h0 : inv (bf F s N) s = 0 := hd_inv o c s0 s1
  simp [floD, lr]
  rw [show [(Sum.inl s, M.im (PyData.int 0))] = kF (bf F s 0) (inv (bf F s N)) from by simp [kF, bf, h0]]
  rw [show M.ml [M.im (PyData.int s)] = .ml (iM (bf F s 0)) from rfl]
  refine for_ints (D8.upTo N) (fun k env => ∃ y6 y7, env = [some (.im (floD F)), some (mint s), some (.im (.tuple (iD F.1))), some (.im (.tuple (iD F.2))), some (.md (kF (bf F s k) (inv (bf F s N)))), some (.ml (iM (bf F s k))), y6, y7, none]) ⟨_, _, rfl⟩ (fun k env hI => ?_) (fun k g env hk hI => ?_) fun env hI => ?_
  · exact next_rgN rfl (by omega)
  · obtain ⟨y6, y7, rfl⟩ := hI
    have hkN : k < N := by
      have := (List.getElem?_eq_some_iff.mp hk).1
      rwa [D8.len_upTo] at this
    obtain rfl : g = (k : Int) := by
      simp [D8.upTo, hkN] at hk
      exact hk.symm
    obtain ⟨x, hx⟩ : ∃ x, (bf F s k)[k]? = some x := ⟨_, List.getElem?_eq_getElem (bf_gt o c s0 s1 hkN)⟩
    obtain ⟨x0, x1⟩ := bf_rng o s0 s1 k x (List.mem_of_getElem? hx)
    have e1 := atD (r := F.1) x0 (by rw [o.1.len]; exact x1)
    have e2 := atD (r := F.2) x0 (by rw [o.2.len]; exact x1)
    have hp0 : (0 : Int) ≤ k := by omega
    simp [atI_pos hp0, iM_get, hx, e1, e2]
    obtain ⟨gs, hgs⟩ : ∃ gs, gs = [it F.1 x, it F.2 x] := ⟨_, rfl⟩
    have hpre : ∀ j : Nat, j ≤ 2 → (gs.take j).foldl ext (bf F s k) <+: bf F s N := fun j hj => by
      have h2 : (gs.take j).foldl ext (bf F s k) <+: bf F s (k + 1) := by
        rw [bf_some hx, hgs]
        match j, hj with
        | 0, _ => exact List.IsPrefix.trans ext_pre ext_pre
        | 1, _ => exact ext_pre
        | 2, _ => exact List.prefix_refl _
      exact h2.trans (bf_pre' (by omega))
    refine ForK.of (forLp_ev (iD gs) (fun j env => ∃ fs', ∃ y7, env = [some (.im (floD F)), some (mint s), some (.im (.tuple (iD F.1))), some (.im (.tuple (iD F.2))), some (.md (kF fs' (inv (bf F s N)))), some (.ml (iM fs')), some (mint k), y7, none] ∧ fs' = (gs.take j).foldl ext (bf F s k)) (fun _ _ => False)
      ⟨bf F s k, _, rfl, rfl⟩ (fun k env _ => next_tm rfl (by rw [hgs]; rfl)) ?_) ?_
    · rintro j g env hj ⟨fs', y7, rfl, hfs⟩
      rw [iD_get] at hj
      obtain ⟨gi, hgi, rfl⟩ := Option.map_eq_some_iff.mp hj
      have hj2 : j < 2 := by
        have := (List.getElem?_eq_some_iff.mp hgi).1
        rw [hgs] at this
        simpa using this
      have hst := foldl_ext1 (fs := bf F s k) hgi
      have hpj := hpre (j + 1) (by omega)
      rw [hst, ← hfs] at hpj
      rw [← hfs] at hst
      have hlN := (hfs ▸ hpre j (by omega)).length_le
      rw [ob.len] at hlN
      simp [kF_in, kF_has, -mtF_setD]
      refine ⟨fun hin => ?_, fun hnin => ?_⟩
      · rw [hst, ext, if_pos hin]
        exact ⟨rfl, rfl⟩
      · rw [ext, if_neg hnin] at hpj
        have hv := inv_pre hpj ob.nd
        simp [-mtF_setD, kF_set' hnin hv (by omega)]
        rw [hst, ext, if_neg hnin]
        exact ⟨by omega, rfl, rfl⟩
    · rintro ⟨fl, env⟩ h2
      cases fl with
      | nx =>
        obtain ⟨fs', y7, rfl, hfs⟩ := h2
        rw [len_iD, List.take_length, hgs] at hfs
        have hb : fs' = bf F s (k + 1) := by rw [hfs, bf_some hx]; rfl
        subst hb
        simp
      | _ => exact h2.elim
  · obtain ⟨y6, y7, rfl⟩ := hI
    rw [D8.len_upTo]
    simp [lr]
    refine lcm_ints (D8.upTo N) (fun x => mint (inv (bf F s N) x)) (by rw [D8.len_upTo]; omega) (fun k => next_rgN rfl (by omega)) (fun x hx => ?_) ?_
    · obtain ⟨x0, x1⟩ := D8.mem_upTo.mp hx
      simp [kF_idx (ob.mem x0 x1)]
    · rw [show (D8.upTo N).map (fun x => mint (inv (bf F s N) x)) = iM (bkL N (bf F s N)) by simp [bkL, iM]]
      simp [ims_iM]

end K03

namespace K03
open PySem PySem.Spec PyProof.Rows L2 D8
theorem renamedF_ev (n : Nat) {m : Nat} {F : Flo} {nm : List Int} (h : Okf m F) (on : D8.Ord m nm) (hm : m ≤ 1000) : Ev (gamT T (n + 1) 0 [.im (floD F), .im (.tuple (iD nm))]) fun q => ∃ G : Flo, q = (.im (floD G), [none, none]) ∧ CalF m nm F G := by
  refine Ev.mono (renamed_ev n (D := .tuple (iD nm)) (.inr rfl) h.1 h.2 on hm) ?_
  rintro _ ⟨a, b, rfl, c1, c2⟩
  exact ⟨(a, b), rfl, c1, c2⟩
theorem floD_depth (F : Flo) : (floD F).depth ≤ 2 := by
  simp [floD, PyData.depth, PyData.depthAll, depth_iD]
theorem floDs_depth : ∀ Fs : List Flo, PyData.depthAll (Fs.map floD) ≤ 2
  | [] => by simp [PyData.depthAll]
  | F :: Fs => by
    have h1 := floD_depth F
    have h2 := floDs_depth Fs
    simp only [List.map_cons, PyData.depthAll]
    omega
theorem min1_flo {Fs : List Flo} (h : Fs ≠ []) : min1F (.ml (Fs.map fun F => .im (floD F))) = some (.im (floD (mnF Fs))) := by
  have e : (Fs.map fun F => M.im (floD F)) = (Fs.map floD).map .im := by simp
  show (ims (Fs.map fun F => .im (floD F))).bind _ = _
  rw [e, ims_map, Option.bind_some]
  cases Fs with
  | nil => exact absurd rfl h
  | cons F Fs =>
    show (if alikeB (floD F :: Fs.map floD) = true then _ else none) = _
    have hd := floDs_depth (F :: Fs)
    have ha : ∀ G H : Flo, PySem.W.alike (floD G) (floD H) = true := fun G H => PySem.W.DatumOrd.alike (toF G) (toF H)
    rw [if_pos]
    · exact congrArg (fun d => some (M.im d)) (mnF_D F Fs)
    · simp only [alikeB, Bool.and_eq_true, List.all_eq_true, decide_eq_true_eq]
      have hd' : PyData.depthAll (floD F :: Fs.map floD) ≤ 2 := hd
      refine ⟨⟨fun a ha' b hb => ?_, fun a ha' => ?_⟩, by omega⟩
      · have hm : floD F :: Fs.map floD = (F :: Fs).map floD := rfl
        rw [hm] at ha' hb
        obtain ⟨G, _, rfl⟩ := List.mem_map.mp ha'
        obtain ⟨H, _, rfl⟩ := List.mem_map.mp hb
        exact ha G H
      · have hm : floD F :: Fs.map floD = (F :: Fs).map floD := rfl
        rw [hm] at ha'
        obtain ⟨G, _, rfl⟩ := List.mem_map.mp ha'
        rfl
theorem upTo_ne {N : Nat} (h : 1 ≤ N) (f : Int → Flo) : (D8.upTo N).map f ≠ [] := fun z => by
  have := congrArg List.length z
  rw [List.length_map, D8.len_upTo] at this
  simp at this; omega
theorem lleast_ev (n : Nat) {N : Nat} {F : Flo} (o : Okf N F) (c : CC N F.1 F.2) (h1 : 1 ≤ N) (hN : N ≤ 1000) :
    Ev (gamT T (n + 3) 17 [.im (floD F)]) fun q => q = (.im (floD (leastF N F)), [none]) := by
  refine ev_gam (d := d17) rfl rfl ?_
  show Ev (execSs (gamT T (n + 2)) [] B17 [some (.im (floD F)), none, none]) _
  rw [B17]
  have lr := o.1.len
  simp [floD, lr]
  rw [show PyData.tuple [.tuple (iD F.1), .tuple (iD F.2)] = floD F from rfl]
  refine lcm_ints (D8.upTo N) (fun s => .im (floD (cf N F s))) (by rw [D8.len_upTo]; omega) (fun k => next_rgN rfl (by omega)) (fun s hs => ?_) ?_
  · obtain ⟨s0, s1⟩ := D8.mem_upTo.mp hs
    simp
    refine CallK.of (lwalked_ev n o c s0 s1 hN) ?_
    rintro _ rfl
    simp
    refine CallK.of (calledF_ev (n + 1) o (bf_ord o c s0 s1).bkL hN) ?_
    rintro _ ⟨G, rfl, hG⟩
    obtain rfl := hG.only (bf_ord o c s0 s1).bkL (cf_cal o c s0 s1)
    simp
  · have := min1_flo (upTo_ne h1 (cf N F))
    rw [List.map_map] at this
    simp only [Function.comp_def] at this
    simp [this]
    rfl
theorem least_ev (n : Nat) {N : Nat} {F : Flo} (o : Okf N F) (c : CC N F.1 F.2) (h1 : 1 ≤ N) (hN : N ≤ 1000) :
    Ev (gamT T (n + 2) 2 [.im (floD F)]) fun q => q = (.im (floD (leastF N F)), [none]) := by
  refine ev_gam (d := d2) rfl rfl ?_
  show Ev (execSs (gamT T (n + 1)) [] B2 [some (.im (floD F)), none, none]) _
  rw [B2]
  have lr := o.1.len
  simp [floD, lr]
  rw [show PyData.tuple [.tuple (iD F.1), .tuple (iD F.2)] = floD F from rfl]
  refine lcm_ints (D8.upTo N) (fun s => .im (floD (cf N F s))) (by rw [D8.len_upTo]; omega) (fun k => next_rgN rfl (by omega)) (fun s hs => ?_) ?_
  · obtain ⟨s0, s1⟩ := D8.mem_upTo.mp hs
    simp
    refine CallK.of (walked_ev n o c s0 s1 hN) ?_
    rintro _ rfl
    simp
    refine CallK.of (renamedF_ev n o (bf_ord o c s0 s1).bkL hN) ?_
    rintro _ ⟨G, rfl, hG⟩
    obtain rfl := hG.only (bf_ord o c s0 s1).bkL (cf_cal o c s0 s1)
    simp
  · have := min1_flo (upTo_ne h1 (cf N F))
    rw [List.map_map] at this
    simp only [Function.comp_def] at this
    simp [this]
    rfl

end K03

namespace D8
open PySem PySem.Spec PyProof.Rows L2
/-! ### maps of one floor to another, found by walking -/
theorem nd_of_all {n : Nat} {L : List Int} (hl : L.length = n) (h : ∀ x : Int, 0 ≤ x → x < n → x ∈ L) : L.Nodup := by
  induction n generalizing L with
  | zero => rw [List.length_eq_zero_iff.mp hl]; exact List.nodup_nil
  | succ n ih =>
    have hp : L.Nodup := by
      apply Classical.byContradiction
      intro hn
      obtain ⟨a, t, e1, e2⟩ : ∃ (a : Int) (t : List Int), t.length = n ∧ ∀ x, x ∈ L → x ∈ t := by
        clear ih h
        induction L generalizing n with
        | nil => exact absurd List.nodup_nil hn
        | cons b r ihr =>
          by_cases hb : b ∈ r
          · exact ⟨b, r, by simpa using hl, fun x hx => (List.mem_cons.mp hx).elim (fun e => e ▸ hb) id⟩
          · have hr : ¬ r.Nodup := fun z => hn (List.nodup_cons.mpr ⟨hb, z⟩)
            cases n with
            | zero =>
              have : r = [] := List.length_eq_zero_iff.mp (by simpa using hl)
              subst this
              exact absurd List.nodup_nil hr
            | succ n =>
              obtain ⟨a, t, e1, e2⟩ := ihr n (by simpa using hl) hr
              exact ⟨b, b :: t, by simp [e1], fun x hx => (List.mem_cons.mp hx).elim (fun e => by simp [e]) fun hx => List.mem_cons_of_mem _ (e2 x hx)⟩
      have := nd_le (l1 := upTo (n + 1)) (l2 := t) nd_upTo fun x hx => by
        obtain ⟨x0, x1⟩ := mem_upTo.mp hx
        exact e2 x (h x x0 x1)
      rw [len_upTo, e1] at this
      omega
    exact hp
theorem iso_of {n : Nat} {F G : Flo} {φ : Int → Int} (o : Okf n F) (og : Okf n G) (cg : CC n G.1 G.2) (h1 : 1 ≤ n) (rng : ∀ x : Int, 0 ≤ x → x < n → 0 ≤ φ x ∧ φ x < n) (r : ∀ x : Int, 0 ≤ x → x < n → φ (it F.1 x) = it G.1 (φ x)) (u : ∀ x : Int, 0 ≤ x → x < n → φ (it F.2 x) = it G.2 (φ x)) : Iso n F G φ := by
  have nd : ((upTo n).map φ).Nodup := by
    refine nd_of_all (n := n) (by rw [List.length_map, len_upTo]) ?_
    have nB : ((upTo n).filter fun y => decide (y ∈ (upTo n).map φ)).Nodup := nd_upTo.filter _
    have rB : ∀ y ∈ (upTo n).filter (fun y => decide (y ∈ (upTo n).map φ)), 0 ≤ y ∧ y < n := fun y hy => mem_upTo.mp (List.mem_filter.mp hy).1
    have mB : ∀ x : Int, 0 ≤ x → x < n → φ x ∈ (upTo n).filter (fun y => decide (y ∈ (upTo n).map φ)) := fun x x0 x1 => List.mem_filter.mpr ⟨mem_upTo.mpr (rng x x0 x1), decide_eq_true (List.mem_map.mpr ⟨x, mem_upTo.mpr ⟨x0, x1⟩, rfl⟩)⟩
    have c1 : ∀ y ∈ (upTo n).filter (fun y => decide (y ∈ (upTo n).map φ)), it G.1 y ∈ (upTo n).filter (fun y => decide (y ∈ (upTo n).map φ)) ∧ it G.2 y ∈ (upTo n).filter (fun y => decide (y ∈ (upTo n).map φ)) := fun y hy => by
      obtain ⟨x, hx, rfl⟩ := List.mem_map.mp (of_decide_eq_true (List.mem_filter.mp hy).2)
      obtain ⟨x0, x1⟩ := mem_upTo.mp hx
      rw [← r x x0 x1, ← u x x0 x1]
      have h1 := o.1.it x0 x1
      have h2 := o.2.it x0 x1
      exact ⟨mB _ h1.1 h1.2, mB _ h2.1 h2.2⟩
    intro y y0 y1
    have h0 := rng 0 (by decide) (by omega)
    have := cg (· ∈ (upTo n).filter fun y => decide (y ∈ (upTo n).map φ)) (fun z z0 z1 => ⟨fun h => og.1.closed nB rB (fun w hw => (c1 w hw).1) z0 z1 h, fun h => (c1 z h).1⟩) (fun z z0 z1 => ⟨fun h => og.2.closed nB rB (fun w hw => (c1 w hw).2) z0 z1 h, fun h => (c1 z h).2⟩) (φ 0) y h0.1 h0.2 y0 y1 (mB 0 (by decide) (by omega))
    exact of_decide_eq_true (List.mem_filter.mp this).2
  refine ⟨rng, fun x y x0 x1 y0 y1 e => ?_, r, u⟩
  have om : Ord n ((upTo n).map φ) := ⟨by rw [List.length_map, len_upTo], fun z hz => by
    obtain ⟨w, hw, rfl⟩ := List.mem_map.mp hz
    have := mem_upTo.mp hw
    exact rng w this.1 this.2, nd⟩
  refine om.inj x0 x1 y0 y1 ?_
  rw [it_map len_upTo x0 x1, it_map len_upTo y0 y1, it_upTo x0 x1, it_upTo y0 y1, e]
/-- the walk's state -/
structure NmI (n : Nat) (F G : Flo) (g : Int) (h : Option Int) (ks : List Int) (φ : Int → Int) (ah : List Int) : Prop where
  nd : ks.Nodup
  rng : ∀ x ∈ ks, 0 ≤ x ∧ x < n
  k0 : (0 : Int) ∈ ks
  p0 : φ 0 = g
  im : ∀ x ∈ ks, 0 ≤ φ x ∧ φ x < n
  sub : ∀ x ∈ ah, x ∈ ks
  cl : ∀ x ∈ ks, x ∈ ah ∨ some x = h ∨ ((it F.1 x ∈ ks ∧ φ (it F.1 x) = it G.1 (φ x)) ∧ it F.2 x ∈ ks ∧ φ (it F.2 x) = it G.2 (φ x))
  is : cf n F 0 = cf n G g → ∀ x ∈ ks, φ x = isoF n F G 0 g x
  ahl : ah.length ≤ ks.length
theorem NmI.start {n : Nat} {F G : Flo} {g : Int} (o : Okf n F) (c : CC n F.1 F.2) (og : Okf n G) (cg : CC n G.1 G.2) (h1 : 1 ≤ n) (g0 : 0 ≤ g) (g1 : g < n) : NmI n F G g none [0] (fun _ => g) [0] := by
  refine ⟨by simp, fun x hx => by simp at hx; subst hx; omega, by simp, rfl, fun x hx => ⟨g0, g1⟩, fun x hx => hx, fun x hx => .inl hx, fun e x hx => ?_, Nat.le_refl _⟩
  simp at hx; subst hx
  exact ((iso_cf o c og cg (by decide) (by omega) g0 g1 e).2).symm
theorem NmI.push {n : Nat} {F G : Flo} {g sq : Int} {ks ah : List Int} {φ : Int → Int} (o : Okf n F) (c : CC n F.1 F.2) (og : Okf n G) (cg : CC n G.1 G.2) (g0 : 0 ≤ g) (g1 : g < n) (w : NmI n F G g (some sq) ks φ ah) (hs : sq ∈ ks) {ra rb : List Int} (hr : (ra = F.1 ∧ rb = G.1) ∨ (ra = F.2 ∧ rb = G.2)) (hn : it ra sq ∉ ks) :
    NmI n F G g (some sq) (ks ++ [it ra sq]) (fun k => if k = it ra sq then it rb (φ sq) else φ k) (ah ++ [it ra sq]) := by
  have old : ∀ x ∈ ks, (if x = it ra sq then it rb (φ sq) else φ x) = φ x := fun x hx => if_neg fun (e : x = it ra sq) => hn (e ▸ hx)
  have new : (if it ra sq = it ra sq then it rb (φ sq) else φ (it ra sq)) = it rb (φ sq) := if_pos rfl
  have up : ∀ y ∈ ks, y ∈ ks ++ [it ra sq] := fun y hy => List.mem_append_left _ hy
  obtain ⟨q0, q1⟩ := w.rng sq hs
  obtain ⟨p0, p1⟩ := w.im sq hs
  have rr : 0 ≤ it ra sq ∧ it ra sq < n := by
    rcases hr with ⟨rfl, rfl⟩ | ⟨rfl, rfl⟩
    · exact o.1.it q0 q1
    · exact o.2.it q0 q1
  have ri : 0 ≤ it rb (φ sq) ∧ it rb (φ sq) < n := by
    rcases hr with ⟨rfl, rfl⟩ | ⟨rfl, rfl⟩
    · exact og.1.it p0 p1
    · exact og.2.it p0 p1
  refine ⟨?_, fun x hx => ?_, up _ w.k0, ?_, fun x hx => ?_, fun x hx => ?_, fun x hx => ?_, fun e x hx => ?_, by simp; exact w.ahl⟩
  · rw [List.nodup_append]
    exact ⟨w.nd, by simp, fun a ha c hc e => hn (by simp at hc; subst hc; exact e ▸ ha)⟩
  · rcases List.mem_append.mp hx with h | h
    · exact w.rng x h
    · simp at h; subst h; exact rr
  · show (if (0 : Int) = it ra sq then _ else _) = g
    rw [old 0 w.k0, w.p0]
  · rcases List.mem_append.mp hx with h | h
    · show 0 ≤ (if x = it ra sq then _ else _) ∧ (if x = it ra sq then _ else _) < (n : Int)
      rw [old x h]; exact w.im x h
    · simp at h; subst h
      show 0 ≤ (if it ra sq = it ra sq then _ else _) ∧ (if it ra sq = it ra sq then _ else _) < (n : Int)
      rw [new]; exact ri
  · rcases List.mem_append.mp hx with h | h
    · exact up x (w.sub x h)
    · exact List.mem_append_right _ h
  · rcases List.mem_append.mp hx with h | h
    · rcases w.cl x h with z | z | ⟨⟨z1, z2⟩, z3, z4⟩
      · exact .inl (List.mem_append_left _ z)
      · exact .inr (.inl z)
      · refine .inr (.inr ⟨⟨up _ z1, ?_⟩, up _ z3, ?_⟩)
        · show (if it F.1 x = it ra sq then _ else _) = it G.1 (if x = it ra sq then _ else _)
          rw [old _ z1, old x h, z2]
        · show (if it F.2 x = it ra sq then _ else _) = it G.2 (if x = it ra sq then _ else _)
          rw [old _ z3, old x h, z4]
    · exact .inl (List.mem_append_right _ h)
  · rcases List.mem_append.mp hx with h | h
    · show (if x = it ra sq then _ else _) = _
      rw [old x h, w.is e x h]
    · simp at h; subst h
      show (if it ra sq = it ra sq then _ else _) = _
      have n1 : (0 : Int) < n := by omega
      have i := (iso_cf o c og cg (by decide) n1 g0 g1 e).1
      rw [new, w.is e sq hs]
      rcases hr with ⟨rfl, rfl⟩ | ⟨rfl, rfl⟩
      · exact (i.r sq q0 q1).symm
      · exact (i.u sq q0 q1).symm
/-- a contradiction: they are not alike so -/
theorem NmI.no {n : Nat} {F G : Flo} {g sq : Int} {h : Option Int} {ks ah : List Int} {φ : Int → Int} (o : Okf n F) (c : CC n F.1 F.2) (og : Okf n G) (cg : CC n G.1 G.2) (g0 : 0 ≤ g) (g1 : g < n) (w : NmI n F G g h ks φ ah) (hs : sq ∈ ks) {ra rb : List Int} (hr : (ra = F.1 ∧ rb = G.1) ∨ (ra = F.2 ∧ rb = G.2)) (hm : it ra sq ∈ ks) (hne : φ (it ra sq) ≠ it rb (φ sq)) : cf n F 0 ≠ cf n G g := fun e => by
  obtain ⟨q0, q1⟩ := w.rng sq hs
  have n1 : (0 : Int) < n := by omega
  have i := (iso_cf o c og cg (by decide) n1 g0 g1 e).1
  rw [w.is e _ hm, w.is e sq hs] at hne
  rcases hr with ⟨rfl, rfl⟩ | ⟨rfl, rfl⟩
  · exact hne (i.r sq q0 q1)
  · exact hne (i.u sq q0 q1)
def isoL (n : Nat) (F G : Flo) (s t : Int) : List Int := (upTo n).map (isoF n F G s t)
/-- all is named: they are alike so -/
theorem NmI.fin {n : Nat} {F G : Flo} {g : Int} {ks : List Int} {φ : Int → Int} (o : Okf n F) (c : CC n F.1 F.2) (og : Okf n G) (cg : CC n G.1 G.2) (h1 : 1 ≤ n) (g0 : 0 ≤ g) (g1 : g < n) (w : NmI n F G g none ks φ []) : (∀ x : Int, 0 ≤ x → x < n → x ∈ ks) ∧ cf n F 0 = cf n G g ∧ (upTo n).map φ = isoL n F G 0 g := by
  have cl : ∀ x ∈ ks, (it F.1 x ∈ ks ∧ φ (it F.1 x) = it G.1 (φ x)) ∧ it F.2 x ∈ ks ∧ φ (it F.2 x) = it G.2 (φ x) := fun x hx => by
    rcases w.cl x hx with z | z | z
    · cases z
    · cases z
    · exact z
  have all : ∀ x : Int, 0 ≤ x → x < n → x ∈ ks := fun x x0 x1 => c (· ∈ ks) (fun z z0 z1 => ⟨fun h => o.1.closed w.nd w.rng (fun y hy => (cl y hy).1.1) z0 z1 h, fun h => (cl z h).1.1⟩) (fun z z0 z1 => ⟨fun h => o.2.closed w.nd w.rng (fun y hy => (cl y hy).2.1) z0 z1 h, fun h => (cl z h).2.1⟩) 0 x (by decide) (by omega) x0 x1 w.k0
  have i : Iso n F G φ := iso_of o og cg h1 (fun x x0 x1 => w.im x (all x x0 x1)) (fun x x0 x1 => (cl x (all x x0 x1)).1.2) fun x x0 x1 => (cl x (all x x0 x1)).2.2
  have e : cf n F 0 = cf n G g := by
    have := cf_iso o c i (s := 0) (by decide) (by omega)
    rw [w.p0] at this
    exact this.symm
  refine ⟨all, e, List.map_congr_left fun x hx => ?_⟩
  obtain ⟨x0, x1⟩ := mem_upTo.mp hx
  exact w.is e x (all x x0 x1)
end D8

namespace K03
open PySem PySem.Spec PyProof.Rows L2 D8
def zpD (xs ys : List PyData) : List PyData := List.zipWith (fun d e => .tuple [d, e]) xs ys
theorem next_zp {env : EnvM} {k : Nat} {ops : List Op} {ks : List Nat} {m1 m2 : M} {xs ys : List PyData} (hp : peek env ops = some [m1, m2]) (hk : ks = [kdM m1, kdM m2]) (h1 : D8.items? m1 = some xs) (h2 : D8.items? m2 = some ys) : nextK .zp ops ks k env = nth (zpD xs ys).length k (zpD xs ys)[k]? := by
  subst hk
  simp only [nextK, hp, Option.bind_some, List.map_cons, List.map_nil, if_true, nextI, h1, h2, zpD, List.length_zipWith, List.getElem?_zipWith]
  congr 1
  cases xs[k]? <;> cases ys[k]? <;> rfl
theorem kF_fidx {ks : List Int} {φ : Int → Int} {g : Int} (h : g ∈ ks) : idxF (.im (.dict (fzk (kF ks φ)))) (.im (.int g)) = some (mint (φ g)) := by
  have : ∀ ks : List Int, g ∈ ks → fkGet (fzk (kF ks φ)) (.inl g) = some (.int (φ g)) := fun ks => by
    induction ks with
    | nil => intro h; cases h
    | cons k ks ih =>
      intro h
      by_cases e : k = g
      · subst e; simp [fkGet, kF, fzk, kD, D8.keyOf, M.fz]
      · have e2 : ¬ ((.inl k : Key) = .inl g) := fun z => e (Sum.inl.inj z)
        have := ih ((List.mem_cons.mp h).resolve_left fun z => e z.symm)
        simp only [fkGet, kF, List.map_cons, fzk] at this ⊢
        rw [List.find?_cons_of_neg (by simp [kD, D8.keyOf, e])]
        exact this
  show (fkGet (fzk (kF ks φ)) (.inl g)).map M.im = _
  rw [this ks h]; rfl
def Cp (ks : List Int) (φ : Int → Int) (sq : Int) (ra rb : List Int) : Prop := it ra sq ∈ ks ∧ φ (it ra sq) = it rb (φ sq)
theorem Cp.push {ks : List Int} {φ : Int → Int} {sq e v : Int} {ra rb : List Int} (h : Cp ks φ sq ra rb) (hs : sq ∈ ks) (hn : e ∉ ks) : Cp (ks ++ [e]) (fun k => if k = e then v else φ k) sq ra rb := by
  refine ⟨List.mem_append_left _ h.1, ?_⟩
  show (if it ra sq = e then v else φ (it ra sq)) = it rb (if sq = e then v else φ sq)
  rw [if_neg fun (z : it ra sq = e) => hn (z ▸ h.1), if_neg fun (z : sq = e) => hn (z ▸ hs), h.2]
theorem Cp.new {ks : List Int} {φ : Int → Int} {sq : Int} {ra rb : List Int} (hs : sq ∈ ks) (hn : it ra sq ∉ ks) : Cp (ks ++ [it ra sq]) (fun k => if k = it ra sq then it rb (φ sq) else φ k) sq ra rb := by
  refine ⟨by simp, ?_⟩
  show (if it ra sq = it ra sq then _ else _) = it rb (if sq = it ra sq then _ else φ sq)
  rw [if_pos rfl, if_neg fun (z : sq = it ra sq) => hn (z ▸ hs)]
theorem ah_pop {n : Nat} {F G : Flo} {g h : Int} {ks ah : List Int} {φ : Int → Int} (w : NmI n F G g none ks φ ah) (hh : ah.getLast? = some h) : NmI n F G g (some h) ks φ ah.dropLast := by
  have e : ah ≠ [] := fun z => by rw [z] at hh; cases hh
  refine ⟨w.nd, w.rng, w.k0, w.p0, w.im, fun x hx => w.sub x (List.dropLast_subset _ hx), fun x hx => ?_, w.is, by rw [List.length_dropLast]; have := w.ahl; omega⟩
  rcases w.cl x hx with z | z | z
  · have hlast : ah.getLast e = h := by
      have := List.getLast?_eq_getLast e
      rw [hh] at this
      exact (Option.some.inj this).symm
    have e2 := List.dropLast_concat_getLast e
    rw [hlast] at e2
    rw [← e2] at z
    rcases List.mem_append.mp z with q | q
    · exact .inl q
    · simp at q; exact .inr (.inl (by rw [q]))
  · cases z
  · exact .inr (.inr z)
theorem ah_done {n : Nat} {F G : Flo} {g sq : Int} {ks ah : List Int} {φ : Int → Int} (w : NmI n F G g (some sq) ks φ ah) (c1 : Cp ks φ sq F.1 G.1) (c2 : Cp ks φ sq F.2 G.2) : NmI n F G g none ks φ ah :=
  ⟨w.nd, w.rng, w.k0, w.p0, w.im, w.sub, fun x hx => by
    rcases w.cl x hx with z | z | z
    · exact .inl z
    · cases z; exact .inr (.inr ⟨c1, c2⟩)
    · exact .inr (.inr z), w.is, w.ahl⟩
theorem naming_ev (n : Nat) {N : Nat} {F G : Flo} (o : Okf N F) (c : CC N F.1 F.2) (og : Okf N G) (cg : CC N G.1 G.2) (h1 : 1 ≤ N) (hN : N ≤ 1000) {g : Int} (g0 : 0 ≤ g) (g1 : g < N) :
    Ev (gamT T (n + 1) 3 [.im (floD F), .im (floD G), mint g]) fun q => q = (.im (if cf N F 0 = cf N G g then .tuple (iD (isoL N F G 0 g)) else .none), [none, none, none]) := by
  refine ev_gam (d := d3) rfl rfl ?_
  show Ev (execSs (gamT T n) [] B3 [some (.im (floD F)), some (.im (floD G)), some (mint g), none, none, none, none, none, none, none, none]) _
  rw [B3]
  simp
  rw [show [((Sum.inl 0 : Key), M.im (PyData.int g))] = kF [0] (fun _ => g) from rfl, show M.ml [M.im (PyData.int 0)] = .ml (iM [0]) from rfl]
  refine WhK.of (whLp_ev (I := fun m env => ∃ ks φ ah, ∃ x5 x6 x7 x8 x9, env = [some (.im (floD F)), some (.im (floD G)), some (mint g), some (.md (kF ks φ)), some (.ml (iM ah)), x5, x6, x7, x8, x9, none] ∧ NmI N F G g none ks φ ah ∧ 2 * (N - ks.length) + ah.length ≤ m)
    (J := fun env => ∃ ks φ, ∃ x4 x5 x6 x7 x8 x9, env = [some (.im (floD F)), some (.im (floD G)), some (mint g), some (.md (kF ks φ)), x4, x5, x6, x7, x8, x9, none] ∧ NmI N F G g none ks φ []) (R := fun m env => m = .im .none ∧ cf N F 0 ≠ cf N G g ∧ ∃ x3 x4 x5 x6 x7 x8 x9, env = [some (.im (floD F)), some (.im (floD G)), some (mint g), x3, x4, x5, x6, x7, x8, x9, none]) ?_ (2 * N) _
    ⟨[0], fun _ => g, [0], none, none, none, none, none, rfl, NmI.start o c og cg h1 g0 g1, by simp; omega⟩) ?_
  · rintro m env ⟨ks, φ, ah, x5, x6, x7, x8, x9, rfl, w, hm⟩
    simp [eqF_iMnil]
    by_cases e : ah = []
    · subst e
      exact .inl ⟨rfl, ks, φ, rfl, w⟩
    · refine .inr ⟨e, ?_⟩
      obtain ⟨sq, hh⟩ : ∃ h, ah.getLast? = some h := ⟨ah.getLast e, List.getLast?_eq_getLast e⟩
      have hsq := w.sub sq (List.mem_of_getLast? hh)
      obtain ⟨q0, q1⟩ := w.rng sq hsq
      have w0 := ah_pop w hh
      have hlen : 0 < ah.length := List.length_pos_iff.mpr e
      rw [hh]
      simp
      refine ForK.of (forLp_ev [.tuple [.tuple (iD F.1), .tuple (iD G.1)], .tuple [.tuple (iD F.2), .tuple (iD G.2)]] (fun j env => ∃ ks φ ah, ∃ x6 x7 x8 x9, env = [some (.im (floD F)), some (.im (floD G)), some (mint g), some (.md (kF ks φ)), some (.ml (iM ah)), some (mint sq), x6, x7, x8, x9, none] ∧ NmI N F G g (some sq) ks φ ah ∧ sq ∈ ks ∧ (1 ≤ j → Cp ks φ sq F.1 G.1) ∧ (2 ≤ j → Cp ks φ sq F.2 G.2) ∧ 2 * (N - ks.length) + ah.length + 1 ≤ m)
        (fun m env => m = .im .none ∧ cf N F 0 ≠ cf N G g ∧ ∃ x3 x4 x5 x6 x7 x8 x9, env = [some (.im (floD F)), some (.im (floD G)), some (mint g), x3, x4, x5, x6, x7, x8, x9, none])
        ⟨ks, φ, _, _, _, _, _, rfl, w0, hsq, fun z => absurd z (by omega), fun z => absurd z (by omega), by rw [List.length_dropLast]; omega⟩ (fun j env hI => ?_) ?_) ?_
      · obtain ⟨ks, φ, ah, x6, x7, x8, x9, rfl, _⟩ := hI
        exact next_zp (m1 := .im (floD F)) (m2 := .im (floD G)) rfl rfl rfl rfl
      · rintro j d env hj ⟨ks, φ, ah, x6, x7, x8, x9, rfl, w, hs, c1, c2, hm⟩
        obtain ⟨ra, rb, rfl, hj2⟩ : ∃ ra rb, d = .tuple [.tuple (iD ra), .tuple (iD rb)] ∧ ((j = 0 ∧ ra = F.1 ∧ rb = G.1) ∨ (j = 1 ∧ ra = F.2 ∧ rb = G.2)) := by
          match j, hj with
          | 0, hj => cases hj; exact ⟨_, _, rfl, .inl ⟨rfl, rfl, rfl⟩⟩
          | 1, hj => cases hj; exact ⟨_, _, rfl, .inr ⟨rfl, rfl, rfl⟩⟩
          | j + 2, hj => simp at hj
        have hr : (ra = F.1 ∧ rb = G.1) ∨ (ra = F.2 ∧ rb = G.2) := hj2.imp (·.2) (·.2)
        have la : ra.length = N := by
          rcases hr with ⟨rfl, _⟩ | ⟨rfl, _⟩
          · exact o.1.len
          · exact o.2.len
        have lb : rb.length = N := by
          rcases hr with ⟨_, rfl⟩ | ⟨_, rfl⟩
          · exact og.1.len
          · exact og.2.len
        obtain ⟨p0, p1⟩ := w.im sq hs
        have e1 := atD (r := ra) q0 (by omega)
        have e2 := atD (r := rb) p0 (by omega)
        simp [e1, kF_idx hs, e2, kF_has, -mtF_setD]
        refine ⟨fun hin => ?_, fun hnin => ?_⟩
        · simp [kF_fidx hin]
          refine ⟨fun he => ⟨ks, φ, ah, ⟨rfl, rfl⟩, w, hs, ?_, ?_, hm⟩, fun hne => w.no o c og cg g0 g1 hs hr hin hne⟩
          · rcases hj2 with ⟨rfl, rfl, rfl⟩ | ⟨rfl, rfl, rfl⟩
            · exact ⟨hin, he⟩
            · exact c1 (by omega)
          · intro h
            rcases hj2 with ⟨rfl, rfl, rfl⟩ | ⟨rfl, rfl, rfl⟩
            · omega
            · exact ⟨hin, he⟩
        · have hl := nd_len w.nd w.rng
          have hal := w.ahl
          have wp := w.push o c og cg g0 g1 hs hr hnin
          have hlp := nd_len wp.nd wp.rng
          rw [List.length_append, List.length_singleton] at hlp
          simp [-mtF_setD, kF_set hnin (by omega)]
          refine ⟨by omega, ks ++ [it ra sq], _, ah ++ [it ra sq], ⟨rfl, rfl⟩, wp, List.mem_append_left _ hs, ?_, ?_, by simp; omega⟩
          · rcases hj2 with ⟨rfl, rfl, rfl⟩ | ⟨rfl, rfl, rfl⟩
            · exact Cp.new hs hnin
            · exact (c1 (by omega)).push hs hnin
          · intro h
            rcases hj2 with ⟨rfl, rfl, rfl⟩ | ⟨rfl, rfl, rfl⟩
            · omega
            · exact Cp.new hs hnin
      · rintro ⟨fl, env⟩ h2
        cases fl with
        | nx =>
          obtain ⟨ks, φ, ah, x6, x7, x8, x9, rfl, w, hs, c1, c2, hm⟩ := h2
          have wd := ah_done w (c1 (by simp)) (c2 (by simp))
          simp
          exact ⟨m - 1, by omega, ks, φ, ah, ⟨rfl, rfl⟩, wd, by omega⟩
        | rt m =>
          obtain ⟨rfl, hne, x3, x4, x5, x6, x7, x8, x9, rfl⟩ := h2
          simp
          exact hne
        | _ => exact h2.elim
  · rintro ⟨fl, env⟩ h2
    cases fl with
    | nx =>
      obtain ⟨ks, φ, x4, x5, x6, x7, x8, x9, rfl, w⟩ := h2
      obtain ⟨all, he, hL⟩ := w.fin o c og cg h1 g0 g1
      have lr := o.1.len
      rw [if_pos he]
      simp [floD, lr]
      refine lcm_ints (D8.upTo N) (fun x => mint (φ x)) (by rw [D8.len_upTo]; omega) (fun k => next_rgN rfl (by omega)) (fun x hx => ?_) ?_
      · obtain ⟨x0, x1⟩ := D8.mem_upTo.mp hx
        simp [kF_idx (all x x0 x1)]
      · rw [show (D8.upTo N).map (fun x => mint (φ x)) = iM (isoL N F G 0 g) by rw [← hL]; simp [iM]]
        simp [ims_iM]
    | rt m =>
      obtain ⟨rfl, hne, x3, x4, x5, x6, x7, x8, x9, rfl⟩ := h2
      rw [if_neg hne]
      rfl
    | _ => exact h2.elim

end K03

namespace K03
open PySem PySem.Spec PyProof.Rows L2 D8
theorem kF_getF {ks : List Int} {φ : Int → Int} {g v : Int} : getF (.md (kF ks φ)) (.im (.int g)) (.im (.int v)) = some (mint (if g ∈ ks then φ g else v)) := by
  by_cases h : g ∈ ks
  · rw [if_pos h]
    simp only [getF, D8.keyOf, Option.bind_some, kF_get h]
  · rw [if_neg h]
    simp only [getF, D8.keyOf, Option.bind_some, kF_no h]
theorem kF_fin {ks : List Int} {φ : Int → Int} {g : Int} : inF (.im (.int g)) (.im (.dict (fzk (kF ks φ)))) = some (decide (g ∈ ks)) := by
  have : fkHas (fzk (kF ks φ)) (.inl g) = decide (g ∈ ks) := by
    induction ks with
    | nil => rfl
    | cons k ks ih =>
      simp only [fkHas, kF, List.map_cons, fzk, List.any_cons] at ih ⊢
      rw [ih]
      by_cases e : k = g
      · subst e; simp [kD, D8.keyOf]
      · have e2 : ¬ g = k := fun z => e z.symm
        simp [kD, D8.keyOf, e, e2]
  show some (fkHas (fzk (kF ks φ)) (.inl g)) = _
  rw [this]
theorem sort_iT {cs : List Int} : sortF (.im (.tuple (iD cs))) = some (mList (iD (srt cs))) := by
  rw [← iD_sort, ← sort_iM]
  show (some (iD cs)).bind _ = (ims (iM cs)).bind _
  rw [ims_iM]
theorem rg0 {N : Nat} : rgI 0 (N : Int) = D8.upTo N := by simp [rgI, D8.upTo]
theorem upTo_pw {N : Nat} : (D8.upTo N).Pairwise (· ≤ ·) := by
  unfold D8.upTo
  rw [List.pairwise_map]
  exact (List.pairwise_lt_range (n := N)).imp fun h => by omega
theorem led_ev (n : Nat) {N : Nat} {F G : Flo} (o : Okf N F) (c : CC N F.1 F.2) (og : Okf N G) (cg : CC N G.1 G.2) (h1 : 1 ≤ N) (hN : N ≤ 1000) {g : Int} (g0 : 0 ≤ g) (g1 : g < N) :
    Ev (gamT T (n + 1) 18 [.im (floD F), .im (floD G), mint g]) fun q => q = (.im (if cf N F 0 = cf N G g then .tuple (iD (isoL N F G 0 g)) else .none), [none, none, none]) := by
  refine ev_gam (d := d18) rfl rfl ?_
  show Ev (execSs (gamT T n) [] B18 [some (.im (floD F)), some (.im (floD G)), some (mint g), none, none, none, none, none, none, none, none]) _
  rw [B18]
  simp
  rw [show [((Sum.inl 0 : Key), M.im (PyData.int g))] = kF [0] (fun _ => g) from rfl, show M.ml [M.im (PyData.int 0)] = .ml (iM [0]) from rfl]
  refine WhK.of (whLp_ev (I := fun m env => ∃ ks φ ah, ∃ x5 x6 x7 x8 x9, env = [some (.im (floD F)), some (.im (floD G)), some (mint g), some (.md (kF ks φ)), some (.ml (iM ah)), x5, x6, x7, x8, x9, none] ∧ NmI N F G g none ks φ ah ∧ 2 * (N - ks.length) + ah.length ≤ m)
    (J := fun env => ∃ ks φ, ∃ x4 x5 x6 x7 x8 x9, env = [some (.im (floD F)), some (.im (floD G)), some (mint g), some (.md (kF ks φ)), x4, x5, x6, x7, x8, x9, none] ∧ NmI N F G g none ks φ []) (R := fun m env => m = .im .none ∧ cf N F 0 ≠ cf N G g ∧ ∃ x3 x4 x5 x6 x7 x8 x9, env = [some (.im (floD F)), some (.im (floD G)), some (mint g), x3, x4, x5, x6, x7, x8, x9, none]) ?_ (2 * N) _
    ⟨[0], fun _ => g, [0], none, none, none, none, none, rfl, NmI.start o c og cg h1 g0 g1, by simp; omega⟩) ?_
  · rintro m env ⟨ks, φ, ah, x5, x6, x7, x8, x9, rfl, w, hm⟩
    simp [eqF_iMnil]
    by_cases e : ah = []
    · subst e
      exact .inl ⟨rfl, ks, φ, rfl, w⟩
    · refine .inr ⟨e, ?_⟩
      obtain ⟨sq, hh⟩ : ∃ h, ah.getLast? = some h := ⟨ah.getLast e, List.getLast?_eq_getLast e⟩
      have hsq := w.sub sq (List.mem_of_getLast? hh)
      obtain ⟨q0, q1⟩ := w.rng sq hsq
      have w0 := ah_pop w hh
      have hlen : 0 < ah.length := List.length_pos_iff.mpr e
      rw [hh]
      simp
      refine ForK.of (forLp_ev [.tuple [.tuple (iD F.1), .tuple (iD G.1)], .tuple [.tuple (iD F.2), .tuple (iD G.2)]] (fun j env => ∃ ks φ ah, ∃ x6 x7 x8 x9, env = [some (.im (floD F)), some (.im (floD G)), some (mint g), some (.md (kF ks φ)), some (.ml (iM ah)), some (mint sq), x6, x7, x8, x9, none] ∧ NmI N F G g (some sq) ks φ ah ∧ sq ∈ ks ∧ (1 ≤ j → Cp ks φ sq F.1 G.1) ∧ (2 ≤ j → Cp ks φ sq F.2 G.2) ∧ 2 * (N - ks.length) + ah.length + 1 ≤ m)
        (fun m env => m = .im .none ∧ cf N F 0 ≠ cf N G g ∧ ∃ x3 x4 x5 x6 x7 x8 x9, env = [some (.im (floD F)), some (.im (floD G)), some (mint g), x3, x4, x5, x6, x7, x8, x9, none])
        ⟨ks, φ, _, _, _, _, _, rfl, w0, hsq, fun z => absurd z (by omega), fun z => absurd z (by omega), by rw [List.length_dropLast]; omega⟩ (fun j env hI => ?_) ?_) ?_
      · obtain ⟨ks, φ, ah, x6, x7, x8, x9, rfl, _⟩ := hI
        exact next_zp (m1 := .im (floD F)) (m2 := .im (floD G)) rfl rfl rfl rfl
      · rintro j d env hj ⟨ks, φ, ah, x6, x7, x8, x9, rfl, w, hs, c1, c2, hm⟩
        obtain ⟨ra, rb, rfl, hj2⟩ : ∃ ra rb, d = .tuple [.tuple (iD ra), .tuple (iD rb)] ∧ ((j = 0 ∧ ra = F.1 ∧ rb = G.1) ∨ (j = 1 ∧ ra = F.2 ∧ rb = G.2)) := by
          match j, hj with
          | 0, hj => cases hj; exact ⟨_, _, rfl, .inl ⟨rfl, rfl, rfl⟩⟩
          | 1, hj => cases hj; exact ⟨_, _, rfl, .inr ⟨rfl, rfl, rfl⟩⟩
          | j + 2, hj => simp at hj
        have hr : (ra = F.1 ∧ rb = G.1) ∨ (ra = F.2 ∧ rb = G.2) := hj2.imp (·.2) (·.2)
        have la : ra.length = N := by
          rcases hr with ⟨rfl, _⟩ | ⟨rfl, _⟩
          · exact o.1.len
          · exact o.2.len
        have lb : rb.length = N := by
          rcases hr with ⟨_, rfl⟩ | ⟨_, rfl⟩
          · exact og.1.len
          · exact og.2.len
        obtain ⟨p0, p1⟩ := w.im sq hs
        have e1 := atD (r := ra) q0 (by omega)
        have e2 := atD (r := rb) p0 (by omega)
        simp [e1, kF_idx hs, e2, kF_has, -mtF_setD, kF_getF]
        refine ⟨rfl, ?_⟩
        by_cases hin : it ra sq ∈ ks
        · by_cases he : φ (it ra sq) = it rb (φ sq)
          · simp [hin, he, e1, kF_has, kF_fin, -mtF_setD]
            refine ⟨ks, φ, ah, ⟨rfl, rfl⟩, w, hs, ?_, ?_, hm⟩
            · rcases hj2 with ⟨rfl, rfl, rfl⟩ | ⟨rfl, rfl, rfl⟩
              · exact ⟨hin, he⟩
              · exact c1 (by omega)
            · intro h
              rcases hj2 with ⟨rfl, rfl, rfl⟩ | ⟨rfl, rfl, rfl⟩
              · omega
              · exact ⟨hin, he⟩
          · simp [hin, he]
            exact w.no o c og cg g0 g1 hs hr hin he
        · have hnin := hin
          have hl := nd_len w.nd w.rng
          have hal := w.ahl
          have wp := w.push o c og cg g0 g1 hs hr hnin
          have hlp := nd_len wp.nd wp.rng
          rw [List.length_append, List.length_singleton] at hlp
          simp [hin, e1, kF_has, kF_fin, -mtF_setD, kF_set hnin (by omega)]
          refine ⟨by omega, ks ++ [it ra sq], _, ah ++ [it ra sq], ⟨rfl, rfl⟩, wp, List.mem_append_left _ hs, ?_, ?_, by simp; omega⟩
          · rcases hj2 with ⟨rfl, rfl, rfl⟩ | ⟨rfl, rfl, rfl⟩
            · exact Cp.new hs hnin
            · exact (c1 (by omega)).push hs hnin
          · intro h
            rcases hj2 with ⟨rfl, rfl, rfl⟩ | ⟨rfl, rfl, rfl⟩
            · omega
            · exact Cp.new hs hnin
      · rintro ⟨fl, env⟩ h2
        cases fl with
        | nx =>
          obtain ⟨ks, φ, ah, x6, x7, x8, x9, rfl, w, hs, c1, c2, hm⟩ := h2
          have wd := ah_done w (c1 (by simp)) (c2 (by simp))
          simp
          exact ⟨m - 1, by omega, ks, φ, ah, ⟨rfl, rfl⟩, wd, by omega⟩
        | rt m =>
          obtain ⟨rfl, hne, x3, x4, x5, x6, x7, x8, x9, rfl⟩ := h2
          simp
          exact hne
        | _ => exact h2.elim
  · rintro ⟨fl, env⟩ h2
    cases fl with
    | nx =>
      obtain ⟨ks, φ, x4, x5, x6, x7, x8, x9, rfl, w⟩ := h2
      obtain ⟨all, he, hL⟩ := w.fin o c og cg h1 g0 g1
      have lr := o.1.len
      rw [if_pos he]
      simp [floD, lr]
      refine lcm_ints (D8.upTo N) (fun x => mint (φ x)) (by rw [D8.len_upTo]; omega) (fun k => next_rgN rfl (by omega)) (fun x hx => ?_) ?_
      · obtain ⟨x0, x1⟩ := D8.mem_upTo.mp hx
        simp [kF_idx (all x x0 x1)]
      · rw [show (D8.upTo N).map (fun x => mint (φ x)) = iM (isoL N F G 0 g) by rw [← hL]; simp [iM]]
        have hI : D8.Ord N (isoL N F G 0 g) := by
          have := (iso_cf o c og cg (by decide) (by omega) g0 g1 he).1.map_ord (ord_upTo (n := N))
          exact this
        have hrg0 : rgF 0 N = some (iD (D8.upTo N)) := by rw [← rg0]; exact rgF_of (by omega) (by omega) (by omega) (by omega)
        have hsrt : srt (isoL N F G 0 g) = D8.upTo N := srt_only (srt_pw _) upTo_pw ((srt_perm _).trans ((List.perm_ext_iff_of_nodup hI.nd D8.nd_upTo).mpr fun y => ⟨fun h => D8.mem_upTo.mpr (hI.rng y h), fun h => hI.mem (D8.mem_upTo.mp h).1 (D8.mem_upTo.mp h).2⟩))
        simp [ims_iM, sort_iT, hsrt, lr, hrg0, eqF_iM]
    | rt m =>
      obtain ⟨rfl, hne, x3, x4, x5, x6, x7, x8, x9, rfl⟩ := h2
      rw [if_neg hne]
      rfl
    | _ => exact h2.elim

end K03

namespace K03
open PySem PySem.Spec PyProof.Rows L2 D8
def gls (N : Nat) (F G : Flo) : List Int := (D8.upTo N).filter fun g => decide (cf N F 0 = cf N G g)
def kn0 (N : Nat) (F G : Flo) : List PyData := (gls N F G).map fun g => .tuple (iD (isoL N F G 0 g))
def kn (N : Nat) (F G : Flo) : List PyData := (kn0 N F G).mergeSort (PySem.W.dataLe false id)
theorem kn_perm {N : Nat} {F G : Flo} : (kn N F G).Perm (kn0 N F G) := List.mergeSort_perm _ _
theorem isoL_len {N : Nat} {F G : Flo} {s t : Int} : (isoL N F G s t).length = N := by simp [isoL, D8.len_upTo]
theorem kn_sort {N : Nat} {F G : Flo} (h1 : 1 ≤ N) : sortF (.ml ((kn0 N F G).map .im)) = some (mList (kn N F G)) := by
  show (ims ((kn0 N F G).map .im)).bind _ = _
  rw [ims_map, Option.bind_some, if_pos]
  · rfl
  have hm : ∀ d ∈ kn0 N F G, ∃ L : List Int, d = .tuple (iD L) ∧ L.length = N := fun d hd => by
    obtain ⟨g, _, rfl⟩ := List.mem_map.mp hd
    exact ⟨_, rfl, isoL_len⟩
  refine ⟨?_, ?_, ?_⟩
  · simp only [List.all_eq_true]
    intro a ha b hb
    obtain ⟨L, rfl, _⟩ := hm a ha
    obtain ⟨M, rfl, _⟩ := hm b hb
    exact PySem.W.DatumOrd.alike (⟨L⟩ : PySem.W.Tup Int) ⟨M⟩
  · unfold sortableB
    rw [Bool.or_eq_true]
    left
    simp only [List.all_eq_true]
    intro a ha
    obtain ⟨L, rfl, hl⟩ := hm a ha
    cases L with
    | nil => simp at hl; omega
    | cons x xs => rfl
  · simp only [List.all_eq_true, decide_eq_true_eq]
    intro a ha
    obtain ⟨L, rfl, _⟩ := hm a ha
    simp [PyData.depth, depth_iD]
def fls (N : Nat) (F G : Flo) : List PyData := (D8.upTo N).map fun g => if cf N F 0 = cf N G g then .tuple (iD (isoL N F G 0 g)) else .none
def isSm : PyData → Bool
  | .none => false
  | _ => true
theorem fls_ims {N : Nat} {F G : Flo} : some (fls N F G) = ims ((D8.upTo N).map fun g => M.im (if cf N F 0 = cf N G g then .tuple (iD (isoL N F G 0 g)) else .none)) := by
  rw [← ims_map (fls N F G), fls, List.map_map]
  rfl
theorem fls_kn {N : Nat} {F G : Flo} : (fls N F G).filter isSm = kn0 N F G := by
  rw [fls, List.filter_map, kn0, gls]
  have : ((D8.upTo N).filter (isSm ∘ fun g => if cf N F 0 = cf N G g then .tuple (iD (isoL N F G 0 g)) else .none)) = (D8.upTo N).filter fun g => decide (cf N F 0 = cf N G g) := List.filter_congr fun g _ => by
    by_cases e : cf N F 0 = cf N G g
    · simp [e, isSm]
    · simp [e, isSm]
  rw [this]
  refine List.map_congr_left fun g hg => ?_
  rw [if_pos (of_decide_eq_true (List.mem_filter.mp hg).2)]
theorem lnames_ev (n : Nat) {N : Nat} {F G : Flo} (o : Okf N F) (c : CC N F.1 F.2) (og : Okf N G) (cg : CC N G.1 G.2) (h1 : 1 ≤ N) (hN : N ≤ 1000) :
    Ev (gamT T (n + 2) 19 [.im (floD F), .im (floD G)]) fun q => q = (.im (.tuple (kn N F G)), [none, none]) := by
  refine ev_gam (d := d19) rfl rfl ?_
  show Ev (execSs (gamT T (n + 1)) [] B19 [some (.im (floD F)), some (.im (floD G)), none, none, none, none]) _
  rw [B19]
  have lr := o.1.len
  have lg := og.1.len
  simp [floD, lr, lg]
  rw [show PyData.tuple [.tuple (iD F.1), .tuple (iD F.2)] = floD F from rfl, show PyData.tuple [.tuple (iD G.1), .tuple (iD G.2)] = floD G from rfl]
  refine lcm_ints (D8.upTo N) (fun g => .im (if cf N F 0 = cf N G g then .tuple (iD (isoL N F G 0 g)) else .none)) (by rw [D8.len_upTo]; omega) (fun k => next_rgN rfl (by omega)) (fun g hg => ?_) ?_
  · obtain ⟨g0, g1⟩ := D8.mem_upTo.mp hg
    simp
    refine CallK.of (led_ev n o c og cg h1 hN g0 g1) ?_
    rintro _ rfl
    simp
  · simp
    refine lcf (fls N F G) isSm .im (by rw [fls, List.length_map, D8.len_upTo]; omega) (fun k => next_sl rfl rfl (by rw [fls_ims]; rfl)) (fun d hd => ?_) ?_
    · have hd2 : (∃ L, d = .tuple L) ∨ d = .none := by
        obtain ⟨g, _, rfl⟩ := List.mem_map.mp hd
        split
        · exact .inl ⟨_, rfl⟩
        · exact .inr rfl
      rcases hd2 with ⟨L, rfl⟩ | rfl
      · simp [isSm, show isN2 (.im (.tuple L)) (.im .none) = some false from rfl]
      · simp [isSm, show isN2 (.im .none) (.im .none) = some true from rfl]
    · rw [fls_kn]
      simp [kn_sort h1]
theorem alike_ev (n : Nat) {N : Nat} {F G : Flo} (o : Okf N F) (c : CC N F.1 F.2) (og : Okf N G) (cg : CC N G.1 G.2) (h1 : 1 ≤ N) (hN : N ≤ 1000) :
    Ev (gamT T (n + 2) 4 [.im (floD F), .im (floD G)]) fun q => q = (.im (.tuple (kn N F G)), [none, none]) := by
  refine ev_gam (d := d4) rfl rfl ?_
  show Ev (execSs (gamT T (n + 1)) [] B4 [some (.im (floD F)), some (.im (floD G)), none, none, none, none]) _
  rw [B4]
  have lr := o.1.len
  have lg := og.1.len
  simp [floD, lr, lg]
  rw [show PyData.tuple [.tuple (iD F.1), .tuple (iD F.2)] = floD F from rfl, show PyData.tuple [.tuple (iD G.1), .tuple (iD G.2)] = floD G from rfl]
  refine lcm_ints (D8.upTo N) (fun g => .im (if cf N F 0 = cf N G g then .tuple (iD (isoL N F G 0 g)) else .none)) (by rw [D8.len_upTo]; omega) (fun k => next_rgN rfl (by omega)) (fun g hg => ?_) ?_
  · obtain ⟨g0, g1⟩ := D8.mem_upTo.mp hg
    simp
    refine CallK.of (naming_ev n o c og cg h1 hN g0 g1) ?_
    rintro _ rfl
    simp
  · simp
    refine lcf (fls N F G) isSm .im (by rw [fls, List.length_map, D8.len_upTo]; omega) (fun k => next_sl rfl rfl (by rw [fls_ims]; rfl)) (fun d hd => ?_) ?_
    · have hd2 : (∃ L, d = .tuple L) ∨ d = .none := by
        obtain ⟨g, _, rfl⟩ := List.mem_map.mp hd
        split
        · exact .inl ⟨_, rfl⟩
        · exact .inr rfl
      rcases hd2 with ⟨L, rfl⟩ | rfl
      · simp [isSm, show isN2 (.im (.tuple L)) (.im .none) = some false from rfl]
      · simp [isSm, show isN2 (.im .none) (.im .none) = some true from rfl]
    · rw [fls_kn]
      simp [kn_sort h1]

end K03

namespace K03
open PySem PySem.Spec PyProof.Rows L2 D8
theorem lnames_no (n : Nat) {N N' : Nat} {F G : Flo} (o : Okf N F) (og : Okf N' G) (hne : N ≠ N') :
    Ev (gamT T (n + 2) 19 [.im (floD F), .im (floD G)]) fun q => q = (.im (.tuple []), [none, none]) := by
  refine ev_gam (d := d19) rfl rfl ?_
  show Ev (execSs (gamT T (n + 1)) [] B19 [some (.im (floD F)), some (.im (floD G)), none, none, none, none]) _
  rw [B19]
  have lr := o.1.len
  have lg := og.1.len
  have h2 : ¬ (N : Int) = N' := by omega
  simp [floD, lr, lg, h2, hne]
theorem alike_no (n : Nat) {N N' : Nat} {F G : Flo} (o : Okf N F) (og : Okf N' G) (hne : N ≠ N') :
    Ev (gamT T (n + 2) 4 [.im (floD F), .im (floD G)]) fun q => q = (.im (.tuple []), [none, none]) := by
  refine ev_gam (d := d4) rfl rfl ?_
  show Ev (execSs (gamT T (n + 1)) [] B4 [some (.im (floD F)), some (.im (floD G)), none, none, none, none]) _
  rw [B4]
  have lr := o.1.len
  have lg := og.1.len
  have h2 : ¬ (N : Int) = N' := by omega
  simp [floD, lr, lg, h2, hne]
theorem keeping_ev (n : Nat) {N : Nat} {F : Flo} (o : Okf N F) (c : CC N F.1 F.2) (h1 : 1 ≤ N) (hN : N ≤ 1000) :
    Ev (gamT T (n + 3) 6 [.im (floD F)]) fun q => q = (.im (.tuple (kn N F F)), [none]) := by
  refine ev_gam (d := d6) rfl rfl ?_
  show Ev (execSs (gamT T (n + 2)) [] B6 [some (.im (floD F))]) _
  rw [B6]
  simp
  refine CallK.of (alike_ev n o c o c h1 hN) ?_
  rintro _ rfl
  simp
theorem kn_nice {N : Nat} {F G : Flo} (o : Okf N F) (c : CC N F.1 F.2) (og : Okf N G) (cg : CC N G.1 G.2) (h1 : 1 ≤ N) (hN : N ≤ 13) : Nice 20000 2 (.tuple (kn N F G)) := by
  have hl : (kn N F G).length ≤ 13 := by
    rw [kn_perm.length_eq, kn0, List.length_map]
    have := List.length_filter_le (fun g => decide (cf N F 0 = cf N G g)) (D8.upTo N)
    rw [D8.len_upTo] at this
    exact Nat.le_trans this hN
  have := niceL_each (xs := kn N F G) (l := 1000) (D := 1) fun x hx => by
    have := kn_perm.mem_iff.mp hx
    obtain ⟨g, hg, rfl⟩ := List.mem_map.mp this
    have hg' := List.mem_filter.mp hg
    obtain ⟨g0, g1⟩ := D8.mem_upTo.mp hg'.1
    have i := (iso_cf o c og cg (by decide) (by omega) g0 g1 (of_decide_eq_true hg'.2)).1
    have om : D8.Ord N (isoL N F G 0 g) := i.map_ord ord_upTo
    exact (row_nice om (by omega)).tup.mono (by omega) (Nat.le_refl _)
  exact this.tup.mono (by omega) (by decide)
theorem eqF_tn {L D : Nat} {ds : List PyData} (h : Nice L D (.tuple ds)) (hD : D ≤ 60) : eqF (.im (.tuple ds)) (.im (.tuple [])) = some (decide (ds = [])) := by
  have h1 := h.shaped (by omega)
  have h2 : SeqAt.shaped (.tuple []) = true := by simp [SeqAt.shaped, PyData.canLay0, PyData.canLayAll0, PyData.depth, PyData.depthAll]
  show (if SeqAt.shaped (.tuple ds) = true ∧ SeqAt.shaped (.tuple []) = true then some (PyData.eqv (.tuple ds) (.tuple [])) else none) = _
  rw [if_pos ⟨h1, h2⟩]
  cases ds with
  | nil => simp [PyData.eqv, PyData.eqvAll]
  | cons d ds => simp [PyData.eqv, PyData.eqvAll]
theorem are_ev (n : Nat) {N : Nat} {F G : Flo} (o : Okf N F) (c : CC N F.1 F.2) (og : Okf N G) (cg : CC N G.1 G.2) (h1 : 1 ≤ N) (hN : N ≤ 13) :
    Ev (gamT T (n + 3) 5 [.im (floD F), .im (floD G)]) fun q => q = (mbl (!decide (kn N F G = [])), [none, none]) := by
  refine ev_gam (d := d5) rfl rfl ?_
  show Ev (execSs (gamT T (n + 2)) [] B5 [some (.im (floD F)), some (.im (floD G))]) _
  rw [B5]
  simp
  refine CallK.of (alike_ev n o c og cg h1 (by omega)) ?_
  rintro _ rfl
  simp [eqF_tn (kn_nice o c og cg h1 hN) (by decide)]
theorem are_no (n : Nat) {N N' : Nat} {F G : Flo} (o : Okf N F) (og : Okf N' G) (hne : N ≠ N') :
    Ev (gamT T (n + 3) 5 [.im (floD F), .im (floD G)]) fun q => q = (mbl false, [none, none]) := by
  refine ev_gam (d := d5) rfl rfl ?_
  show Ev (execSs (gamT T (n + 2)) [] B5 [some (.im (floD F)), some (.im (floD G))]) _
  rw [B5]
  simp
  refine CallK.of (alike_no n o og hne) ?_
  rintro _ rfl
  have e : eqF (.im (.tuple [])) (.im (.tuple [])) = some true := eqF_tn (NiceL.nil (L := 0) (D := 0)).tup (by decide)
  simp [e]

end K03

namespace K03
open PySem PySem.Spec PyProof.Rows L2 D8
def lpBody : Ss := match B20 with
  | .cons _ (.cons (.loop _ _ _ b) _) => b
  | _ => .nil
def Sh (script : PyData) (env : EnvM) : Prop := ∃ q v_turn v_floor v_n v_kept v_naming v_due v_square v_least v_own v_keeping v_names v_same v_more v_other v_told v_c0 v_x, PotOk q ∧ env = [some (.im script), some (.ml q), v_turn, v_floor, v_n, v_kept, v_naming, v_due, v_square, v_least, v_own, v_keeping, v_names, v_same, v_more, v_other, v_told, v_c0, v_x]
/-- after the keeping names -/
def Md (script : PyData) (env : EnvM) : Prop := ∃ q, ∃ m : Nat, ∃ F G naming kept, ∃ v_turn v_square v_own v_names v_same v_more v_other v_told v_c0 v_x, PotOk q ∧ Okf m F ∧ CC m F.1 F.2 ∧ 1 ≤ m ∧ m ≤ 12 ∧ D8.Ord m naming ∧ CalF m naming F G ∧ rprF (.im (floD F)) = some (mstr kept) ∧ okT kept ∧ env = [some (.im script), some (.ml q), v_turn, some (.im (floD F)), some (mint m), some (mstr kept), some (.im (.tuple (iD naming))), some (.im (floD G)), v_square, some (.im (floD (leastF m F))), v_own, some (.im (.tuple (kn m F F))), v_names, v_same, v_more, v_other, v_told, v_c0, v_x]
theorem rpr3 {L D : Nat} {a : PyData} (ha : Nice L D a) (hL : L ≤ 300000) (hD : D ≤ 50) : ∃ s : Str, rprF (.ml [.im a, .im a, .im a]) = some (mstr s) ∧ okT s := by
  have hn : NiceL 1100000 D [a, a, a] := (NiceL.cons ha (NiceL.cons ha (NiceL.one ha))).mono (by omega) (Nat.le_refl _)
  obtain ⟨h4, h5⟩ := rpr_list hn (by decide) (by omega)
  exact ⟨_, h4, h5⟩
/-- after the floor -/
def Fd (script : PyData) (env : EnvM) : Prop := ∃ q, ∃ m : Nat, ∃ F, ∃ v_turn v_n v_kept v_naming v_due v_square v_least v_own v_keeping v_names v_same v_more v_other v_told v_c0 v_x, PotOk q ∧ Okf m F ∧ CC m F.1 F.2 ∧ 1 ≤ m ∧ m ≤ 12 ∧ env = [some (.im script), some (.ml q), v_turn, some (.im (floD F)), v_n, v_kept, v_naming, v_due, v_square, v_least, v_own, v_keeping, v_names, v_same, v_more, v_other, v_told, v_c0, v_x]
theorem fl_ev (n : Nat) {q : List M} (hq : PotOk q) (script : PyData) (t : Int) (v_floor v_n v_kept v_naming v_due v_square v_least v_own v_keeping v_names v_same v_more v_other v_told v_c0 v_x : Option M) :
    Ev (execSs (gamT T (n + 6)) [] (takeS 1 lpBody) [some (.im script), some (.ml q), some (mint t), v_floor, v_n, v_kept, v_naming, v_due, v_square, v_least, v_own, v_keeping, v_names, v_same, v_more, v_other, v_told, v_c0, v_x]) fun r => r.1 = .nx ∧ Fd script r.2 := by
  simp only [lpBody, B20, takeS]
  generalize hQ : (fun (r : D8.Fl × EnvM) => r.1 = .nx ∧ Fd script r.2) = Q
  simp
  refine ⟨fun ht => ?_, fun ht => ?_⟩
  · refine CallK.of (one_ev (n + 4) (ds := [.int 3, .int 5, .int 6]) (by simp) (by simp) hq) ?_
    rintro _ ⟨d1, q1, rfl, hq1, hd1⟩
    obtain ⟨most, rfl, hmost⟩ : ∃ m : Int, d1 = .int m ∧ 1 ≤ m ∧ m ≤ 12 := by
      simp only [List.mem_cons, List.not_mem_nil, or_false] at hd1
      rcases hd1 with rfl | rfl | rfl <;> exact ⟨_, rfl, by decide, by decide⟩
    simp
    refine CallK.of (floor_ev (n + 3) hq1 hmost) ?_
    rintro _ ⟨m, a, b, q2, rfl, hq2, m1, m2, hF, cc⟩
    simp
    subst hQ
    exact ⟨rfl, q2, m, (a, b), _, _, _, _, _, _, _, _, _, _, _, _, _, _, _, _, hq2, hF, cc, by omega, by omega, rfl⟩
  · refine CallK.of (one_ev (n + 4) (ds := [.int 4, .int 6, .int 8]) (by simp) (by simp) hq) ?_
    rintro _ ⟨d1, q1, rfl, hq1, hd1⟩
    obtain ⟨most, rfl, hmost⟩ : ∃ m : Int, d1 = .int m ∧ 1 ≤ m ∧ m ≤ 12 := by
      simp only [List.mem_cons, List.not_mem_nil, or_false] at hd1
      rcases hd1 with rfl | rfl | rfl <;> exact ⟨_, rfl, by decide, by decide⟩
    simp
    refine CallK.of (floor_ev (n + 3) hq1 hmost) ?_
    rintro _ ⟨m, a, b, q2, rfl, hq2, m1, m2, hF, cc⟩
    simp
    subst hQ
    exact ⟨rfl, q2, m, (a, b), _, _, _, _, _, _, _, _, _, _, _, _, _, _, _, _, hq2, hF, cc, by omega, by omega, rfl⟩
theorem head_ev (n : Nat) {q : List M} (hq : PotOk q) (script : PyData) {m : Nat} {F : Flo} (hF : Okf m F) (cc : CC m F.1 F.2) (m1 : 1 ≤ m) (m2 : m ≤ 12) (v_turn v_n v_kept v_naming v_due v_square v_least v_own v_keeping v_names v_same v_more v_other v_told v_c0 v_x : Option M) :
    Ev (execSs (gamT T (n + 6)) [] (takeS 10 (dropS 1 lpBody)) [some (.im script), some (.ml q), v_turn, some (.im (floD F)), v_n, v_kept, v_naming, v_due, v_square, v_least, v_own, v_keeping, v_names, v_same, v_more, v_other, v_told, v_c0, v_x]) fun r => r.1 = .nx ∧ Md script r.2 := by
  simp only [lpBody, B20, takeS, dropS]
  generalize hQ : (fun (r : D8.Fl × EnvM) => r.1 = .nx ∧ Md script r.2) = Q
  have nF := flo_nice hF (by omega)
  have lr := hF.1.len
  obtain ⟨kept, hkept, okept⟩ := rpr_one nF (by decide) (by decide)
  have hrg0 : rgF 0 m = some (iD (D8.upTo m)) := by rw [← rg0]; exact rgF_of (by omega) (by omega) (by omega) (by omega)
  have hl : idxF (.im (floD F)) (mint 0) = some (.im (.tuple (iD F.1))) := rfl
  simp [hl, lr, hkept, hrg0]
  refine CallK.of (order_ev (n + 4) hq (by rw [D8.len_upTo]; omega)) ?_
  rintro _ ⟨nm, q1, rfl, hq1, hr⟩
  have on : D8.Ord m nm := ord_perm (by rw [rg0]; exact hr)
  simp
  refine CallK.of (calledF_ev (n + 5) hF on (by omega)) ?_
  rintro _ ⟨G, rfl, hG⟩
  have oG := calF_ok hF on hG
  have cG := CC.called on hF.1 hF.2 hG.1 hG.2 cc
  simp
  refine CallK.of (renamedF_ev (n + 5) hF on (by omega)) ?_
  rintro _ ⟨G', rfl, hG'⟩
  obtain rfl := hG.only on hG'
  simp
  refine CallK.of (renamedF_ev (n + 5) hF on (by omega)) ?_
  rintro _ ⟨G', rfl, hG'⟩
  obtain rfl := hG.only on hG'
  have nG := flo_nice oG (by omega)
  obtain ⟨sG, eG, okG⟩ := rpr2 nG nG (by decide) (by decide)
  simp [eG, eqF_str okG]
  refine CallK.of (of_ev (n + 5) (many := m) (by omega) hq1) ?_
  rintro _ ⟨x, q3, rfl, hq3, hx, _⟩
  obtain ⟨x0, x1⟩ := hx (by omega)
  simp
  refine CallK.of (lleast_ev (n + 3) hF cc m1 (by omega)) ?_
  rintro _ rfl
  simp
  refine CallK.of (lwalked_ev (n + 4) hF cc x0 x1 (by omega)) ?_
  rintro _ rfl
  simp
  refine CallK.of (walked_ev (n + 5) hF cc x0 x1 (by omega)) ?_
  rintro _ rfl
  simp
  refine CallK.of (walked_ev (n + 5) hF cc x0 x1 (by omega)) ?_
  rintro _ rfl
  have ob := (bf_ord hF cc x0 x1).bkL
  have nW := (row_nice ob (by omega)).tup
  obtain ⟨sW, eW, okW⟩ := rpr2 nW nW (by decide) (by decide)
  simp [eW, eqF_str okW]
  have iG : Iso m F G (it nm) := ⟨fun x x0 x1 => on.it x0 x1, fun x y x0 x1 y0 y1 h => on.inj x0 x1 y0 y1 h, fun x x0 x1 => (hG.1.go x x0 x1).symm, fun x x0 x1 => (hG.2.go x x0 x1).symm⟩
  have eL := leastF_iso m1 hF cc iG oG cG
  refine CallK.of (least_ev (n + 4) hF cc m1 (by omega)) ?_
  rintro _ rfl
  simp
  refine CallK.of (least_ev (n + 4) hF cc m1 (by omega)) ?_
  rintro _ rfl
  simp
  refine CallK.of (least_ev (n + 4) oG cG m1 (by omega)) ?_
  rintro _ rfl
  rw [eL]
  have oL : Okf m (leastF m F) := by
    obtain ⟨s, s0, s1, es⟩ := leastF_mem (F := F) m1
    rw [es]
    exact cf_ok hF cc s0 s1
  have nL := flo_nice oL (by omega)
  obtain ⟨sL, eL3, okL⟩ := rpr3 nL (by decide) (by decide)
  simp [eL3, eqF_str okL, rep]
  refine CallK.of (lnames_ev (n + 4) hF cc hF cc m1 (by omega)) ?_
  rintro _ rfl
  simp
  refine CallK.of (keeping_ev (n + 3) hF cc m1 (by omega)) ?_
  rintro _ rfl
  simp
  refine CallK.of (keeping_ev (n + 3) hF cc m1 (by omega)) ?_
  rintro _ rfl
  have nK := kn_nice hF cc hF cc m1 (by omega)
  obtain ⟨sK, eK, okK⟩ := rpr2 nK nK (by decide) (by decide)
  simp [eK, eqF_str okK]
  subst hQ
  exact ⟨rfl, q3, m, F, G, nm, kept, _, _, _, _, _, _, _, _, _, _, hq3, hF, cc, by omega, by omega, on, hG, hkept, okept, rfl⟩

end K03

namespace K03
open PySem PySem.Spec PyProof.Rows L2 D8
theorem fix_all {m : Nat} {F : Flo} (o : Okf m F) (c : CC m F.1 F.2) (m1 : 1 ≤ m) {d : PyData} (hd : d ∈ kn m F F) : ∃ L : List Int, d = .tuple (iD L) ∧ D8.Ord m L ∧ (((D8.upTo m).filter fun x => decide (it L x = x)) = [] ∨ ((D8.upTo m).filter fun x => decide (it L x = x)) = D8.upTo m) := by
  obtain ⟨g, hg, rfl⟩ := List.mem_map.mp (kn_perm.mem_iff.mp hd)
  have hg' := List.mem_filter.mp hg
  obtain ⟨g0, g1⟩ := D8.mem_upTo.mp hg'.1
  have i := (iso_cf o c o c (by decide) (by omega) g0 g1 (of_decide_eq_true hg'.2)).1
  have iL : ∀ x : Int, 0 ≤ x → x < m → it (isoL m F F 0 g) x = isoF m F F 0 g x := fun x x0 x1 => by
    rw [isoL, it_map D8.len_upTo x0 x1, it_upTo x0 x1]
  have id' : Iso m F F (fun x => x) := ⟨fun x x0 x1 => ⟨x0, x1⟩, fun x y _ _ _ _ h => h, fun _ _ _ => rfl, fun _ _ _ => rfl⟩
  refine ⟨_, rfl, i.map_ord ord_upTo, ?_⟩
  by_cases h : ∃ x : Int, (0 ≤ x ∧ x < m) ∧ it (isoL m F F 0 g) x = x
  · obtain ⟨x, ⟨x0, x1⟩, hx⟩ := h
    right
    refine List.filter_eq_self.mpr fun y hy => ?_
    obtain ⟨y0, y1⟩ := D8.mem_upTo.mp hy
    rw [iL x x0 x1] at hx
    rw [iL y y0 y1]
    exact decide_eq_true (i.only c o o id' x0 x1 hx y0 y1)
  · left
    refine List.filter_eq_nil_iff.mpr fun y hy => ?_
    simp only [decide_eq_true_eq]
    exact fun e => h ⟨y, D8.mem_upTo.mp hy, e⟩
theorem inF_2 {gs U : List Int} (h : gs = [] ∨ gs = U) : inF (.ml (iM gs)) (.im (.tuple [.list [], .list (iD U)])) = some true := by
  have e : (M.ml (iM gs)).fz = .list (iD gs) := by simp [M.fz, fzs_map, iM, iD]
  show (if SeqAt.shaped (M.ml (iM gs)).fz = true ∧ SeqAt.shaped (.list [.list [], .list (iD U)]) = true then some ([PyData.list [], .list (iD U)].any fun z => PyData.eqv z (M.ml (iM gs)).fz) else none) = _
  rw [e, if_pos ⟨shaped_iD, by simp [SeqAt.shaped, PyData.canLay0, PyData.canLayAll0, PyData.depth, PyData.depthAll, canLay_iD, depth_iD]⟩]
  rcases h with rfl | rfl
  · simp [PyData.eqv, PyData.eqvAll, iD]
  · simp [PyData.eqv, eqvAll_iD]
theorem eqF_flo {N N' : Nat} {A B : Flo} (a : Okf N A) (b : Okf N' B) (hN : N ≤ 13) (hN' : N' ≤ 13) : eqF (.im (floD A)) (.im (floD B)) = some (decide (A = B)) := by
  have h1 := (flo_nice a hN).shaped (by omega)
  have h2 := (flo_nice b hN').shaped (by omega)
  show (if SeqAt.shaped (floD A) = true ∧ SeqAt.shaped (floD B) = true then some (PyData.eqv (floD A) (floD B)) else none) = _
  rw [if_pos ⟨h1, h2⟩]
  have h3 : PyData.eqv (floD A) (floD B) = decide (toF A = toF B) := PySem.W.Datum.eqv (toF A) (toF B)
  rw [h3]
  congr 1
  rw [Bool.eq_iff_iff]
  simp only [decide_eq_true_eq]
  exact ⟨toF_inj, fun e => by rw [e]⟩
theorem nice_bl {D : Nat} {b : Bool} : Nice 5 D (.bool b) := by cases b <;> exact ⟨rfl, Nat.zero_le _, by decide, rfl⟩
theorem rpr4 {L D : Nat} {a : PyData} {b : Bool} (ha : Nice L D a) (hL : L ≤ 300000) (hD : D ≤ 50) : ∃ s : Str, rprF (.ml [.im a, .im a, .im (.bool b), .im (.bool b)]) = some (mstr s) ∧ okT s := by
  have hn : NiceL 1100000 D [a, a, .bool b, .bool b] := (NiceL.cons ha (NiceL.cons ha (NiceL.cons nice_bl (NiceL.one nice_bl)))).mono (by omega) (Nat.le_refl _)
  obtain ⟨h4, h5⟩ := rpr_list hn (by decide) (by omega)
  exact ⟨_, h4, h5⟩
theorem mid_ev (n : Nat) {q : List M} (hq : PotOk q) (script : PyData) {m : Nat} {F G : Flo} {nm : List Int} {kept : Str} (hF : Okf m F) (cc : CC m F.1 F.2) (m1 : 1 ≤ m) (m2 : m ≤ 12) (on : D8.Ord m nm) (hG : CalF m nm F G) (hkept : rprF (.im (floD F)) = some (mstr kept)) (okept : okT kept) (v_turn v_square v_own v_names v_same v_more v_other v_told v_c0 v_x : Option M) :
    Ev (execSs (gamT T (n + 6)) [] (dropS 10 (dropS 1 lpBody)) [some (.im script), some (.ml q), v_turn, some (.im (floD F)), some (mint m), some (mstr kept), some (.im (.tuple (iD nm))), some (.im (floD G)), v_square, some (.im (floD (leastF m F))), v_own, some (.im (.tuple (kn m F F))), v_names, v_same, v_more, v_other, v_told, v_c0, v_x]) fun r => r.1 = .nx ∧ Sh script r.2 := by
  simp only [lpBody, B20, dropS]
  generalize hQ : (fun (r : D8.Fl × EnvM) => r.1 = .nx ∧ Sh script r.2) = Q
  have hrg0 : rgF 0 m = some (iD (D8.upTo m)) := by rw [← rg0]; exact rgF_of (by omega) (by omega) (by omega) (by omega)
  have lkn : (kn m F F).length ≤ m := by
    rw [kn_perm.length_eq, kn0, List.length_map]
    have := List.length_filter_le (fun g => decide (cf m F 0 = cf m F g)) (D8.upTo m)
    rw [D8.len_upTo] at this
    exact this
  simp
  refine lcf (kn m F F) (fun _ => false) (fun _ => mint 1) (by omega) (fun k => next_sl rfl rfl rfl) (fun d hd => ?_) ?_
  · obtain ⟨L, rfl, oL, hfix⟩ := fix_all hF cc m1 hd
    simp
    refine lcf_ints (D8.upTo m) (fun x => decide (it L x = x)) mint (by rw [D8.len_upTo]; omega) (fun k => next_rgS rfl rfl (by omega)) (fun x hx => ?_) ?_
    · obtain ⟨x0, x1⟩ := D8.mem_upTo.mp hx
      have e1 := atD (r := L) x0 (by rw [oL.len]; exact x1)
      simp [e1]
    · rcases hfix with e | e
      · rw [e, show ([] : List Int).map mint = iM [] from rfl]
        simp [hrg0, inF_2 (gs := []) (U := D8.upTo m) (.inl rfl)]
      · rw [e, show (D8.upTo m).map mint = iM (D8.upTo m) from rfl]
        simp [hrg0, inF_2 (gs := D8.upTo m) (U := D8.upTo m) (.inr rfl)]
  rw [show (kn m F F).filter (fun _ => false) = [] from List.filter_eq_nil_iff.mpr (by simp)]
  simp
  have nLs : Okf m (leastF m F) := by
    obtain ⟨s, s0, s1, es⟩ := leastF_mem (F := F) m1
    rw [es]
    exact cf_ok hF cc s0 s1
  refine lcf_ints (D8.upTo m) (fun x => decide (cf m F x = leastF m F)) mint (by rw [D8.len_upTo]; omega) (fun k => next_rgS rfl rfl (by omega)) (fun x hx => ?_) ?_
  · obtain ⟨x0, x1⟩ := D8.mem_upTo.mp hx
    simp
    refine CallK.of (lwalked_ev (n + 4) hF cc x0 x1 (by omega)) ?_
    rintro _ rfl
    simp
    refine CallK.of (calledF_ev (n + 5) hF (bf_ord hF cc x0 x1).bkL (by omega)) ?_
    rintro _ ⟨G', rfl, hG'⟩
    obtain rfl := hG'.only (bf_ord hF cc x0 x1).bkL (cf_cal hF cc x0 x1)
    have eF := eqF_flo (cf_ok hF cc x0 x1) nLs (N := m) (N' := m) (by omega) (by omega)
    generalize hA : cf m F x = A at eF
    generalize hB : leastF m F = B at eF
    simp [eF]
  have e1 : (kn m F F).length = (cls m F 0).length := by
    rw [kn_perm.length_eq, kn0, List.length_map]
    refine congrArg List.length ?_
    unfold gls cls
    exact List.filter_congr fun x _ => by rw [Bool.eq_iff_iff]; simp only [decide_eq_true_eq]; exact eq_comm
  have e2 : ((D8.upTo m).filter fun x => decide (cf m F x = leastF m F)).length = (kn m F F).length := by
    obtain ⟨s, s0, s1, es⟩ := leastF_mem (F := F) m1
    rw [es, e1]
    exact cls_eq hF cc s0 s1 (by decide) (by omega)
  have e3 : ((m : Int) % ((kn m F F).length : Nat)) = 0 := by
    rw [e1]
    exact Int.emod_eq_zero_of_dvd (Int.natCast_dvd_natCast.mpr (cls_dvd hF cc (by decide) (by omega)))
  have e4 : 0 < (kn m F F).length := by
    rw [e1]
    exact List.length_pos_of_mem (mem_cls.mpr ⟨⟨by decide, by omega⟩, rfl⟩)
  simp [e2, e3]
  refine ⟨e4, ?_⟩
  refine CallK.of (floor_ev (n + 3) hq (most := 5) (by decide)) ?_
  rintro _ ⟨m', a', b', q2, rfl, hq2, m1', m2', hH, ccH⟩
  obtain ⟨H, hHe⟩ : ∃ H : Flo, H = (a', b') := ⟨_, rfl⟩
  rw [show PyData.tuple [.tuple (iD a'), .tuple (iD b')] = floD H by rw [hHe]; rfl]
  rw [← hHe] at hH
  have ccH : CC m' H.1 H.2 := by rw [hHe]; exact ccH
  have hl0 : idxF (.im (floD F)) (mint 0) = some (.im (.tuple (iD F.1))) := rfl
  have hl1 : idxF (.im (floD F)) (mint 1) = some (.im (.tuple (iD F.2))) := rfl
  simp [hl0, hl1]
  refine CallK.of (one_ev (n + 4) (ds := [floD H, floD (F.2, F.1)]) (by simp) (by simp) hq2) ?_
  rintro _ ⟨d1, q3, rfl, hq3, hd1⟩
  obtain ⟨m3, K, rfl, oK, cK, hm3, hm3'⟩ : ∃ (m3 : Nat) (K : Flo), d1 = floD K ∧ Okf m3 K ∧ CC m3 K.1 K.2 ∧ 1 ≤ m3 ∧ m3 ≤ 12 := by
    simp only [List.mem_cons, List.not_mem_nil, or_false] at hd1
    rcases hd1 with rfl | rfl
    · exact ⟨m', H, rfl, hH, ccH, by omega, by omega⟩
    · exact ⟨m, (F.2, F.1), rfl, ⟨hF.2, hF.1⟩, cc.symm, by omega, by omega⟩
  have oG := calF_ok hF on hG
  have cG := CC.called on hF.1 hF.2 hG.1 hG.2 cc
  simp
  refine for_each [floD G, floD K] (fun k env => ∃ x12 x13 x15 x16, env = [some (.im script), some (.ml q3), v_turn, some (.im (floD F)), some (mint m), some (mstr kept), some (.im (.tuple (iD nm))), some (.im (floD G)), v_square, some (.im (floD (leastF m F))), v_own, some (.im (.tuple (kn m F F))), x12, x13, some (.im (floD H)), x15, x16, v_c0, v_x]) ⟨_, _, _, _, rfl⟩ (fun k env _ => next_tm rfl rfl) (fun k d env hk hI => ?_) fun env hI => ?_
  · obtain ⟨x12, x13, x15, x16, rfl⟩ := hI
    obtain ⟨mE, E, rfl, oE, cE, hE1, hE2⟩ : ∃ (mE : Nat) (E : Flo), d = floD E ∧ Okf mE E ∧ CC mE E.1 E.2 ∧ 1 ≤ mE ∧ mE ≤ 12 := by
      have := List.mem_of_getElem? hk
      simp only [List.mem_cons, List.not_mem_nil, or_false] at this
      rcases this with rfl | rfl
      · exact ⟨m, G, rfl, oG, cG, m1, m2⟩
      · exact ⟨m3, K, rfl, oK, cK, hm3, hm3'⟩
    simp
    by_cases hm : mE = m
    · subst hm
      refine CallK.of (lnames_ev (n + 4) hF cc oE cE m1 (by omega)) ?_
      rintro _ rfl
      simp
      refine CallK.of (alike_ev (n + 4) hF cc oE cE m1 (by omega)) ?_
      rintro _ rfl
      simp
      refine CallK.of (alike_ev (n + 4) hF cc oE cE m1 (by omega)) ?_
      rintro _ rfl
      simp
      refine CallK.of (are_ev (n + 3) hF cc oE cE m1 (by omega)) ?_
      rintro _ rfl
      simp
      refine CallK.of (are_ev (n + 3) hF cc oE cE m1 (by omega)) ?_
      rintro _ rfl
      have nK := kn_nice hF cc oE cE m1 (by omega)
      have eK := eqF_tn nK (by decide)
      obtain ⟨s4, e4', o4⟩ := rpr4 (b := !decide (kn mE F E = [])) nK (by decide) (by decide)
      have hiff : (kn mE F E = []) ↔ ¬ leastF mE E = leastF mE F := by
        constructor
        · intro h e
          obtain ⟨f, i⟩ := iso_least m1 hF cc oE cE e
          have h0 := i.rng 0 (by decide) (by omega)
          have hg : f 0 ∈ gls mE F E := List.mem_filter.mpr ⟨D8.mem_upTo.mpr h0, decide_eq_true (cf_iso hF cc i (by decide) (by omega)).symm⟩
          have : PyData.tuple (iD (isoL mE F E 0 (f 0))) ∈ kn mE F E := kn_perm.mem_iff.mpr (List.mem_map.mpr ⟨_, hg, rfl⟩)
          rw [h] at this
          cases this
        · intro h
          apply Classical.byContradiction
          intro hne
          obtain ⟨d, hd⟩ := List.exists_mem_of_ne_nil _ hne
          obtain ⟨g, hg, rfl⟩ := List.mem_map.mp (kn_perm.mem_iff.mp hd)
          have hg' := List.mem_filter.mp hg
          obtain ⟨g0, g1⟩ := D8.mem_upTo.mp hg'.1
          have i := (iso_cf hF cc oE cE (by decide) (by omega) g0 g1 (of_decide_eq_true hg'.2)).1
          exact h (leastF_iso m1 hF cc i oE cE)
      simp [eK, e4', eqF_str o4]
      refine CallK.of (lleast_ev (n + 3) oE cE m1 (by omega)) ?_
      rintro _ rfl
      have nE : Okf mE (leastF mE E) := by
        obtain ⟨s, s0, s1, es⟩ := leastF_mem (F := E) m1
        rw [es]
        exact cf_ok oE cE s0 s1
      have eF := eqF_flo nE nLs (by omega) (by omega)
      simp [eF, hiff]
    · have hmne : m ≠ mE := fun z => hm z.symm
      refine CallK.of (lnames_no (n + 4) hF oE hmne) ?_
      rintro _ rfl
      simp
      refine CallK.of (alike_no (n + 4) hF oE hmne) ?_
      rintro _ rfl
      simp
      refine CallK.of (alike_no (n + 4) hF oE hmne) ?_
      rintro _ rfl
      simp
      refine CallK.of (are_no (n + 3) hF oE hmne) ?_
      rintro _ rfl
      simp
      refine CallK.of (are_no (n + 3) hF oE hmne) ?_
      rintro _ rfl
      have n0 := (NiceL.nil (L := 0) (D := 0)).tup
      have eK : eqF (.im (.tuple [])) (.im (.tuple [])) = some true := eqF_tn n0 (by decide)
      obtain ⟨s4, e4', o4⟩ := rpr4 (b := false) n0 (by decide) (by decide)
      simp [eK, e4', eqF_str o4]
      refine CallK.of (lleast_ev (n + 3) oE cE hE1 (by omega)) ?_
      rintro _ rfl
      have nE : Okf mE (leastF mE E) := by
        obtain ⟨s, s0, s1, es⟩ := leastF_mem (F := E) hE1
        rw [es]
        exact cf_ok oE cE s0 s1
      have hno : ¬ leastF mE E = leastF m F := fun e => by
        have h1 := nE.1.len
        rw [e, nLs.1.len] at h1
        exact hmne h1
      have eF := eqF_flo nE nLs (by omega) (by omega)
      simp [eF, hno]
  · obtain ⟨x12, x13, x15, x16, rfl⟩ := hI
    simp [hkept, eqF_str okept]
    subst hQ
    exact ⟨rfl, q3, _, _, _, _, _, _, _, _, _, _, _, _, _, _, _, _, _, hq3, rfl⟩
theorem turn_ev (n : Nat) {q : List M} (hq : PotOk q) (script : PyData) (t : Int) (v_floor v_n v_kept v_naming v_due v_square v_least v_own v_keeping v_names v_same v_more v_other v_told v_c0 v_x : Option M) :
    Ev (execSs (gamT T (n + 6)) [] lpBody [some (.im script), some (.ml q), some (mint t), v_floor, v_n, v_kept, v_naming, v_due, v_square, v_least, v_own, v_keeping, v_names, v_same, v_more, v_other, v_told, v_c0, v_x]) fun r => r.1 = .nx ∧ Sh script r.2 := by
  refine ev_split (Fd script) 1 (fl_ev n hq script t _ _ _ _ _ _ _ _ _ _ _ _ _ _ _ _) ?_
  rintro env ⟨q, m, F, v_turn, v_n, v_kept, v_naming, v_due, v_square, v_least, v_own, v_keeping, v_names, v_same, v_more, v_other, v_told, v_c0, v_x, hq, hF, cc, m1, m2, rfl⟩
  refine ev_split (Md script) 10 (head_ev n hq script hF cc m1 m2 _ _ _ _ _ _ _ _ _ _ _ _ _ _ _ _) ?_
  rintro env ⟨q, m, F, G, nm, kept, v_turn, v_square, v_own, v_names, v_same, v_more, v_other, v_told, v_c0, v_x, hq, hF, cc, m1, m2, on, hG, hkept, okept, rfl⟩
  exact mid_ev n hq script hF cc m1 m2 on hG hkept okept _ _ _ _ _ _ _ _ _ _

end K03

namespace K03
open PySem PySem.Spec PyProof.Rows L2 D8
theorem law_ok (ns : List Int) (hl : ns.length ≤ 63) : Ev (gamT T 30 20 [.im (.list (ns.map .int))]) fun r => r.1 = mbl true ∧ r.2.length = 1 := by
  refine ev_gam (n := 29) (d := d20) rfl rfl ?_
  show Ev (execSs (gamT T 29) [] B20 [some (.im (.list (ns.map .int))), none, none, none, none, none, none, none, none, none, none, none, none, none, none, none, none, none, none]) _
  have hb : B20 = .cons (.asg (.nm 1) (.call 7 (.cons (.nm 0) .nil))) (.cons (.loop (.nm 2) .rg1 (.cons (.cs (.int 3)) .nil) lpBody) (.cons (.ret (.cs (.bool true))) .nil)) := rfl
  rw [hb]
  simp
  refine CallK.of (pot_ev 28 hl) ?_
  rintro _ ⟨q, rfl, hq⟩
  simp
  refine ForK.of (forLp_ev (rgD 3) (fun _ env => Sh (.list (ns.map .int)) env) (fun _ _ => False) ⟨q, _, _, _, _, _, _, _, _, _, _, _, _, _, _, _, _, _, hq, rfl⟩ (fun k env _ => next_rg rfl (by decide) (by decide)) ?_) ?_
  · rintro k d env hk ⟨q, v_turn, v_floor, v_n, v_kept, v_naming, v_due, v_square, v_least, v_own, v_keeping, v_names, v_same, v_more, v_other, v_told, v_c0, v_x, hq, rfl⟩
    obtain ⟨i, rfl⟩ : ∃ i : Int, d = .int i := by
      obtain ⟨i, _, rfl⟩ := List.mem_map.mp (List.mem_of_getElem? hk)
      exact ⟨_, rfl⟩
    simp
    refine Ev.mono (turn_ev 23 hq _ i _ _ _ _ _ _ _ _ _ _ _ _ _ _ _ _) ?_
    rintro ⟨fl, env⟩ ⟨h1, h2⟩
    simp only at h1 h2
    subst h1
    exact h2
  · rintro ⟨fl, env⟩ h
    cases fl with
    | rt m => exact h.elim
    | bk => exact h.elim
    | ct => exact h.elim
    | nx =>
    obtain ⟨q, v_turn, v_floor, v_n, v_kept, v_naming, v_due, v_square, v_least, v_own, v_keeping, v_names, v_same, v_more, v_other, v_told, v_c0, v_x, hq, rfl⟩ := h
    simp

end K03

namespace K03
open PySem PySem.Spec PyProof.Rows L2 D8
theorem tS : TAll (fun _ d => TS T Pk Cs d) 0 T := .cons ts0 (.cons ts1 (.cons ts2 (.cons ts3 (.cons ts4 (.cons ts5 (.cons ts6 (.cons ts7 (.cons ts8 (.cons ts9 (.cons ts10 (.cons ts11 (.cons ts12 (.cons ts13 (.cons ts14 (.cons ts15 (.cons ts16 (.cons ts17 (.cons ts18 (.cons ts19 (.cons ts20 (.nil)))))))))))))))))))))
end K03
open PySem PySem.W PyProof.Rows
set_option maxHeartbeats 0 in
theorem PySem.Challenge.cw_squarefloors_k03_whole_main_least_holds : PySem.Challenge.rw_squarefloors_k03_whole_main_least.Holds := by
  w_on; o_law; k_head; (case hw => w_witness2)
  k_fill
  refine D8.holds_of (l := PySem.Challenge.rw_squarefloors_k03_whole_main_least) (n := 63) (k := 30) (gl := 20) (x := "script") (T := K03.T) (Pk := K03.Pk) (C := K03.Cs) rfl (by decide) rfl ⟨rfl, by decide, by decide⟩ (fun w h Y => PySem.W.kIn_of Y) rfl rfl rfl K03.tS ?F (fun ns hl _ => K03.law_ok ns hl)
  case F =>
    intro w mg h KX G
    refine' ⟨D8.cst_nil, D8.blt_of KX G ?bl, ?tt⟩
    case bl =>
      intro x hx hn
      simp only [D8.bltNs, List.mem_cons, List.not_mem_nil, or_false] at hx
      rcases hx with rfl | rfl | rfl | rfl | rfl | rfl | rfl | rfl | rfl | rfl | rfl | rfl | rfl | rfl | rfl | rfl | rfl | rfl
      all_goals first | (k_is; done) | exact absurd hn (by decide)
    case tt =>
      refine' .cons ⟨_, _, D8.tk_mk (g := 0) K03.d0 KX G ?a0 ?l0 ?c0 ?k0 ?b0 [(0, 0, ["naming", "floor"])] rfl ?w0⟩ ?r0
      (case a0 => k_is); (case l0 => k_is); (case c0 => k_is); (case k0 => k_is)
      (case b0 => exact fun _ _ _ _ _ _ us hl => match us, hl with | [_, _], _ => rfl)
      case w0 =>
        intro kV dc pm an cd ct q hq
        simp only [List.mem_cons, List.not_mem_nil, or_false] at hq
        rcases hq with rfl
        · intro ix hx s us ws zs hu hw hp
          have hx : some [1, 0] = some ix := hx
          cases hx
          match us, ws, hu, hw with
          | [], [w0, w1], _, _ =>
            have hp : some [w1, w0] = some zs := hp
            cases hp
            exact .of_eq rfl
      case r0 =>
      refine' .cons ⟨_, _, D8.tk_mk (g := 1) K03.d1 KX G ?a1 ?l1 ?c1 ?k1 ?b1 [(1, 0, ["square", "floor"])] rfl ?w1⟩ ?r1
      (case a1 => k_is); (case l1 => k_is); (case c1 => k_is); (case k1 => k_is)
      (case b1 => exact fun _ _ _ _ _ _ us hl => match us, hl with | [_, _], _ => rfl)
      case w1 =>
        intro kV dc pm an cd ct q hq
        simp only [List.mem_cons, List.not_mem_nil, or_false] at hq
        rcases hq with rfl
        · intro ix hx s us ws zs hu hw hp
          have hx : some [1, 0] = some ix := hx
          cases hx
          match us, ws, hu, hw with
          | [], [w0, w1], _, _ =>
            have hp : some [w1, w0] = some zs := hp
            cases hp
            exact .of_eq rfl
      case r1 =>
      refine' .cons ⟨_, _, D8.tk_mk (g := 2) K03.d2 KX G ?a2 ?l2 ?c2 ?k2 ?b2 [(2, 0, ["floor"])] rfl ?w2⟩ ?r2
      (case a2 => k_is); (case l2 => k_is); (case c2 => k_is); (case k2 => k_is)
      (case b2 => exact fun _ _ _ _ _ _ us hl => match us, hl with | [_], _ => rfl)
      case w2 =>
        intro kV dc pm an cd ct q hq
        simp only [List.mem_cons, List.not_mem_nil, or_false] at hq
        rcases hq with rfl
        · intro ix hx s us ws zs hu hw hp
          have hx : some [0] = some ix := hx
          cases hx
          match us, ws, hu, hw with
          | [], [w0], _, _ =>
            have hp : some [w0] = some zs := hp
            cases hp
            exact .of_eq rfl
      case r2 =>
      refine' .cons ⟨_, _, D8.tk_mk (g := 3) K03.d3 KX G ?a3 ?l3 ?c3 ?k3 ?b3 [] rfl (fun _ _ _ _ _ _ q hq => absurd hq List.not_mem_nil)⟩ ?r3
      (case a3 => k_is); (case l3 => k_is); (case c3 => k_is); (case k3 => k_is)
      (case b3 => exact fun _ _ _ _ _ _ us hl => match us, hl with | [_, _, _], _ => rfl)
      case r3 =>
      refine' .cons ⟨_, _, D8.tk_mk (g := 4) K03.d4 KX G ?a4 ?l4 ?c4 ?k4 ?b4 [(4, 0, ["other", "one"])] rfl ?w4⟩ ?r4
      (case a4 => k_is); (case l4 => k_is); (case c4 => k_is); (case k4 => k_is)
      (case b4 => exact fun _ _ _ _ _ _ us hl => match us, hl with | [_, _], _ => rfl)
      case w4 =>
        intro kV dc pm an cd ct q hq
        simp only [List.mem_cons, List.not_mem_nil, or_false] at hq
        rcases hq with rfl
        · intro ix hx s us ws zs hu hw hp
          have hx : some [1, 0] = some ix := hx
          cases hx
          match us, ws, hu, hw with
          | [], [w0, w1], _, _ =>
            have hp : some [w1, w0] = some zs := hp
            cases hp
            exact .of_eq rfl
      case r4 =>
      refine' .cons ⟨_, _, D8.tk_mk (g := 5) K03.d5 KX G ?a5 ?l5 ?c5 ?k5 ?b5 [(5, 0, ["other", "one"])] rfl ?w5⟩ ?r5
      (case a5 => k_is); (case l5 => k_is); (case c5 => k_is); (case k5 => k_is)
      (case b5 => exact fun _ _ _ _ _ _ us hl => match us, hl with | [_, _], _ => rfl)
      case w5 =>
        intro kV dc pm an cd ct q hq
        simp only [List.mem_cons, List.not_mem_nil, or_false] at hq
        rcases hq with rfl
        · intro ix hx s us ws zs hu hw hp
          have hx : some [1, 0] = some ix := hx
          cases hx
          match us, ws, hu, hw with
          | [], [w0, w1], _, _ =>
            have hp : some [w1, w0] = some zs := hp
            cases hp
            exact .of_eq rfl
      case r5 =>
      refine' .cons ⟨_, _, D8.tk_mk (g := 6) K03.d6 KX G ?a6 ?l6 ?c6 ?k6 ?b6 [(6, 0, ["floor"])] rfl ?w6⟩ ?r6
      (case a6 => k_is); (case l6 => k_is); (case c6 => k_is); (case k6 => k_is)
      (case b6 => exact fun _ _ _ _ _ _ us hl => match us, hl with | [_], _ => rfl)
      case w6 =>
        intro kV dc pm an cd ct q hq
        simp only [List.mem_cons, List.not_mem_nil, or_false] at hq
        rcases hq with rfl
        · intro ix hx s us ws zs hu hw hp
          have hx : some [0] = some ix := hx
          cases hx
          match us, ws, hu, hw with
          | [], [w0], _, _ =>
            have hp : some [w0] = some zs := hp
            cases hp
            exact .of_eq rfl
      case r6 =>
      refine' .cons ⟨_, _, D8.tk_mk (g := 7) K03.d7 KX G ?a7 ?l7 ?c7 ?k7 ?b7 [] rfl (fun _ _ _ _ _ _ q hq => absurd hq List.not_mem_nil)⟩ ?r7
      (case a7 => k_is); (case l7 => k_is); (case c7 => k_is); (case k7 => k_is)
      (case b7 => exact fun _ _ _ _ _ _ us hl => match us, hl with | [_], _ => rfl)
      case r7 =>
      refine' .cons ⟨_, _, D8.tk_mk (g := 8) K03.d8 KX G ?a8 ?l8 ?c8 ?k8 ?b8 [] rfl (fun _ _ _ _ _ _ q hq => absurd hq List.not_mem_nil)⟩ ?r8
      (case a8 => k_is); (case l8 => k_is); (case c8 => k_is); (case k8 => k_is)
      (case b8 => exact fun _ _ _ _ _ _ us hl => match us, hl with | [_, _], _ => rfl)
      case r8 =>
      refine' .cons ⟨_, _, D8.tk_mk (g := 9) K03.d9 KX G ?a9 ?l9 ?c9 ?k9 ?b9 [] rfl (fun _ _ _ _ _ _ q hq => absurd hq List.not_mem_nil)⟩ ?r9
      (case a9 => k_is); (case l9 => k_is); (case c9 => k_is); (case k9 => k_is)
      (case b9 => exact fun _ _ _ _ _ _ us hl => match us, hl with | [_, _], _ => rfl)
      case r9 =>
      refine' .cons ⟨_, _, D8.tk_mk (g := 10) K03.d10 KX G ?a10 ?l10 ?c10 ?k10 ?b10 [] rfl (fun _ _ _ _ _ _ q hq => absurd hq List.not_mem_nil)⟩ ?r10
      (case a10 => k_is); (case l10 => k_is); (case c10 => k_is); (case k10 => k_is)
      (case b10 => exact fun _ _ _ _ _ _ us hl => match us, hl with | [_, _], _ => rfl)
      case r10 =>
      refine' .cons ⟨_, _, D8.tk_mk (g := 11) K03.d11 KX G ?a11 ?l11 ?c11 ?k11 ?b11 [] rfl (fun _ _ _ _ _ _ q hq => absurd hq List.not_mem_nil)⟩ ?r11
      (case a11 => k_is); (case l11 => k_is); (case c11 => k_is); (case k11 => k_is)
      (case b11 => exact fun _ _ _ _ _ _ us hl => match us, hl with | [_], _ => rfl)
      case r11 =>
      refine' .cons ⟨_, _, D8.tk_mk (g := 12) K03.d12 KX G ?a12 ?l12 ?c12 ?k12 ?b12 [] rfl (fun _ _ _ _ _ _ q hq => absurd hq List.not_mem_nil)⟩ ?r12
      (case a12 => k_is); (case l12 => k_is); (case c12 => k_is); (case k12 => k_is)
      (case b12 => exact fun _ _ _ _ _ _ us hl => match us, hl with | [_, _, _], _ => rfl)
      case r12 =>
      refine' .cons ⟨_, _, D8.tk_mk (g := 13) K03.d13 KX G ?a13 ?l13 ?c13 ?k13 ?b13 [] rfl (fun _ _ _ _ _ _ q hq => absurd hq List.not_mem_nil)⟩ ?r13
      (case a13 => k_is); (case l13 => k_is); (case c13 => k_is); (case k13 => k_is)
      (case b13 => exact fun _ _ _ _ _ _ us hl => match us, hl with | [_, _], _ => rfl)
      case r13 =>
      refine' .cons ⟨_, _, D8.tk_mk (g := 14) K03.d14 KX G ?a14 ?l14 ?c14 ?k14 ?b14 [] rfl (fun _ _ _ _ _ _ q hq => absurd hq List.not_mem_nil)⟩ ?r14
      (case a14 => k_is); (case l14 => k_is); (case c14 => k_is); (case k14 => k_is)
      (case b14 => exact fun _ _ _ _ _ _ us hl => match us, hl with | [_], _ => rfl)
      case r14 =>
      refine' .cons ⟨_, _, D8.tk_mk (g := 15) K03.d15 KX G ?a15 ?l15 ?c15 ?k15 ?b15 [] rfl (fun _ _ _ _ _ _ q hq => absurd hq List.not_mem_nil)⟩ ?r15
      (case a15 => k_is); (case l15 => k_is); (case c15 => k_is); (case k15 => k_is)
      (case b15 => exact fun _ _ _ _ _ _ us hl => match us, hl with | [_, _], _ => rfl)
      case r15 =>
      refine' .cons ⟨_, _, D8.tk_mk (g := 16) K03.d16 KX G ?a16 ?l16 ?c16 ?k16 ?b16 [] rfl (fun _ _ _ _ _ _ q hq => absurd hq List.not_mem_nil)⟩ ?r16
      (case a16 => k_is); (case l16 => k_is); (case c16 => k_is); (case k16 => k_is)
      (case b16 => exact fun _ _ _ _ _ _ us hl => match us, hl with | [_, _], _ => rfl)
      case r16 =>
      refine' .cons ⟨_, _, D8.tk_mk (g := 17) K03.d17 KX G ?a17 ?l17 ?c17 ?k17 ?b17 [] rfl (fun _ _ _ _ _ _ q hq => absurd hq List.not_mem_nil)⟩ ?r17
      (case a17 => k_is); (case l17 => k_is); (case c17 => k_is); (case k17 => k_is)
      (case b17 => exact fun _ _ _ _ _ _ us hl => match us, hl with | [_], _ => rfl)
      case r17 =>
      refine' .cons ⟨_, _, D8.tk_mk (g := 18) K03.d18 KX G ?a18 ?l18 ?c18 ?k18 ?b18 [] rfl (fun _ _ _ _ _ _ q hq => absurd hq List.not_mem_nil)⟩ ?r18
      (case a18 => k_is); (case l18 => k_is); (case c18 => k_is); (case k18 => k_is)
      (case b18 => exact fun _ _ _ _ _ _ us hl => match us, hl with | [_, _, _], _ => rfl)
      case r18 =>
      refine' .cons ⟨_, _, D8.tk_mk (g := 19) K03.d19 KX G ?a19 ?l19 ?c19 ?k19 ?b19 [] rfl (fun _ _ _ _ _ _ q hq => absurd hq List.not_mem_nil)⟩ ?r19
      (case a19 => k_is); (case l19 => k_is); (case c19 => k_is); (case k19 => k_is)
      (case b19 => exact fun _ _ _ _ _ _ us hl => match us, hl with | [_, _], _ => rfl)
      case r19 =>
      refine' .cons ⟨_, _, D8.tk_mk (g := 20) K03.d20 KX G ?a20 ?l20 ?c20 ?k20 ?b20 [] rfl (fun _ _ _ _ _ _ q hq => absurd hq List.not_mem_nil)⟩ ?r20
      (case a20 => k_is); (case l20 => k_is); (case c20 => k_is); (case k20 => k_is)
      (case b20 => exact fun _ _ _ _ _ _ us hl => match us, hl with | [_], _ => rfl)
      case r20 =>
      exact .nil


