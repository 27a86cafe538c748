import PyProof.Rows.All
import Wide.All
import OpenK.AllK
import Wide.FinOn
import PySem.Challenge.RW_shaperoads_k75_whole_trees_mended_by_all
import HandS.ForMost
import HandS.ForExc
import HandS.Lambda
import HandS.TupAny
import HandS.TupMul
import HandS.HeadHook1
import HandS.TupLe
import HandS.Style
import HandS.Deep
import HandS.IsInst
import HandS.DictComp
import HandS.TryMany
import HandS.Zip
import HandS.Rev
import HandS.Conv
import KE.SortData
import HandS.RaiseMore
import HandS.More
import KE.KDictPairs
import PyProof.MinMaxWalk
import HandS.Dict
import HandS.Iter
import HandS.Comp
import HandS.Small
import HandS.ExcInit
import KE.GoesZip
import KE.GoesMore
import KE.GoesEnum
import KE.KDictZip
import PyProof.ListNew
import HandS.Codes
import HandS.Words
import HandS.Defaults
import HandS.HeadHook4
import HandS.HeadWalk
import HandS.Head0
import HandS.Head1
import HandS.Head2
import HandS.HeadEnd
set_option Elab.async false
set_option linter.all false
set_option maxRecDepth 100000
set_option maxHeartbeats 2000000
/-! Sh, part 0: tuples whose record is known (they have no dict). -/
namespace Sh
open PySem PySem.Spec PyProof.Rows L2
section
variable {X : Cx} {pins : List (Addr × Obj)} {σ : L2.St} {H : Hp} {s : Shared}
/-- a new tuple, its record known -/
def NewT (H : Hp) (xs : List V) (Q : VK) : Prop := ∀ p o, H p = none → o.dict = none → Q (.ref p) (upd H p (.frz o (.tup xs)))
theorem Inv.newT {its : List Value} {xs : List V} {t' : Nat} {Q : VK} (I : Inv X pins σ H s) (r : Vals xs its) (hz : xs.length ≤ sizeLine) (q : NewT H xs Q) :
    EP X pins σ Q (.ref s.heap.objs.size) { s with heap := s.heap.push { cls := .type "tuple", data := .seq its.toArray }, toks := t' } := by
  refine ⟨.ref s.heap.objs.size, upd H s.heap.objs.size (.frz { cls := .type "tuple", data := .seq its.toArray } (.tup xs)), I.laid (t' := t') (fun b u e => Heap.get?_push_of_some _ e) (Nat.le_refl _) ?_, rfl, q _ _ (I.hok.fresh (Nat.le_refl _)) rfl⟩
  exact ⟨Heap.get?_push_size _ rfl, hz, its, r, ⟨_, Heap.get?_push_size _ rfl, rfl, _, rfl⟩⟩
end
section
variable {X : Cx} {es : List Expr} {t : TA} {pos : Pos}
def tTupZ (t : TA) : TE := fun σ H Q => t σ H fun xs H1 => xs.length ≤ sizeLine ∧ NewT H1 xs Q
theorem pe_tupZ {k : Nat} (h : PA X es t) : PE X (.Tuple es k pos) (tTupZ t) := by
  refine ⟨fun pins s σ H Q I hq => ?_⟩
  refine wpAny_Tuple_spliced (thn (h.run pos pins s σ H _ I hq) fun us s1 ⟨xs, H1, I1, r, z, q⟩ => ⟨by rw [← r.length]; exact z, ?_⟩)
  exact Inv.newT (t' := s1.toks) I1 r z q
/-! ### slices -/
def rSlZ (K : PySem.W.Frag) : V → Option Int → Option Int → Hp → VK → Prop := fun x lo hi H Q => ∃ a xs, x = .ref a ∧ SqT K H a xs ∧
  (HT.sIx xs.length 0 lo = 0 ∧ HT.sIx xs.length xs.length hi = xs.length → Q (.ref a) H) ∧ (¬ (HT.sIx xs.length 0 lo = 0 ∧ HT.sIx xs.length xs.length hi = xs.length) → NewT H (cutV xs lo hi) Q)
theorem sl_tupZ : SlR X (rSlZ X.K) := by
  intro pins s σ H x v vl vu lo hi sl Q I rx hs pl pu h
  obtain ⟨a, xs, rfl, hx, q1, q2⟩ := h
  cases rx
  obtain ⟨its, r, ht, hz⟩ := I.tuple hx
  have hlen : its.toArray.size = xs.length := by rw [List.size_toArray]; exact r.length.symm
  refine ⟨"tuple", _, PyProof.Rows.slot_tuple_getitem.lookup, ht.typeIs, ?_⟩
  by_cases hw : HT.sIx xs.length 0 lo = 0 ∧ HT.sIx xs.length xs.length hi = xs.length
  · exact getItem_tuple_whole ht hs pl pu (by rw [hlen]; exact hw) ⟨.ref a, H, I, rfl, q1 hw⟩
  · refine HT.getItem_tuple_cut ht hs pl pu (by rw [hlen]; exact hw) ?_ (by rw [hlen]; exact hz)
    rw [hlen]
    exact Inv.newT (t' := s.toks) I ((r.drop (HT.sIx xs.length 0 lo)).take (HT.sIx xs.length xs.length hi - HT.sIx xs.length 0 lo)) (Nat.le_trans (cutV_length xs lo hi) hz) (q2 hw)
/-! ### + -/
def rCatZ (K : PySem.W.Frag) : R2 := fun x y H Q => ∃ a b xs ys, x = .ref a ∧ y = .ref b ∧ SqT K H a xs ∧ SqT K H b ys ∧ xs.length + ys.length ≤ sizeLine ∧
  (xs = [] → Q (.ref b) H) ∧ (xs ≠ [] → ys = [] → Q (.ref a) H) ∧ (xs ≠ [] → ys ≠ [] → NewT H (xs ++ ys) Q)
theorem op_catZ : OpR X (binaryOp .Add) (rCatZ X.K) := by
  intro pins s σ H x y v u Q I rx ry h
  obtain ⟨a, b, xs, ys, rfl, rfl, ha, hb, hz, q0, q1, q2⟩ := h
  cases rx
  cases ry
  obtain ⟨its, r1, p1, _⟩ := I.tuple ha
  obtain ⟨its2, r2, p2, _⟩ := I.tuple hb
  by_cases hx : xs = []
  · subst hx
    cases r1
    exact cat_tup0 p1 p2 ⟨.ref b, H, I, rfl, q0 rfl⟩
  · refine HT.cat_tup p1 p2 (fun z => hx (r1.nil_iff.mp z)) (fun z => ⟨.ref a, H, I, rfl, q1 hx (r2.nil_iff.mp z)⟩) (fun z => ?_) (by rw [← r1.length, ← r2.length]; exact hz)
    exact Inv.newT (t' := s.toks) I (r1.append r2) (by rw [List.length_append]; exact hz) (q2 hx fun w => z (r2.nil_iff.mpr w))
/-! ### * -/
open AutoSeq1 in
theorem tuple_mul1 (l : Addr) (items : Array Value) (n : Nat) (dd : Option Addr) (sl : Array (Option Value)) (u : Tok) :
    Meets (Builtin.«tuple.__mul__» ⟨[.ref l, .int 1 u], []⟩) (fun _ R s => s.heap.get? l = some { cls := .type "tuple", dict := dd, data := .seq items n, slots := sl } ∧ R (.ok (.ret (Value.ref l))) s) :=
  .of_wp fun prog w A R s h => by
    obtain ⟨hp, g, d, tk, os⟩ := s
    obtain ⟨hl, h⟩ := h
    have f1 := AutoSeq1.idx_int
    have c0 : (decide ((1 : Int) < -(2 ^ 63)) || decide ((1 : Int) ≥ 2 ^ 63)) = false := by decide
    have c1 : (items.isEmpty || (1 : Int) == 1) = true := by simp
    wp_walk using wpAny_loadPart' hl
    exact ⟨_, rfl, h⟩
open AutoSeq1 in
theorem tuple_mul0 (l : Addr) (items : Array Value) (n : Nat) (dd : Option Addr) (sl : Array (Option Value)) (u : Tok) (ne : items.isEmpty = false) :
    Meets (Builtin.«tuple.__mul__» ⟨[.ref l, .int 0 u], []⟩) (fun _ R s => s.heap.get? l = some { cls := .type "tuple", dict := dd, data := .seq items n, slots := sl } ∧ R (.ok (.ret (Value.ref s.heap.objs.size))) { s with heap := s.heap.push { cls := Value.type "tuple", data := Data.seq #[] } }) :=
  .of_wp fun prog w A R s h => by
    obtain ⟨hp, g, d, tk, os⟩ := s
    obtain ⟨hl, h⟩ := h
    have f1 := AutoSeq1.idx_int
    have c0 : (decide ((0 : Int) < -(2 ^ 63)) || decide ((0 : Int) ≥ 2 ^ 63)) = false := by decide
    have c1 : (items.isEmpty || (0 : Int) == 1) = false := by rw [ne]; decide
    wp_walk using wpAny_loadPart' hl
    exact ⟨_, rfl, h⟩
def rRep1 (K : PySem.W.Frag) : R2 := fun x y H Q => ∃ l xs, x = .ref l ∧ y = .int 1 ∧ SqT K H l xs ∧ Q (.ref l) H
def rRepZ (K : PySem.W.Frag) : R2 := fun x y H Q => ∃ l k xs, x = .ref l ∧ y = .int k ∧ SqT K H l xs ∧ xs ≠ [] ∧ 0 ≤ k ∧ k ≠ 1 ∧ k ≤ 1000 ∧ xs.length ≤ 1000 ∧ NewT H (List.replicate k.toNat xs).flatten Q
theorem op_rep1 : OpR X (binaryOp .Mult) (rRep1 X.K) := by
  intro pins s σ H x y v u Q I rx ry h
  obtain ⟨l, xs, rfl, rfl, hT, q⟩ := h
  cases rx
  obtain ⟨t, rfl⟩ := ry
  obtain ⟨its, r, ⟨⟨cls, dd, data, sl⟩, ho, hc, n, hd⟩, hs⟩ := I.tuple hT
  simp only at hc hd
  subst hc hd
  exact wpAny_binaryOp_repeat_ref (T := "tuple") (U := "int") (by decide) ⟨_, ho, rfl⟩ (fun s' => typeIs_int s' 1 t) noFill_tuple_mul F.fills_int_mul F.slot_int_rmul repeat_tuple F.slot_int_index.lookup
    (call_meets F.slot_int_rmul (typeIs_int s 1 t) F.entry_int_rmul (F.args_int_rmul_2 _ _) (int_rmul_tuple 1 t l its.toArray n dd sl)
      ⟨ho, rfl, ⟨_, ho, rfl⟩, call_meets F.slot_tuple_mul ⟨_, ho, rfl⟩ F.entry_tuple_mul (F.args_tuple_mul_2 _ _) (tuple_mul1 l its.toArray n dd sl t) ⟨ho, .ref l, H, I, rfl, q⟩⟩)
theorem op_repZ : OpR X (binaryOp .Mult) (rRepZ X.K) := by
  intro pins s σ H x y v u Q I rx ry h
  obtain ⟨l, k, xs, rfl, rfl, hT, hne, h0, h1, h2, hz, q⟩ := h
  cases rx
  obtain ⟨t, rfl⟩ := ry
  obtain ⟨its, r, ⟨⟨cls, dd, data, sl⟩, ho, hc, n, hd⟩, hs⟩ := I.tuple hT
  simp only at hc hd
  subst hc hd
  have hle : its.length = xs.length := r.length.symm
  have hn : its ≠ [] := fun e => hne (by
    rw [e] at hle
    exact List.eq_nil_of_length_eq_zero hle.symm)
  have hi : its.toArray.isEmpty = false := by
    cases its with
    | nil => exact absurd rfl hn
    | cons a b => rfl
  by_cases k0 : k = 0
  · subst k0
    refine wpAny_binaryOp_repeat_ref (T := "tuple") (U := "int") (by decide) ⟨_, ho, rfl⟩ (fun s' => typeIs_int s' 0 t) noFill_tuple_mul F.fills_int_mul F.slot_int_rmul repeat_tuple F.slot_int_index.lookup
      (call_meets F.slot_int_rmul (typeIs_int s 0 t) F.entry_int_rmul (F.args_int_rmul_2 _ _) (int_rmul_tuple 0 t l its.toArray n dd sl)
        ⟨ho, rfl, ⟨_, ho, rfl⟩, call_meets F.slot_tuple_mul ⟨_, ho, rfl⟩ F.entry_tuple_mul (F.args_tuple_mul_2 _ _) (tuple_mul0 l its.toArray n dd sl t hi) ⟨ho, ?_⟩⟩)
    exact Inv.newT (its := []) (xs := []) (t' := s.toks) I .nil (Nat.zero_le _) q
  have hsz0 : its.toArray.size = xs.length := by rw [List.size_toArray, hle]
  have hm : ((its.toArray.size : Nat) : Int) * k ≤ 1000000 := by
    rw [hsz0]
    have a1 : ((xs.length : Nat) : Int) * k ≤ 1000 * k := Int.mul_le_mul_of_nonneg_right (by omega) (by omega)
    omega
  have lz : k.toNat * xs.length ≤ 16777216 := by
    have a1 : k.toNat * xs.length ≤ 1000 * 1000 := Nat.mul_le_mul (by omega) hz
    omega
  have flen : (List.replicate k.toNat its).flatten.length ≤ sizeLine := by
    rw [PyProof.Rows.lm_len_rep_flat, hle, sizeLine_eq]
    exact lz
  have c0 : (decide (k < -(2 ^ 63)) || decide (k ≥ 2 ^ 63)) = false := by
    rw [decide_eq_false (by omega), decide_eq_false (by omega)] <;> rfl
  have c1 : (its.toArray.isEmpty || k == 1) = false := by
    rw [hi, Bool.false_or]
    exact beq_eq_false_iff_ne.mpr h1
  have c2 : (decide (k ≤ 0) || its.toArray.isEmpty) = false := by
    rw [hi, Bool.or_false]
    exact decide_eq_false (by omega)
  have c4 : Builtin.Tuple.tupleTooMany (((its.toArray.size : Nat) : Int) * k) = false := by
    unfold Builtin.Tuple.tupleTooMany
    rw [sizeLine_eq]
    exact decide_eq_false (by omega)
  refine wpAny_binaryOp_repeat_ref (T := "tuple") (U := "int") (by decide) ⟨_, ho, rfl⟩ (fun s' => typeIs_int s' k t) noFill_tuple_mul F.fills_int_mul F.slot_int_rmul repeat_tuple F.slot_int_index.lookup
    (call_meets F.slot_int_rmul (typeIs_int s k t) F.entry_int_rmul (F.args_int_rmul_2 _ _) (int_rmul_tuple k t l its.toArray n dd sl)
      ⟨ho, rfl, ⟨_, ho, rfl⟩, call_meets F.slot_tuple_mul ⟨_, ho, rfl⟩ F.entry_tuple_mul (F.args_tuple_mul_2 _ _) (tuple_mulW l its.toArray n dd sl k t c0 c1 c2 (by omega) c4 (by rw [size_rep, List.size_toArray]; exact flen)) ⟨ho, ?_⟩⟩)
  rw [size_rep]
  exact Inv.newT (t' := s.toks) I (r.rep k.toNat) (by rw [PyProof.Rows.lm_len_rep_flat, sizeLine_eq]; exact lz) q
/-! ### tuple(..) -/
def rTupOf (K : PySem.W.Frag) : List V → Hp → VK → Prop := fun xs H Q => ∃ p ys, xs = [.ref p] ∧ ((SqL K H p ys ∧ NewT H ys Q) ∨ (SqT K H p ys ∧ Q (.ref p) H))
theorem call_tupZ : CallR X (.type "tuple") (rTupOf X.K) := by
  intro pins s σ H xs us Q I r h
  obtain ⟨p, ys, rfl, h⟩ := h
  obtain ⟨u, rfl, rx⟩ := vals1 r
  cases rx
  rcases h with ⟨hq, q⟩ | ⟨hq, q⟩
  · obtain ⟨its, r', pl, hz⟩ := I.list hq
    have hlen := r'.length
    refine call_tuple_list pl.isList (fun h' kp => ?_) (by simp only [List.size_toArray] <;> omega)
    have I1 : Inv X pins σ H { s with heap := h' } := I.kept (t' := s.toks) kp
    exact Inv.newT (t' := s.toks) I1 r' hz q
  · obtain ⟨its, r', pl, hz⟩ := I.tuple hq
    exact call_tuple_same pl ⟨.ref p, H, I, rfl, q⟩
end
end Sh
set_option Elab.async false
set_option linter.all false
set_option maxRecDepth 100000
set_option maxHeartbeats 2000000
/-! Sh: data by value over the hand layer. Part A: data, owned objects, ghost worlds. -/
namespace Sh
open PySem PySem.Spec PyProof.Rows L2

abbrev D := PyData
def kD : Key → D
  | .inl i => .int i
  | .inr x => .str x
theorem kD_inj {a b : Key} (e : kD a = kD b) : a = b := by
  cases a <;> cases b <;> simp [kD] at e <;> simp [e]

/-- a tuple, its record known: it has no dict -/
def TupF (F : Hp) (a : Addr) (xs : List V) : Prop := ∃ o, F a = some (.frz o (.tup xs)) ∧ o.dict = none
mutual
/-- a value stands for a datum, by the frozen part F of the heap -/
inductive Rp (K : PySem.W.Frag) (F : Hp) : V → D → Prop
  | non : Rp K F .non .none
  | bl (b : Bool) : Rp K F (.bl b) (.bool b)
  | int (i : Int) : Rp K F (.int i) (.int i)
  | str (x : Str) : Rp K F (.str x) (.str x)
  | lst {a : Addr} {xs : List V} {ds : List D} : F a = some (.lst xs) → RpA K F xs ds → Rp K F (.ref a) (.list ds)
  | tup {a : Addr} {xs : List V} {ds : List D} : TupF F a xs → RpA K F xs ds → Rp K F (.ref a) (.tuple ds)
  | dic {a : Addr} {kvs : List (Key × V)} {kds : List (D × D)} : F a = some (.dK kvs) → RpK K F kvs kds → Rp K F (.ref a) (.dict kds)
inductive RpA (K : PySem.W.Frag) (F : Hp) : List V → List D → Prop
  | nil : RpA K F [] []
  | cons {v : V} {vs : List V} {d : D} {ds : List D} : Rp K F v d → RpA K F vs ds → RpA K F (v :: vs) (d :: ds)
inductive RpK (K : PySem.W.Frag) (F : Hp) : List (Key × V) → List (D × D) → Prop
  | nil : RpK K F [] []
  | cons {k : Key} {v : V} {vs : List (Key × V)} {d : D} {ds : List (D × D)} : Rp K F v d → RpK K F vs ds → RpK K F ((k, v) :: vs) ((kD k, d) :: ds)
end
/-- a dict's pairs, keys told -/
inductive RpD (K : PySem.W.Frag) (F : Hp) : List (Key × V) → List (Key × D) → Prop
  | nil : RpD K F [] []
  | cons {k : Key} {v : V} {vs : List (Key × V)} {d : D} {ds : List (Key × D)} : Rp K F v d → RpD K F vs ds → RpD K F ((k, v) :: vs) ((k, d) :: ds)

abbrev Sub (F F' : Hp) : Prop := ∀ a u, F a = some u → F' a = some u
section
variable {K : PySem.W.Frag} {F F' G : Hp}
theorem Rd.mono {a : Addr} {u : HO} (s : Sub F F') (h : Rd F a u) : Rd F' a u := by
  rcases h with h | ⟨o, h⟩
  · exact .inl (s _ _ h)
  · exact .inr ⟨o, s _ _ h⟩
theorem SqL_of_rd {a : Addr} {xs : List V} (s : ∀ u, Rd F a u → Rd F' a u) (h : SqL K F a xs) : SqL K F' a xs := by
  rcases h with h | h
  · exact .inl (s _ h)
  · exact .inr h
theorem SqT_of_rd {a : Addr} {xs : List V} (s : ∀ u, Rd F a u → Rd F' a u) (h : SqT K F a xs) : SqT K F' a xs := by
  rcases h with h | h
  · exact .inl (s _ h)
  · exact .inr h
mutual
theorem Rp.mono (s : Sub F F') : ∀ (d : D) (v : V), Rp K F v d → Rp K F' v d
  | .none, _, h => by cases h; exact .non
  | .bool b, _, h => by cases h; exact .bl b
  | .int i, _, h => by cases h; exact .int i
  | .str x, _, h => by cases h; exact .str x
  | .list ds, _, h => by
    cases h with
    | lst h1 h2 => exact .lst (s _ _ h1) (RpA.mono s ds _ h2)
  | .tuple ds, _, h => by
    cases h with
    | tup h1 h2 => exact .tup (let ⟨o, e, d⟩ := h1; ⟨o, s _ _ e, d⟩) (RpA.mono s ds _ h2)
  | .dict kds, _, h => by
    cases h with
    | dic h1 h2 => exact .dic (s _ _ h1) (RpK.mono s kds _ h2)
theorem RpA.mono (s : Sub F F') : ∀ (ds : List D) (vs : List V), RpA K F vs ds → RpA K F' vs ds
  | [], _, h => by cases h; exact .nil
  | d :: ds, _, h => by
    cases h with
    | cons h1 h2 => exact .cons (Rp.mono s d _ h1) (RpA.mono s ds _ h2)
theorem RpK.mono (s : Sub F F') : ∀ (ds : List (D × D)) (vs : List (Key × V)), RpK K F vs ds → RpK K F' vs ds
  | [], _, h => by cases h; exact .nil
  | (k, d) :: ds, _, h => by
    cases h with
    | cons h1 h2 => exact .cons (Rp.mono s d _ h1) (RpK.mono s ds _ h2)
end
theorem Rp.mono' (s : Sub F F') {v : V} {d : D} (h : Rp K F v d) : Rp K F' v d := Rp.mono s d v h
theorem RpA.mono' (s : Sub F F') {v : List V} {d : List D} (h : RpA K F v d) : RpA K F' v d := RpA.mono s d v h
theorem RpD.mono (s : Sub F F') {vs : List (Key × V)} {ds : List (Key × D)} (h : RpD K F vs ds) : RpD K F' vs ds := by
  induction h with
  | nil => exact .nil
  | cons h1 _ ih => exact .cons (Rp.mono' s h1) ih
theorem RpD.rpK {vs : List (Key × V)} {ds : List (Key × D)} (h : RpD K F vs ds) : RpK K F vs (ds.map fun p => (kD p.1, p.2)) := by
  induction h with
  | nil => exact .nil
  | cons h1 _ ih => exact .cons h1 ih
theorem RpK.rpD : ∀ {ds : List (D × D)} {vs : List (Key × V)}, RpK K F vs ds → ∃ es : List (Key × D), RpD K F vs es ∧ ds = es.map fun p => (kD p.1, p.2)
  | [], _, h => by cases h; exact ⟨[], .nil, rfl⟩
  | (k, d) :: ds, _, h => by
    cases h with
    | @cons k' v vs _ _ h1 h2 =>
      obtain ⟨es, e1, e2⟩ := RpK.rpD h2
      exact ⟨(k', d) :: es, .cons h1 e1, by rw [e2]; rfl⟩
theorem RpA.length : ∀ {vs : List V} {ds : List D}, RpA K F vs ds → vs.length = ds.length
  | _, _, .nil => rfl
  | _, _, .cons _ t => by rw [List.length_cons, List.length_cons, t.length]
theorem RpD.length {vs : List (Key × V)} {ds : List (Key × D)} (h : RpD K F vs ds) : vs.length = ds.length := by
  induction h with
  | nil => rfl
  | cons _ _ ih => rw [List.length_cons, List.length_cons, ih]
theorem RpA.get : ∀ {vs : List V} {ds : List D} {i : Nat} {d : D}, RpA K F vs ds → ds[i]? = some d → ∃ v, vs[i]? = some v ∧ Rp K F v d
  | _, _, _, _, .nil, e => by simp at e
  | _, _, 0, _, .cons r _, e => by simp at e; subst e; exact ⟨_, rfl, r⟩
  | _, _, i + 1, d, .cons _ t, e => by
    obtain ⟨v, h1, h2⟩ := RpA.get (i := i) (d := d) t (by simpa using e)
    exact ⟨v, by simpa using h1, h2⟩
theorem RpA.getV : ∀ {vs : List V} {ds : List D} {i : Nat} {v : V}, RpA K F vs ds → vs[i]? = some v → ∃ d, ds[i]? = some d ∧ Rp K F v d
  | _, _, _, _, .nil, e => by simp at e
  | _, _, 0, _, .cons r _, e => by simp at e; subst e; exact ⟨_, rfl, r⟩
  | _, _, i + 1, v, .cons _ t, e => by
    obtain ⟨d, h1, h2⟩ := RpA.getV (i := i) (v := v) t (by simpa using e)
    exact ⟨d, by simpa using h1, h2⟩
theorem RpA.append : ∀ {vs ws : List V} {ds es : List D}, RpA K F vs ds → RpA K F ws es → RpA K F (vs ++ ws) (ds ++ es)
  | _, _, _, _, .nil, s => s
  | _, _, _, _, .cons r t, s => .cons r (t.append s)
theorem RpA.take : ∀ {vs : List V} {ds : List D} (n : Nat), RpA K F vs ds → RpA K F (vs.take n) (ds.take n)
  | _, _, 0, _ => .nil
  | _, _, _ + 1, .nil => .nil
  | _, _, n + 1, .cons r t => .cons r (t.take n)
theorem RpA.drop : ∀ {vs : List V} {ds : List D} (n : Nat), RpA K F vs ds → RpA K F (vs.drop n) (ds.drop n)
  | _, _, 0, r => r
  | _, _, _ + 1, .nil => .nil
  | _, _, n + 1, .cons _ t => t.drop n
theorem RpA.set {v : V} {d : D} (r : Rp K F v d) : ∀ {vs : List V} {ds : List D} (i : Nat), RpA K F vs ds → RpA K F (vs.set i v) (ds.set i d)
  | _, _, _, .nil => .nil
  | _, _, 0, .cons _ t => .cons r t
  | _, _, i + 1, .cons q t => .cons q (t.set r i)
theorem RpA.reverse {vs : List V} {ds : List D} (h : RpA K F vs ds) : RpA K F vs.reverse ds.reverse := by
  induction vs generalizing ds with
  | nil => cases h; exact .nil
  | cons v vs ih =>
    cases h with
    | cons r t =>
      rw [List.reverse_cons, List.reverse_cons]
      exact (ih t).append (.cons r .nil)
theorem RpA.replicate {vs : List V} {ds : List D} (h : RpA K F vs ds) : ∀ n : Nat, RpA K F (List.replicate n vs).flatten (List.replicate n ds).flatten
  | 0 => .nil
  | n + 1 => by
    rw [List.replicate_succ, List.replicate_succ, List.flatten_cons, List.flatten_cons]
    exact h.append (h.replicate n)
/-- the values of ints and the like -/
theorem RpA.ints : ∀ {ns : List Int} {vs : List V}, RpA K F vs (ns.map PyData.int) → vs = ns.map V.int
  | [], _, h => by cases h; rfl
  | n :: ns, _, h => by
    cases h with
    | cons r t => cases r; rw [t.ints]; rfl
theorem RpA.of_ints : ∀ ns : List Int, RpA K F (ns.map V.int) (ns.map PyData.int)
  | [] => .nil
  | n :: ns => .cons (.int n) (RpA.of_ints ns)
theorem RpA.bools : ∀ {ns : List Bool} {vs : List V}, RpA K F vs (ns.map PyData.bool) → vs = ns.map V.bl
  | [], _, h => by cases h; rfl
  | n :: ns, _, h => by
    cases h with
    | cons r t => cases r; rw [t.bools]; rfl
theorem RpA.strs : ∀ {ns : List Str} {vs : List V}, RpA K F vs (ns.map PyData.str) → vs = ns.map V.str
  | [], _, h => by cases h; rfl
  | n :: ns, _, h => by
    cases h with
    | cons r t => cases r; rw [t.strs]; rfl
end

/-! ### objects that are owned: told by value -/
inductive O where
  | dat (d : D)
  | lst (ds : List D)
  | dic (kds : List (Key × D))
  | dil (kls : List (Key × List D))
  | scr (ns : List Int)
def O.view : O → D
  | .dat d => d
  | .lst ds => .list ds
  | .dic kds => .dict (kds.map fun p => (kD p.1, p.2))
  | .dil kls => .dict (kls.map fun p => (kD p.1, .list p.2))
  | .scr _ => .none
def O.isScr : O → Bool
  | .scr _ => true
  | _ => false
/-- a dict of owned lists -/
inductive RpL (K : PySem.W.Frag) (F H : Hp) : List (Key × V) → List (Key × List D) → List Addr → Prop
  | nil : RpL K F H [] [] []
  | cons {k : Key} {b : Addr} {xs : List V} {ds : List D} {vs : List (Key × V)} {s : List (Key × List D)} {fp : List Addr} : F b = none → H b = some (.lst xs) → RpA K F xs ds → RpL K F H vs s fp → RpL K F H ((k, .ref b) :: vs) ((k, ds) :: s) (b :: fp)
/-- a value stands for an object that is owned, its addresses fp -/
inductive RpO (K : PySem.W.Frag) (F H : Hp) : V → O → List Addr → Prop
  | dat {v : V} {d : D} : Rp K F v d → RpO K F H v (.dat d) []
  | lst {a : Addr} {xs : List V} {ds : List D} : F a = none → H a = some (.lst xs) → RpA K F xs ds → RpO K F H (.ref a) (.lst ds) [a]
  | dic {a : Addr} {kvs : List (Key × V)} {kds : List (Key × D)} : F a = none → H a = some (.dK kvs) → RpD K F kvs kds → RpO K F H (.ref a) (.dic kds) [a]
  | dil {a : Addr} {kvs : List (Key × V)} {kls : List (Key × List D)} {fp : List Addr} : F a = none → H a = some (.dK kvs) → RpL K F H kvs kls fp → (a :: fp).Nodup → RpO K F H (.ref a) (.dil kls) (a :: fp)
  | scr {a : Addr} {ns : List Int} : (SqL K F a (ns.map V.int) ∨ ∃ o, H a = some (.frz o (.lst (ns.map V.int)))) → RpO K F H (.ref a) (.scr ns) []
/-- what an owned address holds -/
def Own1 : Option HO → Prop
  | some (.lst _) => True
  | some (.dK _) => True
  | _ => False
section
variable {K : PySem.W.Frag} {F F' H H' : Hp}
theorem RpL.at {vs : List (Key × V)} {s : List (Key × List D)} {fp : List Addr} (h : RpL K F H vs s fp) : ∀ a ∈ fp, F a = none ∧ Own1 (H a) := by
  induction h with
  | nil => intro a z; cases z
  | cons h1 h2 _ _ ih =>
    intro a z
    rcases List.mem_cons.mp z with rfl | z
    · exact ⟨h1, by rw [h2]; trivial⟩
    · exact ih a z
theorem RpO.at {v : V} {o : O} {fp : List Addr} (h : RpO K F H v o fp) : ∀ a ∈ fp, F a = none ∧ Own1 (H a) := by
  cases h with
  | dat _ => intro a z; cases z
  | lst h1 h2 _ => intro a z; rw [List.mem_singleton.mp z]; exact ⟨h1, by rw [h2]; trivial⟩
  | dic h1 h2 _ => intro a z; rw [List.mem_singleton.mp z]; exact ⟨h1, by rw [h2]; trivial⟩
  | dil h1 h2 h3 _ =>
    intro a z
    rcases List.mem_cons.mp z with rfl | z
    · exact ⟨h1, by rw [h2]; trivial⟩
    · exact h3.at a z
  | scr _ => intro a z; cases z
theorem RpO.nodup {v : V} {o : O} {fp : List Addr} (h : RpO K F H v o fp) : fp.Nodup := by
  cases h with
  | dat _ => exact List.nodup_nil
  | lst _ _ _ => exact List.nodup_cons.mpr ⟨by simp, List.nodup_nil⟩
  | dic _ _ _ => exact List.nodup_cons.mpr ⟨by simp, List.nodup_nil⟩
  | dil _ _ _ h => exact h
  | scr _ => exact List.nodup_nil
theorem RpL.frame (s : Sub F F') {vs : List (Key × V)} {l : List (Key × List D)} {fp : List Addr} (h : RpL K F H vs l fp) (k : ∀ a ∈ fp, H' a = H a ∧ F' a = none) : RpL K F' H' vs l fp := by
  induction h with
  | nil => exact .nil
  | cons h1 h2 h3 _ ih =>
    obtain ⟨k1, k2⟩ := k _ List.mem_cons_self
    exact .cons k2 (k1.trans h2) (RpA.mono' s h3) (ih fun a z => k a (List.mem_cons_of_mem _ z))
theorem RpO.frame (s : Sub F F') (z : ∀ a o u, H a = some (.frz o u) → H' a = some (.frz o u)) {v : V} {o : O} {fp : List Addr} (h : RpO K F H v o fp) (k : ∀ a ∈ fp, H' a = H a ∧ F' a = none) : RpO K F' H' v o fp := by
  cases h with
  | dat h => exact .dat (Rp.mono' s h)
  | lst h1 h2 h3 =>
    obtain ⟨k1, k2⟩ := k _ List.mem_cons_self
    exact .lst k2 (k1.trans h2) (RpA.mono' s h3)
  | dic h1 h2 h3 =>
    obtain ⟨k1, k2⟩ := k _ List.mem_cons_self
    exact .dic k2 (k1.trans h2) (RpD.mono s h3)
  | dil h1 h2 h3 h4 =>
    obtain ⟨k1, k2⟩ := k _ List.mem_cons_self
    exact .dil k2 (k1.trans h2) (h3.frame s fun a z => k a (List.mem_cons_of_mem _ z)) h4
  | scr h =>
    refine .scr ?_
    rcases h with h | ⟨o, h⟩
    · exact .inl (SqL_of_rd (fun _ => Rd.mono s) h)
    · exact .inr ⟨o, z _ _ _ h⟩
/-- the frozen part with some more objects -/
def frz (F H : Hp) (fp : List Addr) : Hp := fun b => if b ∈ fp then H b else F b
theorem frz_in {fp : List Addr} {b : Addr} (h : b ∈ fp) : frz F H fp b = H b := if_pos h
theorem frz_out {fp : List Addr} {b : Addr} (h : b ∉ fp) : frz F H fp b = F b := if_neg h
theorem frz_sub {fp : List Addr} (h : ∀ a ∈ fp, F a = none) : Sub F (frz F H fp) := fun a u e => by
  rw [frz_out]
  · exact e
  · intro z
    rw [h a z] at e
    cases e
theorem RpL.freeze {vs : List (Key × V)} {l : List (Key × List D)} {fp : List Addr} (h : RpL K F H vs l fp) {G : Hp} (s : Sub F G) (k : ∀ a ∈ fp, G a = H a) : RpK K G vs (l.map fun p => (kD p.1, .list p.2)) := by
  induction h with
  | nil => exact .nil
  | cons h1 h2 h3 _ ih =>
    exact .cons (.lst ((k _ List.mem_cons_self).trans h2) (RpA.mono' s h3)) (ih fun a z => k a (List.mem_cons_of_mem _ z))
theorem RpO.freeze {v : V} {o : O} {fp : List Addr} (h : RpO K F H v o fp) (ns : o.isScr = false) : Rp K (frz F H fp) v o.view := by
  have s : Sub F (frz F H fp) := frz_sub fun a z => (h.at a z).1
  cases h with
  | dat h => exact Rp.mono' s h
  | lst h1 h2 h3 => exact .lst ((frz_in List.mem_cons_self).trans h2) (RpA.mono' s h3)
  | dic h1 h2 h3 => exact .dic ((frz_in List.mem_cons_self).trans h2) (RpD.mono s h3).rpK
  | dil h1 h2 h3 h4 => exact .dic ((frz_in List.mem_cons_self).trans h2) (h3.freeze s fun a z => frz_in (List.mem_cons_of_mem _ z))
  | scr _ => cases ns
end

/-! ### ghost worlds -/
abbrev Env := List (Option O)
structure Wl where
  F : Hp
  H : Hp
  fp : Nat → List Addr
def Wl.own (w : Wl) (a : Addr) : Prop := ∃ i, a ∈ w.fp i
/-- the slots are told by ρ -/
structure Cs (K : PySem.W.Frag) (T : List (Addr × Str)) (σ : L2.St) (ρ : Env) (w : Wl) : Prop where
  len : σ.length = ρ.length
  sl : ∀ i o, ρ[i]? = some (some o) → ∃ v, σ[i]? = some (some v) ∧ RpO K w.F w.H v o (w.fp i)
  no : ∀ i, (∀ o, ρ[i]? ≠ some (some o)) → w.fp i = []
  sep : ∀ i j a, a ∈ w.fp i → a ∈ w.fp j → i = j
  le : ∀ a u, w.F a = some u → (w.H a = some u ∧ ∀ ps, u ≠ .tbl ps) ∨ ∃ o kvs, u = .dK kvs ∧ w.H a = some (.frz o u)
  tb : LamX.Tabs T w.H
/-- nothing there, or a table of code -/
def Voi (o : Option HO) : Prop := o = none ∨ ∃ ps, o = some (.tbl ps)
theorem Voi.own1 {o : Option HO} (h : Voi o) (k : Own1 o) : False := by
  rcases h with h | ⟨ps, h⟩
  · rw [h] at k; exact k
  · rw [h] at k; exact k
theorem Voi.no {o : Option HO} {u : HO} (h : Voi o) (e : o = some u) (n : ∀ ps, u ≠ .tbl ps) : False := by
  rcases h with h | ⟨ps, h⟩
  · rw [h] at e; cases e
  · rw [h] at e; exact n ps (Option.some.inj e).symm
/-- a step of the ghost world -/
structure Lw (w w' : Wl) : Prop where
  keep : ∀ b u, w.H b = some u → ¬ w.own b → (∀ ps, u ≠ .tbl ps) → w'.H b = some u
  frz : ∀ b o u, w.H b = some (.frz o u) → w'.H b = some (.frz o u)
  alive : ∀ b, Voi (w'.H b) → Voi (w.H b)
  le : Sub w.F w'.F
  newF : ∀ b, w'.F b ≠ none → w.F b ≠ none ∨ w.own b ∨ Voi (w.H b)
  newO : ∀ b, w'.own b → w.own b ∨ Voi (w.H b)
theorem Lw.refl (w : Wl) : Lw w w := ⟨fun _ _ e _ _ => e, fun _ _ _ e => e, fun _ e => e, fun _ _ e => e, fun _ e => .inl e, fun _ e => .inl e⟩
theorem Lw.trans {a b c : Wl} (x : Lw a b) (y : Lw b c) : Lw a c where
  keep := fun q u e n t => y.keep q u (x.keep q u e n t) (fun z => (x.newO q z).elim n fun z => z.no e t) t
  frz := fun q o u e => y.frz q o u (x.frz q o u e)
  alive := fun q e => x.alive q (y.alive q e)
  le := fun q u e => y.le q u (x.le q u e)
  newF := fun q e => by
    rcases y.newF q e with z | z | z
    · exact x.newF q z
    · exact .inr (x.newO q z)
    · exact .inr (.inr (x.alive q z))
  newO := fun q e => by
    rcases y.newO q e with z | z
    · exact x.newO q z
    · exact .inr (x.alive q z)
theorem own1_tbl {o : Option HO} (h : Own1 o) : ∀ u, o = some u → ∀ ps, u ≠ .tbl ps := fun u e ps z => by
  subst e; subst z; exact h
/-- what stood apart stays -/
theorem Lw.out {K : PySem.W.Frag} {w w' : Wl} (x : Lw w w') {v : V} {o : O} {fp : List Addr} (h : RpO K w.F w.H v o fp) (n : ∀ a ∈ fp, ¬ w.own a) : RpO K w'.F w'.H v o fp ∧ ∀ a ∈ fp, ¬ w'.own a := by
  have hat := h.at
  refine ⟨h.frame x.le x.frz fun a z => ?_, fun a z q => ?_⟩
  · obtain ⟨h1, h2⟩ := hat a z
    cases e : w.H a with
    | none => rw [e] at h2; exact h2.elim
    | some u =>
      refine ⟨x.keep a u e (n a z) (own1_tbl h2 u e), ?_⟩
      cases q : w'.F a with
      | none => rfl
      | some u' =>
        rcases x.newF a (by rw [q]; simp) with y | y | y
        · exact absurd h1 y
        · exact absurd y (n a z)
        · exact (y.own1 h2).elim
  · obtain ⟨h1, h2⟩ := hat a z
    rcases x.newO a q with y | y
    · exact n a z y
    · exact y.own1 h2
theorem Rd.some {H : Hp} {a : Addr} {u : HO} (h : Rd H a u) : H a ≠ none := by
  rcases h with h | ⟨o, h⟩ <;> rw [h] <;> simp
section
variable {K : PySem.W.Frag} {T : List (Addr × Str)} {σ : L2.St} {ρ : Env} {w : Wl}
theorem Cs.fresh (c : Cs K T σ ρ w) {p : Addr} (h : w.H p = none) : w.F p = none ∧ ¬ w.own p := by
  refine ⟨?_, fun ⟨i, hi⟩ => ?_⟩
  · cases e : w.F p with
    | none => rfl
    | some u =>
      rcases c.le p u e with ⟨q, _⟩ | ⟨o, kvs, _, q⟩
      · rw [h] at q; cases q
      · rw [h] at q; cases q
  · by_cases q : ∃ o, ρ[i]? = some (some o)
    · obtain ⟨o, q⟩ := q
      obtain ⟨v, _, r⟩ := c.sl i o q
      have := (r.at p hi).2
      rw [h] at this
      exact this
    · have := c.no i (fun o z => q ⟨o, z⟩)
      rw [this] at hi
      cases hi
theorem Cs.own_at (c : Cs K T σ ρ w) {p : Addr} (h : w.own p) : w.F p = none ∧ Own1 (w.H p) := by
  obtain ⟨i, hi⟩ := h
  by_cases q : ∃ o, ρ[i]? = some (some o)
  · obtain ⟨o, q⟩ := q
    obtain ⟨v, _, r⟩ := c.sl i o q
    exact r.at p hi
  · have := c.no i (fun o z => q ⟨o, z⟩)
    rw [this] at hi
    cases hi
/-- a new frozen object -/
def Wl.al (w : Wl) (p : Addr) (u : HO) : Wl := ⟨upd w.F p u, upd w.H p u, w.fp⟩
/-- a new object that nobody knows -/
def Wl.al0 (w : Wl) (p : Addr) (u : HO) : Wl := ⟨w.F, upd w.H p u, w.fp⟩
theorem upd_sub {F : Hp} {p : Addr} {u : HO} (h : F p = none) : Sub F (upd F p u) := fun a x e => by
  rw [upd_ne (ne_of_none e h)]
  exact e
theorem rd_upd {H : Hp} {p a : Addr} {o u : HO} (h : H p = none) (r : Rd H a u) : Rd (upd H p o) a u := Rd.mono (upd_sub h) r
theorem Cs.alF {F' H' : Hp} (c : Cs K T σ ρ w) (s : Sub w.F F') (t : Sub w.H H') (nf : ∀ a, F' a ≠ none → w.F a ≠ none ∨ w.H a = none) (le : ∀ a u, F' a = some u → (H' a = some u ∧ ∀ ps, u ≠ .tbl ps) ∨ ∃ o kvs, u = .dK kvs ∧ H' a = some (.frz o u)) :
    Cs K T σ ρ ⟨F', H', w.fp⟩ ∧ Lw w ⟨F', H', w.fp⟩ := by
  refine ⟨⟨c.len, fun i o e => ?_, c.no, c.sep, le, c.tb.ext t⟩, ⟨fun b u e _ _ => t b u e, fun b o u e => t b _ e, fun b e => ?_, s, fun b e => (nf b e).imp id fun z => .inr (.inl z), fun b e => .inl e⟩⟩
  · obtain ⟨v, h1, h2⟩ := c.sl i o e
    refine ⟨v, h1, h2.frame s (fun b o u e => t b _ e) fun a z => ?_⟩
    obtain ⟨q1, q2⟩ := h2.at a z
    cases e : w.H a with
    | none => rw [e] at q2; exact q2.elim
    | some u =>
      refine ⟨t a u e, ?_⟩
      cases y : F' a with
      | none => rfl
      | some u' =>
        rcases nf a (by rw [y]; simp) with y | y
        · exact absurd q1 y
        · rw [y] at e; cases e
  · cases q : w.H b with
    | none => exact .inl rfl
    | some u =>
      have e : Voi (H' b) := e
      rw [t b u q] at e
      exact e
theorem Cs.al (c : Cs K T σ ρ w) {p : Addr} {u : HO} (h : w.H p = none) (hu : ∀ ps, u ≠ .tbl ps := by intro ps z; cases z) : Cs K T σ ρ (w.al p u) ∧ Lw w (w.al p u) := by
  obtain ⟨h1, h2⟩ := c.fresh h
  refine c.alF (upd_sub h1) (upd_sub h) (fun a e => ?_) fun a x r => ?_
  · by_cases q : a = p
    · exact .inr (by rw [q]; exact h)
    · rw [upd_ne q] at e; exact .inl e
  · by_cases q : a = p
    · subst q
      rw [upd_same] at r
      refine .inl ⟨by rw [upd_same]; exact r, ?_⟩
      rw [← Option.some.inj r]
      exact hu
    · rw [upd_ne q] at r
      rw [upd_ne q]
      exact c.le a x r
theorem Cs.al0 (c : Cs K T σ ρ w) {p : Addr} {u : HO} (h : w.H p = none) : Cs K T σ ρ (w.al0 p u) ∧ Lw w (w.al0 p u) :=
  c.alF (fun _ _ e => e) (upd_sub h) (fun _ e => .inl e) fun a x r => by
    have q : a ≠ p := fun z => by
      rw [z] at r
      rw [(c.fresh h).1] at r
      cases r
    rw [upd_ne q]
    exact c.le a x r
/-- what is frozen stands in the heap -/
theorem Cs.lstH (c : Cs K T σ ρ w) {a : Addr} {xs : List V} (h : w.F a = some (.lst xs)) : w.H a = some (.lst xs) := by
  rcases c.le a _ h with ⟨q, _⟩ | ⟨o, kvs, e, _⟩
  · exact q
  · cases e
theorem Cs.tupS (c : Cs K T σ ρ w) {a : Addr} {xs : List V} (h : TupF w.F a xs) : SqT K w.H a xs := by
  obtain ⟨o, e, d⟩ := h
  rcases c.le a _ e with ⟨q, _⟩ | ⟨o', kvs, e', _⟩
  · exact .inl (.inr ⟨o, q⟩)
  · cases e'
theorem Cs.tupR (c : Cs K T σ ρ w) {a : Addr} {xs : List V} (h : TupF w.F a xs) : ∃ o, w.H a = some (.frz o (.tup xs)) ∧ o.dict = none := by
  obtain ⟨o, e, d⟩ := h
  rcases c.le a _ e with ⟨q, _⟩ | ⟨o', kvs, e', _⟩
  · exact ⟨o, q, d⟩
  · cases e'
theorem Cs.dicH (c : Cs K T σ ρ w) {a : Addr} {kvs : List (Key × V)} (h : w.F a = some (.dK kvs)) : Rd w.H a (.dK kvs) := by
  rcases c.le a _ h with ⟨q, _⟩ | ⟨o, kvs', e, q⟩
  · exact .inl q
  · exact .inr ⟨o, q⟩
end
end Sh
set_option Elab.async false
set_option linter.all false
set_option maxRecDepth 100000
set_option maxHeartbeats 2000000
/-! Sh, part B: the monad, the judgements. -/
namespace Sh
open PySem PySem.Spec PyProof.Rows L2

structure Ex where
  cls : Str
  pay : Option (Str × D) := none
inductive Ret (α : Type) where
  | ok (a : α)
  | ex (x : Ex)
def M (α : Type) : Type := Env → Option (Ret α × Env)
def M.pure {α : Type} (a : α) : M α := fun ρ => some (.ok a, ρ)
def M.bind {α β : Type} (f : M α) (k : α → M β) : M β := fun ρ => match f ρ with
  | none => none
  | some (.ex x, ρ') => some (.ex x, ρ')
  | some (.ok a, ρ') => k a ρ'
instance : Monad M where
  pure := M.pure
  bind := M.bind
def lift {α : Type} (a : Option α) : M α := fun ρ => match a with
  | none => none
  | some a => some (.ok a, ρ)
def guardM (b : Bool) : M Unit := fun ρ => if b = true then some (.ok (), ρ) else none

/-- an exception as it lies -/
def ExOk (K : PySem.W.Frag) (w : Wl) (c : Value) (dd : Option Addr) (x : Ex) : Prop :=
  c = .ref (He.ga K x.cls) ∧ match x.pay with
    | none => dd = none
    | some (f, d) => ∃ a v, dd = some a ∧ w.H a = some (.xd [(f, v)]) ∧ Rp K w.F v d ∧ ¬ w.own a

section
variable (X : Cx) (W : WX) (T : List (Addr × Str))
/-- what comes of f from the world w -/
def Co {α : Type} (f : M α) (σ : L2.St) (w : Wl) (ρ : Env) (C : α → Env → Wl → Prop) : Prop :=
  ∃ r ρ', f ρ = some (r, ρ') ∧ match r with
    | .ok a => ∀ w', Lw w w' → Cs X.K T σ ρ' w' → C a ρ' w'
    | .ex x => ∀ w' c dd, Lw w w' → Cs X.K T σ ρ' w' → ExOk X.K w' c dd x → W c dd σ w'.H
end
section
variable {X : Cx} {W : WX} {T : List (Addr × Str)} {σ : L2.St} {w : Wl} {ρ : Env} {α β : Type}
theorem Co.base {f : M α} {w1 : Wl} {C : α → Env → Wl → Prop} (l : Lw w w1) (h : Co X W T f σ w ρ C) : Co X W T f σ w1 ρ C := by
  obtain ⟨r, ρ', e, h⟩ := h
  refine ⟨r, ρ', e, ?_⟩
  cases r with
  | ok b => exact fun w2 l2 c2 => h w2 (l.trans l2) c2
  | ex x => exact fun w2 c dd l2 c2 x2 => h w2 c dd (l.trans l2) c2 x2
theorem Co.bind {f : M α} {k : α → M β} {C : β → Env → Wl → Prop} (h : Co X W T (f >>= k) σ w ρ C) : Co X W T f σ w ρ fun a ρ1 _ => Co X W T (k a) σ w ρ1 C := by
  obtain ⟨r, ρ', e, h⟩ := h
  have e : M.bind f k ρ = some (r, ρ') := e
  unfold M.bind at e
  cases q : f ρ with
  | none => rw [q] at e; cases e
  | some p =>
    obtain ⟨r1, ρ1⟩ := p
    rw [q] at e
    cases r1 with
    | ex x =>
      cases e
      exact ⟨.ex x, _, q, h⟩
    | ok a => exact ⟨.ok a, ρ1, q, fun w1 l1 c1 => ⟨r, ρ', e, h⟩⟩
theorem Co.mono {f : M α} {C C' : α → Env → Wl → Prop} (h : Co X W T f σ w ρ C) (k : ∀ a ρ' w', Lw w w' → Cs X.K T σ ρ' w' → C a ρ' w' → C' a ρ' w') : Co X W T f σ w ρ C' := by
  obtain ⟨r, ρ', e, h⟩ := h
  refine ⟨r, ρ', e, ?_⟩
  cases r with
  | ok a => exact fun w' l c => k a ρ' w' l c (h w' l c)
  | ex x => exact h
theorem Co.pure {a : α} {C : α → Env → Wl → Prop} (h : Co X W T (Pure.pure a : M α) σ w ρ C) : ∀ w', Lw w w' → Cs X.K T σ ρ w' → C a ρ w' := by
  obtain ⟨r, ρ', e, h⟩ := h
  have e : M.pure a ρ = some (r, ρ') := e
  cases e
  exact h
theorem Co.lift {a : Option α} {C : α → Env → Wl → Prop} (h : Co X W T (Sh.lift a) σ w ρ C) : ∃ b, a = some b ∧ ∀ w', Lw w w' → Cs X.K T σ ρ w' → C b ρ w' := by
  obtain ⟨r, ρ', e, h⟩ := h
  unfold Sh.lift at e
  cases a with
  | none => cases e
  | some b => cases e; exact ⟨b, rfl, h⟩
theorem Co.lift_bind {a : Option α} {k : α → M β} {C : β → Env → Wl → Prop} (h : Co X W T (Sh.lift a >>= k) σ w ρ C) (c : Cs X.K T σ ρ w) : ∃ b, a = some b ∧ Co X W T (k b) σ w ρ C := by
  obtain ⟨b, e, h⟩ := Co.lift h.bind
  exact ⟨b, e, h w (Lw.refl w) c⟩
theorem Co.guard_bind {b : Bool} {k : Unit → M β} {C : β → Env → Wl → Prop} (h : Co X W T (guardM b >>= k) σ w ρ C) (c : Cs X.K T σ ρ w) : b = true ∧ Co X W T (k ()) σ w ρ C := by
  obtain ⟨r, ρ', e, h⟩ := h.bind
  unfold guardM at e
  cases b with
  | false => cases e
  | true => cases e; exact ⟨rfl, h w (Lw.refl w) c⟩
/-- what f asks, the base as it was -/
theorem Co.guard_bind' {b : Bool} {k : Unit → M β} {w0 : Wl} {C : β → Env → Wl → Prop} (h : Co X W T (guardM b >>= k) σ w0 ρ C) (_ : Lw w0 w) (_ : Cs X.K T σ ρ w) : b = true ∧ Co X W T (k ()) σ w0 ρ C := by
  obtain ⟨r, ρ', e, h⟩ := h
  have e : M.bind (guardM b) k ρ = some (r, ρ') := e
  unfold M.bind guardM at e
  cases b with
  | false => cases e
  | true => exact ⟨rfl, r, ρ', e, h⟩
theorem Co.lift_bind' {a : Option α} {k : α → M β} {w0 : Wl} {C : β → Env → Wl → Prop} (h : Co X W T (Sh.lift a >>= k) σ w0 ρ C) : ∃ b, a = some b ∧ Co X W T (k b) σ w0 ρ C := by
  obtain ⟨r, ρ', e, h⟩ := h
  have e : M.bind (Sh.lift a) k ρ = some (r, ρ') := e
  unfold M.bind Sh.lift at e
  cases a with
  | none => cases e
  | some b => exact ⟨b, rfl, r, ρ', e, h⟩
theorem Co.pure_bind {a : α} {k : α → M β} {C : β → Env → Wl → Prop} (h : Co X W T (Pure.pure a >>= k) σ w ρ C) : Co X W T (k a) σ w ρ C := h
end
/-- fresh, or owned before -/
def Nw (w : Wl) (fp : List Addr) : Prop := ∀ a ∈ fp, w.own a ∨ Voi (w.H a)
theorem Lw.nw {w w1 : Wl} {fp : List Addr} (l : Lw w w1) (h : Nw w1 fp) : Nw w fp := fun a z => by
  rcases h a z with y | y
  · exact l.newO a y
  · exact .inr (l.alive a y)
def Ap (w : Wl) (fp : List Addr) : Prop := ∀ a ∈ fp, ¬ w.own a

section
variable (X : Cx) (W : WX) (T : List (Addr × Str))
/-- an expression whose value is data -/
def tD (f : M D) : TE := fun σ H Q => ∃ w ρ, w.H = H ∧ Cs X.K T σ ρ w ∧ Co X W T f σ w ρ fun d _ w' => ∀ v, Rp X.K w'.F v d → Q v w'.H
/-- an expression whose value may be owned -/
def tO (f : M O) : TE := fun σ H Q => ∃ w ρ, w.H = H ∧ Cs X.K T σ ρ w ∧ Co X W T f σ w ρ fun o _ w' => ∀ v fp, RpO X.K w'.F w'.H v o fp → Ap w' fp → Nw w fp → Q v w'.H
/-- a test -/
def tT (f : M Bool) : TT := fun σ H Q => ∃ w ρ, w.H = H ∧ Cs X.K T σ ρ w ∧ Co X W T f σ w ρ fun b _ w' => Q b w'.H
/-- arguments: data -/
def tA (f : M (List D)) : TA := fun σ H Q => ∃ w ρ, w.H = H ∧ Cs X.K T σ ρ w ∧ Co X W T f σ w ρ fun ds _ w' => ∀ vs, RpA X.K w'.F vs ds → Q vs w'.H
structure EvD (e : Expr) (f : M D) : Prop where
  pe : PE X e (tD X W T f)
structure EvO (e : Expr) (f : M O) : Prop where
  pe : PE X e (tO X W T f)
structure EvT (e : Expr) (f : M Bool) : Prop where
  pt : PT X e (tT X W T f)
structure EvA (es : List Expr) (f : M (List D)) : Prop where
  pa : PA X es (tA X W T f)
end
theorem PE.imp {X : Cx} {e : Expr} {t t' : TE} (h : PE X e t) (k : ∀ σ H Q, t' σ H Q → t σ H Q) : PE X e t' := ⟨fun pins s σ H Q I q => h.run pins s σ H Q I (k σ H Q q)⟩
theorem PT.imp {X : Cx} {e : Expr} {t t' : TT} (h : PT X e t) (k : ∀ σ H Q, t' σ H Q → t σ H Q) : PT X e t' := ⟨fun pins s σ H Q I q => h.run pins s σ H Q I (k σ H Q q)⟩
theorem PW.imp {X : Cx} {e : Expr} {t t' : TT} (h : PW X e t) (k : ∀ σ H Q, t' σ H Q → t σ H Q) : PW X e t' := ⟨fun wh pins s σ H Q I q => h.run wh pins s σ H Q I (k σ H Q q)⟩
theorem PA.imp {X : Cx} {es : List Expr} {t t' : TA} (h : PA X es t) (k : ∀ σ H Q, t' σ H Q → t σ H Q) : PA X es t' := ⟨fun pos pins s σ H Q I q => h.run pos pins s σ H Q I (k σ H Q q)⟩
theorem PS.imp {X : Cx} {st : Stmt} {t t' : TS} (h : PS X st t) (k : ∀ D σ H, t' D σ H → t D σ H) : PS X st t' := ⟨fun pins s σ H D I q => h.run pins s σ H D I (k D σ H q)⟩
theorem PSs.imp {X : Cx} {st : List Stmt} {t t' : TS} (h : PSs X st t) (k : ∀ D σ H, t' D σ H → t D σ H) : PSs X st t' := ⟨fun pins s σ H D I q => h.run pins s σ H D I (k D σ H q)⟩

section
variable {K : PySem.W.Frag} {T : List (Addr × Str)} {σ : L2.St} {ρ : Env} {w : Wl}
def Wl.fz (w : Wl) (fp : List Addr) : Wl := ⟨frz w.F w.H fp, w.H, w.fp⟩
/-- objects that nobody owns are frozen -/
theorem Cs.fz (c : Cs K T σ ρ w) {fp : List Addr} (h : ∀ a ∈ fp, w.F a = none) (o1 : ∀ a ∈ fp, Own1 (w.H a)) (n : Ap w fp) : Cs K T σ ρ (w.fz fp) := by
  refine ⟨c.len, fun i o e => ?_, c.no, c.sep, fun a u r => ?_, c.tb⟩
  · obtain ⟨v, h1, h2⟩ := c.sl i o e
    refine ⟨v, h1, h2.frame (frz_sub h) (fun _ _ _ e => e) fun a z => ⟨rfl, ?_⟩⟩
    show frz w.F w.H fp a = none
    rw [frz_out fun y => n a y ⟨i, z⟩]
    exact (h2.at a z).1
  · by_cases q : a ∈ fp
    · have e : w.H a = some u := (frz_in q).symm.trans r
      exact .inl ⟨e, own1_tbl (o1 a q) u e⟩
    · exact c.le a u ((frz_out q).symm.trans r)
theorem Lw.fz {w0 : Wl} (l : Lw w0 w) {fp : List Addr} (h : ∀ a ∈ fp, w.F a = none) (nw : Nw w0 fp) : Lw w0 (w.fz fp) := by
  refine ⟨l.keep, l.frz, l.alive, fun a u e => frz_sub h a u (l.le a u e), fun b e => ?_, l.newO⟩
  by_cases q : b ∈ fp
  · exact .inr (nw b q)
  · exact l.newF b (fun z => e ((frz_out q).trans z))
/-- one slot is told anew -/
def Wl.slot (w : Wl) (i : Nat) (fp : List Addr) : Wl := ⟨w.F, w.H, fun j => if j = i then fp else w.fp j⟩
theorem set_get {ρ : Env} {i j : Nat} {o : Option O} {p : O} (e : (ρ.set i o)[j]? = some (some p)) : (j = i ∧ o = some p) ∨ (j ≠ i ∧ ρ[j]? = some (some p)) := by
  by_cases q : i = j
  · subst q
    by_cases h : i < ρ.length
    · rw [List.getElem?_set_self h] at e
      exact .inl ⟨rfl, Option.some.inj e⟩
    · rw [List.getElem?_eq_none (by simpa using h)] at e
      cases e
  · rw [List.getElem?_set_ne q] at e
    exact .inr ⟨fun z => q z.symm, e⟩
/-- the slot i gets v, which stands for o -/
theorem Cs.set (c : Cs K T σ ρ w) {i : Nat} {v : V} {o : O} {fp : List Addr} (hi : i < ρ.length) (r : RpO K w.F w.H v o fp) (n : Ap w fp) : Cs K T (σ.set i (some v)) (ρ.set i (some o)) (w.slot i fp) := by
  have hσ : i < σ.length := by rw [c.len]; exact hi
  refine ⟨by rw [List.length_set, List.length_set]; exact c.len, fun j p e => ?_, fun j h => ?_, fun j k a h1 h2 => ?_, c.le, c.tb⟩
  · rcases set_get e with ⟨rfl, e'⟩ | ⟨q, e⟩
    · have e' := Option.some.inj e'
      subst e'
      exact ⟨v, List.getElem?_set_self hσ, by show RpO K w.F w.H v o (if j = j then fp else w.fp j); rw [if_pos rfl]; exact r⟩
    · obtain ⟨u, h1, h2⟩ := c.sl j p e
      exact ⟨u, by rw [List.getElem?_set_ne (Ne.symm q)]; exact h1, by show RpO K w.F w.H u p (if j = i then fp else w.fp j); rw [if_neg q]; exact h2⟩
  · show (if j = i then fp else w.fp j) = []
    by_cases q : j = i
    · subst q
      exact absurd (List.getElem?_set_self hi) (h o)
    · rw [if_neg q]
      exact c.no j fun p z => h p (by rw [List.getElem?_set_ne (Ne.symm q)]; exact z)
  · have h1 : a ∈ (if j = i then fp else w.fp j) := h1
    have h2 : a ∈ (if k = i then fp else w.fp k) := h2
    by_cases qj : j = i
    · by_cases qk : k = i
      · rw [qj, qk]
      · rw [if_pos qj] at h1
        rw [if_neg qk] at h2
        exact absurd ⟨k, h2⟩ (n a h1)
    · by_cases qk : k = i
      · rw [if_neg qj] at h1
        rw [if_pos qk] at h2
        exact absurd ⟨j, h1⟩ (n a h2)
      · rw [if_neg qj] at h1
        rw [if_neg qk] at h2
        exact c.sep j k a h1 h2
theorem Lw.slot {w0 : Wl} (l : Lw w0 w) {i : Nat} {fp : List Addr} (nw : Nw w0 fp) : Lw w0 (w.slot i fp) := by
  refine ⟨l.keep, l.frz, l.alive, l.le, l.newF, fun b ⟨j, h⟩ => ?_⟩
  have h : b ∈ (if j = i then fp else w.fp j) := h
  by_cases q : j = i
  · rw [if_pos q] at h; exact nw b h
  · rw [if_neg q] at h; exact l.newO b ⟨j, h⟩
/-- the slot's object is taken out -/
theorem Cs.out (c : Cs K T σ ρ w) {i : Nat} {o : O} (e : ρ[i]? = some (some o)) : ∃ v, σ[i]? = some (some v) ∧ RpO K w.F w.H v o (w.fp i) ∧ Cs K T σ (ρ.set i none) (w.slot i []) ∧ Ap (w.slot i []) (w.fp i) ∧ Nw w (w.fp i) := by
  obtain ⟨v, h1, h2⟩ := c.sl i o e
  refine ⟨v, h1, h2, ⟨by rw [List.length_set]; exact c.len, fun j p e => ?_, fun j h => ?_, fun j k a h1 h2 => ?_, c.le, c.tb⟩, fun a z ⟨j, q⟩ => ?_, fun a z => .inl ⟨i, z⟩⟩
  · rcases set_get e with ⟨_, e⟩ | ⟨q, e⟩
    · cases e
    · obtain ⟨u, h1, h2⟩ := c.sl j p e
      exact ⟨u, h1, by show RpO K w.F w.H u p (if j = i then [] else w.fp j); rw [if_neg q]; exact h2⟩
  · show (if j = i then [] else w.fp j) = []
    by_cases q : j = i
    · rw [if_pos q]
    · rw [if_neg q]
      exact c.no j fun p z => h p (by rw [List.getElem?_set_ne (Ne.symm q)]; exact z)
  · have h1 : a ∈ (if j = i then [] else w.fp j) := h1
    have h2 : a ∈ (if k = i then [] else w.fp k) := h2
    by_cases qj : j = i
    · rw [if_pos qj] at h1; cases h1
    · by_cases qk : k = i
      · rw [if_pos qk] at h2; cases h2
      · rw [if_neg qj] at h1
        rw [if_neg qk] at h2
        exact c.sep j k a h1 h2
  · have q : a ∈ (if j = i then [] else w.fp j) := q
    by_cases y : j = i
    · rw [if_pos y] at q; cases q
    · rw [if_neg y] at q
      exact y (c.sep j i a q z)
/-- slot i put back, its value as it stood -/
theorem Cs.back (c : Cs K T σ ρ w) {i : Nat} {v : V} {o : O} {fp : List Addr} (hi : i < ρ.length) (hv : σ[i]? = some (some v)) (r : RpO K w.F w.H v o fp) (n : Ap w fp) : Cs K T σ (ρ.set i (some o)) (w.slot i fp) := by
  have h := c.set hi r n
  have e : σ.set i (some v) = σ := by
    apply List.ext_getElem?
    intro j
    by_cases q : i = j
    · subst q
      rw [List.getElem?_set_self (by rw [c.len]; exact hi), hv]
    · rw [List.getElem?_set_ne q]
  rw [e] at h
  exact h
end
/-- a name: what it holds is frozen -/
def getD (i : Nat) : M D := fun ρ => match ρ[i]? with
  | some (some o) => if o.isScr = true then none else some (.ok o.view, ρ.set i (some (.dat o.view)))
  | _ => none
theorem frz_nil (F H : Hp) : frz F H [] = F := by
  funext b
  exact frz_out (by simp)
theorem Cs.freeze {K : PySem.W.Frag} {T : List (Addr × Str)} {σ : L2.St} {ρ : Env} {w : Wl} (c : Cs K T σ ρ w) {i : Nat} {o : O} (e : ρ[i]? = some (some o)) (ns : o.isScr = false) :
    ∃ w' v, w'.H = w.H ∧ Cs K T σ (ρ.set i (some (.dat o.view))) w' ∧ Lw w w' ∧ σ[i]? = some (some v) ∧ Rp K w'.F v o.view := by
  have hi : i < ρ.length := (List.getElem?_eq_some_iff.mp e).1
  obtain ⟨v, hv, r, c1, n, nw⟩ := c.out e
  have l1 : Lw w (w.slot i []) := (Lw.refl w).slot (fun a z => by cases z)
  have hF : ∀ a ∈ w.fp i, (w.slot i []).F a = none := fun a z => (r.at a z).1
  have c2 := c1.fz hF (fun a z => (r.at a z).2) n
  have l2 := l1.fz hF nw
  have r2 : Rp K ((w.slot i []).fz (w.fp i)).F v o.view := r.freeze ns
  have c3 := c2.back (i := i) (v := v) (o := .dat o.view) (fp := []) (by rw [List.length_set]; exact hi) hv (.dat r2) (fun a z => by cases z)
  rw [List.set_set] at c3
  exact ⟨((w.slot i []).fz (w.fp i)).slot i [], v, rfl, c3, l2.slot (fun a z => by cases z), hv, r2⟩
section
variable {X : Cx} {W : WX} {T : List (Addr × Str)}
theorem ev_name {i : Nat} {e : Expr} (h : PE X e (tVar i)) : EvD X W T e (getD i) := by
  refine ⟨PE.imp h fun σ H Q ⟨w, ρ, eH, c, r, ρ', e, co⟩ => ?_⟩
  subst eH
  unfold getD at e
  split at e
  · rename_i o q
    split at e
    · cases e
    · rename_i ns
      cases e
      obtain ⟨w', v, eH, c', l, hv, rp⟩ := c.freeze q (by simpa using ns)
      exact ⟨v, hv, by rw [← eH]; exact co w' l c' v rp⟩
  · cases e
theorem ev_const {e : Expr} {v : V} {d : D} (h : PE X e (tC v)) (r : ∀ F, Rp X.K F v d) : EvD X W T e (Pure.pure d) := by
  refine ⟨PE.imp h fun σ H Q ⟨w, ρ, eH, c, co⟩ => ?_⟩
  subst eH
  exact co.pure w (Lw.refl w) c v (r _)
/-- data as it may be owned -/
theorem EvD.o {e : Expr} {f : M D} (h : EvD X W T e f) : EvO X W T e (f >>= fun d => Pure.pure (.dat d)) := by
  refine ⟨PE.imp h.pe fun σ H Q ⟨w, ρ, eH, c, co⟩ => ?_⟩
  subst eH
  refine ⟨w, ρ, rfl, c, co.bind.mono fun d ρ1 w1 l1 c1 k v r => ?_⟩
  exact k.pure w1 l1 c1 v [] (.dat r) (fun a z => by cases z) (fun a z => by cases z)
/-- what is owned by nobody is frozen -/
theorem EvO.d {e : Expr} {f : M O} (h : EvO X W T e f) : EvD X W T e (f >>= fun o => guardM (!o.isScr) >>= fun _ => Pure.pure o.view) := by
  refine ⟨PE.imp h.pe fun σ H Q ⟨w, ρ, eH, c, co⟩ => ?_⟩
  subst eH
  refine ⟨w, ρ, rfl, c, co.bind.mono fun o ρ1 w1 l1 c1 k v fp r ap nw => ?_⟩
  have hF : ∀ a ∈ fp, w1.F a = none := fun a z => (r.at a z).1
  obtain ⟨ns, k⟩ := k.guard_bind' l1 c1
  exact k.pure (w1.fz fp) (l1.fz hF nw) (c1.fz hF (fun a z => (r.at a z).2) ap) v (r.freeze (by simpa using ns))
end
end Sh
set_option Elab.async false
set_option linter.all false
set_option maxRecDepth 100000
set_option maxHeartbeats 2000000
/-! Sh, part C: operators, by values. -/
namespace Sh
open PySem PySem.Spec PyProof.Rows L2

section
variable (K : PySem.W.Frag) (T : List (Addr × Str)) (σ : L2.St) (ρ : Env)
def Kon (w : Wl) (o : O) (Q : VK) : Prop := ∀ w' v fp, Lw w w' → Cs K T σ ρ w' → RpO K w'.F w'.H v o fp → Ap w' fp → Nw w fp → Q v w'.H
end
section
variable {K : PySem.W.Frag} {T : List (Addr × Str)} {σ : L2.St} {ρ : Env} {w : Wl} {Q : VK}
theorem Kon.dat {d : D} {v : V} (k : Kon K T σ ρ w (.dat d) Q) (c : Cs K T σ ρ w) (r : Rp K w.F v d) : Q v w.H := k w v [] (Lw.refl w) c (.dat r) (fun a z => by cases z) (fun a z => by cases z)
theorem Kon.tup {ds : List D} {xs : List V} (k : Kon K T σ ρ w (.dat (.tuple ds)) Q) (c : Cs K T σ ρ w) (r : RpA K w.F xs ds) : NewT w.H xs Q := fun p o h hd => by
  obtain ⟨c', l⟩ := c.al (u := .frz o (.tup xs)) h
  exact k _ (.ref p) [] l c' (.dat (.tup ⟨o, upd_same, hd⟩ (RpA.mono' l.le r))) (fun a z => by cases z) (fun a z => by cases z)
theorem Cs.new1 (c : Cs K T σ ρ w) {p : Addr} {u : HO} (h : w.H p = none) : Ap (w.al0 p u) [p] ∧ Nw w [p] ∧ (w.al0 p u).F p = none := by
  refine ⟨fun a z => ?_, fun a z => ?_, (c.fresh h).1⟩
  · rw [List.mem_singleton.mp z]
    exact (c.fresh h).2
  · rw [List.mem_singleton.mp z]
    exact .inr (.inl h)
theorem Kon.lst {ds : List D} {xs : List V} (k : Kon K T σ ρ w (.lst ds) Q) (c : Cs K T σ ρ w) (r : RpA K w.F xs ds) : ∀ p, w.H p = none → Q (.ref p) (upd w.H p (.lst xs)) := fun p h => by
  obtain ⟨c', l⟩ := c.al0 (u := .lst xs) h
  obtain ⟨h1, h2, h3⟩ := c.new1 (u := .lst xs) h
  exact k _ (.ref p) [p] l c' (.lst h3 upd_same (RpA.mono' l.le r)) h1 h2
theorem Kon.dic {ds : List (Key × D)} {xs : List (Key × V)} (k : Kon K T σ ρ w (.dic ds) Q) (c : Cs K T σ ρ w) (r : RpD K w.F xs ds) : ∀ p, w.H p = none → Q (.ref p) (upd w.H p (.dK xs)) := fun p h => by
  obtain ⟨c', l⟩ := c.al0 (u := .dK xs) h
  obtain ⟨h1, h2, h3⟩ := c.new1 (u := .dK xs) h
  exact k _ (.ref p) [p] l c' (.dic h3 upd_same (RpD.mono l.le r)) h1 h2
end
/-- an operator by values: g tells what comes -/
def OpV (X : Cx) (T : List (Addr × Str)) (r : R2) (g : D → D → Option O) : Prop :=
  ∀ (σ : L2.St) (ρ : Env) (w : Wl) (x y : V) (d e : D) (o : O) (Q : VK), Cs X.K T σ ρ w → Rp X.K w.F x d → Rp X.K w.F y e → g d e = some o → Kon X.K T σ ρ w o Q → r x y w.H Q
section
variable {X : Cx} {W : WX} {T : List (Addr × Str)} {a b : Expr} {pos : Pos}
theorem ev_bin {op : Operator} {r : R2} {g : D → D → Option O} {fa fb : M D} (ho : OpR X (binaryOp op) r) (hv : OpV X T r g) (ha : EvD X W T a fa) (hb : EvD X W T b fb) :
    EvO X W T (.BinOp a op b pos) (fa >>= fun x => fb >>= fun y => lift (g x y)) := by
  refine ⟨PE.imp (pe_op ho ha.pe hb.pe) fun σ H Q ⟨w, ρ, eH, c, co⟩ => ?_⟩
  subst eH
  refine ⟨w, ρ, rfl, c, co.bind.mono fun d ρ1 w1 l1 c1 k v r => ?_⟩
  refine ⟨w1, ρ1, rfl, c1, (k.base l1).bind.mono fun e ρ2 w2 l2 c2 k2 u r2 => ?_⟩
  obtain ⟨o, eo, k2⟩ := k2.lift
  exact hv σ ρ2 w2 v u d e o Q c2 (Rp.mono' l2.le r) r2 eo fun w' v' fp l c' rp ap nw => k2 w' (l2.trans l) c' v' fp rp ap ((l1.trans l2).nw nw)
/-- an operator whose answer is a truth value -/
theorem ev_cmp {op : CmpOp} {r : R2} {g : D → D → Option Bool} {fa fb : M D} (ho : OpR X (compareOp op) r) (hv : OpV X T r fun d e => (g d e).map fun k => .dat (.bool k)) (hm : behindInMarks op b = false) (ha : EvD X W T a fa) (hb : EvD X W T b fb) :
    EvD X W T (.Compare a [op] [b] pos) (fa >>= fun x => fb >>= fun y => lift (g x y) >>= fun k => Pure.pure (.bool k)) := by
  refine ⟨PE.imp (pe_cmpR ho ha.pe hb.pe hm) fun σ H Q ⟨w, ρ, eH, c, co⟩ => ?_⟩
  subst eH
  refine ⟨w, ρ, rfl, c, co.bind.mono fun d ρ1 w1 l1 c1 k v r => ?_⟩
  refine ⟨w1, ρ1, rfl, c1, (k.base l1).bind.mono fun e ρ2 w2 l2 c2 k2 u r2 => ?_⟩
  obtain ⟨o, eo, k2⟩ := k2.lift_bind'
  refine hv σ ρ2 w2 v u d e (.dat (.bool o)) Q c2 (Rp.mono' l2.le r) r2 (by show (g d e).map _ = _; rw [eo]; rfl) fun w' v' fp l c' rp ap nw => ?_
  cases rp with
  | dat rp => exact k2.pure w' (l2.trans l) c' v' rp
/-- .. as a test -/
theorem et_cmp {op : CmpOp} {r : R2} {g : D → D → Option Bool} {fa fb : M D} (ho : OpR X (compareOp op) r) (hv : OpV X T r fun d e => (g d e).map fun k => .dat (.bool k)) (hm : behindInMarks op b = false) (ha : EvD X W T a fa) (hb : EvD X W T b fb) :
    EvT X W T (.Compare a [op] [b] pos) (fa >>= fun x => fb >>= fun y => lift (g x y)) := by
  refine ⟨PT.imp (pt_cmpR ho ha.pe hb.pe hm) fun σ H Q ⟨w, ρ, eH, c, co⟩ => ?_⟩
  subst eH
  refine ⟨w, ρ, rfl, c, co.bind.mono fun d ρ1 w1 l1 c1 k v r => ?_⟩
  refine ⟨w1, ρ1, rfl, c1, (k.base l1).bind.mono fun e ρ2 w2 l2 c2 k2 u r2 => ?_⟩
  obtain ⟨o, eo, k2⟩ := k2.lift
  refine hv σ ρ2 w2 v u d e (.dat (.bool o)) _ c2 (Rp.mono' l2.le r) r2 (by show (g d e).map _ = _; rw [eo]; rfl) fun w' v' fp l c' rp ap nw => ?_
  cases rp with
  | dat rp =>
    cases rp
    exact ⟨o, rfl, k2 w' (l2.trans l) c'⟩
theorem OpV.or_left {r r' : R2} {g : D → D → Option O} (h : OpV X T r g) : OpV X T (fun x y H Q => r x y H Q ∨ r' x y H Q) g := fun σ ρ w x y d e o Q c h1 h2 h3 k => .inl (h σ ρ w x y d e o Q c h1 h2 h3 k)
theorem OpV.or_right {r r' : R2} {g : D → D → Option O} (h : OpV X T r' g) : OpV X T (fun x y H Q => r x y H Q ∨ r' x y H Q) g := fun σ ρ w x y d e o Q c h1 h2 h3 k => .inr (h σ ρ w x y d e o Q c h1 h2 h3 k)

/-! ### + -/
def addO : D → D → Option O
  | .int i, .int j => some (.dat (.int (i + j)))
  | .str x, .str y => if x.length + y.length ≤ sizeLine then some (.dat (.str (x ++ y))) else none
  | .tuple xs, .tuple ys => if xs.length + ys.length ≤ sizeLine then some (.dat (.tuple (xs ++ ys))) else none
  | .list xs, .list ys => if xs.length + ys.length ≤ sizeLine then some (.lst (xs ++ ys)) else none
  | _, _ => none
def rAddS : R2 := fun x y H Q => ∃ i j, x = .str i ∧ y = .str j ∧ i.length + j.length ≤ sizeLine ∧ Q (.str (i ++ j)) H
def rAdd (K : PySem.W.Frag) : R2 := fun x y H Q => ((rI0 fun i j => .int (i + j)) x y H Q ∨ rAddS x y H Q) ∨ (rCatZ K x y H Q ∨ rCat x y H Q)
theorem opr_add : OpR X (binaryOp .Add) (rAdd X.K) := OpR.or (OpR.or op_add op_add_str) (OpR.or op_catZ op_cat)
theorem opv_add : OpV X T (rAdd X.K) addO := by
  intro σ ρ w x y d e o Q c h1 h2 h3 k
  unfold addO at h3
  split at h3
  · cases h3; cases h1; cases h2
    exact .inl (.inl ⟨_, _, rfl, rfl, k.dat c (.int _)⟩)
  · split at h3
    · rename_i hl
      cases h3; cases h1; cases h2
      exact .inl (.inr ⟨_, _, rfl, rfl, hl, k.dat c (.str _)⟩)
    · cases h3
  · split at h3
    · rename_i hl
      cases h3
      cases h1 with
      | @tup a xs _ ha ra =>
        cases h2 with
        | @tup b ys _ hb rb =>
          refine .inr (.inl ⟨a, b, xs, ys, rfl, rfl, c.tupS ha, c.tupS hb, by rw [ra.length, rb.length]; exact hl, fun e => ?_, fun _ e => ?_, fun _ _ => k.tup c (ra.append rb)⟩)
          · subst e
            cases ra
            exact k.dat c (.tup hb rb)
          · subst e
            cases rb
            refine k.dat c ?_
            rw [List.append_nil]
            exact .tup ha ra
    · cases h3
  · split at h3
    · rename_i hl
      cases h3
      cases h1 with
      | @lst a xs _ ha ra =>
        cases h2 with
        | @lst b ys _ hb rb =>
          exact .inr (.inr ⟨a, b, xs, ys, rfl, rfl, c.lstH ha, c.lstH hb, by rw [ra.length, rb.length]; exact hl, k.lst c (ra.append rb)⟩)
    · cases h3
  · cases h3
/-! ### the other operators of ints -/
theorem opv_int {C : Int → Int → Prop} {g : Int → Int → V} {f : D → D → Option O} (h : ∀ d e o, f d e = some o → ∃ i j z, d = .int i ∧ e = .int j ∧ C i j ∧ o = .dat z ∧ ∀ F, Rp X.K F (g i j) z) : OpV X T (rI C g) f := by
  intro σ ρ w x y d e o Q c h1 h2 h3 k
  obtain ⟨i, j, z, rfl, rfl, hc, rfl, r⟩ := h d e o h3
  cases h1; cases h2
  exact ⟨i, j, rfl, rfl, hc, k.dat c (r _)⟩
theorem opv_int0 {g : Int → Int → V} {f : D → D → Option O} (h : ∀ d e o, f d e = some o → ∃ i j z, d = .int i ∧ e = .int j ∧ o = .dat z ∧ ∀ F, Rp X.K F (g i j) z) : OpV X T (rI0 g) f := by
  intro σ ρ w x y d e o Q c h1 h2 h3 k
  obtain ⟨i, j, z, rfl, rfl, rfl, r⟩ := h d e o h3
  cases h1; cases h2
  exact ⟨i, j, rfl, rfl, k.dat c (r _)⟩
def subO : D → D → Option O
  | .int i, .int j => some (.dat (.int (i - j)))
  | _, _ => none
theorem opv_sub : OpV X T (rI0 fun i j => .int (i - j)) subO := opv_int0 fun d e o h => by
  unfold subO at h
  split at h
  · cases h; exact ⟨_, _, _, rfl, rfl, rfl, fun _ => .int _⟩
  · cases h
def divO : D → D → Option O
  | .int i, .int j => if j ≠ 0 ∧ j.natAbs < 1073741824 then some (.dat (.int (i.fdiv j))) else none
  | _, _ => none
theorem opv_div : OpV X T (rI CDivN fun i j => .int (i.fdiv j)) divO := opv_int fun d e o h => by
  unfold divO at h
  split at h
  · split at h
    · rename_i hc
      cases h; exact ⟨_, _, _, rfl, rfl, hc, rfl, fun _ => .int _⟩
    · cases h
  · cases h
def modO : D → D → Option O
  | .int i, .int j => if j ≠ 0 then some (.dat (.int (i.fmod j))) else none
  | _, _ => none
theorem opv_mod : OpV X T (rI (fun _ j => j ≠ 0) fun i j => .int (i.fmod j)) modO := opv_int fun d e o h => by
  unfold modO at h
  split at h
  · split at h
    · rename_i hc
      cases h; exact ⟨_, _, _, rfl, rfl, hc, rfl, fun _ => .int _⟩
    · cases h
  · cases h
instance (i j : Int) : Decidable (CPow i j) := by unfold CPow; infer_instance
instance (i j : Int) : Decidable (CMul i j) := by unfold CMul; infer_instance
def powO : D → D → Option O
  | .int i, .int j => if CPow i j then some (.dat (.int (i ^ j.toNat))) else none
  | _, _ => none
theorem opv_pow : OpV X T (rI CPow fun i j => .int (i ^ j.toNat)) powO := opv_int fun d e o h => by
  unfold powO at h
  split at h
  · split at h
    · rename_i hc
      cases h; exact ⟨_, _, _, rfl, rfl, hc, rfl, fun _ => .int _⟩
    · cases h
  · cases h
/-! ### * -/
def mulO : D → D → Option O
  | .int i, .int j => if CMul i j then some (.dat (.int (i * j))) else none
  | .list xs, .int k => if -(2 ^ 63) ≤ k ∧ k < 2 ^ 63 ∧ xs.length * k.toNat ≤ sizeLine then some (.lst (List.replicate k.toNat xs).flatten) else none
  | .tuple xs, .int k => if xs ≠ [] ∧ 0 ≤ k ∧ k ≤ 1000 ∧ xs.length ≤ 1000 then some (.dat (.tuple (List.replicate k.toNat xs).flatten)) else none
  | _, _ => none
def rMulA (K : PySem.W.Frag) : R2 := fun x y H Q => ((rI CMul fun i j => .int (i * j)) x y H Q ∨ rRep x y H Q) ∨ (rRepZ K x y H Q ∨ rRep1 K x y H Q)
theorem opr_mul : OpR X (binaryOp .Mult) (rMulA X.K) := OpR.or (OpR.or op_mul op_rep) (OpR.or op_repZ op_rep1)
theorem RpA.ne_nil {K : PySem.W.Frag} {F : Hp} {vs : List V} {ds : List D} (h : RpA K F vs ds) (n : ds ≠ []) : vs ≠ [] := by
  cases h with
  | nil => exact absurd rfl n
  | cons _ _ => simp
theorem opv_mul : OpV X T (rMulA X.K) mulO := by
  intro σ ρ w x y d e o Q c h1 h2 h3 k
  unfold mulO at h3
  split at h3
  · split at h3
    · rename_i hc
      cases h3; cases h1; cases h2
      exact .inl (.inl ⟨_, _, rfl, rfl, hc, k.dat c (.int _)⟩)
    · cases h3
  · split at h3
    · rename_i hc
      cases h3; cases h2
      cases h1 with
      | @lst a xs _ ha ra =>
        exact .inl (.inr ⟨a, _, xs, rfl, rfl, c.lstH ha, hc.1, hc.2.1, by rw [ra.length]; exact hc.2.2, k.lst c (ra.replicate _)⟩)
    · cases h3
  · rename_i ys z
    split at h3
    · rename_i hc
      cases h3; cases h2
      cases h1 with
      | @tup a xs _ ha ra =>
        obtain ⟨hn, hz0, hz1, hl⟩ := hc
        by_cases z1 : z = 1
        · subst z1
          refine .inr (.inr ⟨a, xs, rfl, rfl, c.tupS ha, k.dat c ?_⟩)
          have e : (List.replicate (1 : Int).toNat ys).flatten = ys := by simp
          rw [e]
          exact .tup ha ra
        · exact .inr (.inl ⟨a, z, xs, rfl, rfl, c.tupS ha, ra.ne_nil hn, hz0, z1, hz1, by rw [ra.length]; exact hl, k.tup c (ra.replicate _)⟩)
    · cases h3
  · cases h3
end
end Sh
set_option Elab.async false
set_option linter.all false
set_option maxRecDepth 100000
set_option maxHeartbeats 2000000
/-! Sh, part D: comparisons, truth, subscripts. -/
namespace Sh
open PySem PySem.Spec PyProof.Rows L2
section
variable {K : PySem.W.Frag} {T : List (Addr × Str)} {σ : L2.St} {ρ : Env} {w : Wl}
mutual
theorem Rp.dp (c : Cs K T σ ρ w) : ∀ (d : D) (v : V), d.canLay0 = true → Rp K w.F v d → Dp K w.H v d
  | .none, _, _, h => by cases h; exact .non
  | .bool b, _, _, h => by cases h; exact .bl b
  | .int i, _, _, h => by cases h; exact .int i
  | .str x, _, _, h => by cases h; exact .str x
  | .list ds, _, e, h => by
    cases h with
    | lst h1 h2 => exact .lst (SqL.of (c.lstH h1)) (RpA.dp c ds _ (by simpa [PyData.canLay0] using e) h2)
  | .tuple ds, _, e, h => by
    cases h with
    | tup h1 h2 => exact .tup (c.tupS h1) (RpA.dp c ds _ (by simpa [PyData.canLay0] using e) h2)
  | .dict kds, _, e, _ => absurd e (by simp [PyData.canLay0])
theorem RpA.dp (c : Cs K T σ ρ w) : ∀ (ds : List D) (vs : List V), PyData.canLayAll0 ds = true → RpA K w.F vs ds → DpAll K w.H vs ds
  | [], _, _, h => by cases h; exact .nil
  | d :: ds, _, e, h => by
    have e' : d.canLay0 = true ∧ PyData.canLayAll0 ds = true := by simpa [PyData.canLayAll0] using e
    cases h with
    | cons h1 h2 => exact .cons (Rp.dp c d _ e'.1 h1) (RpA.dp c ds _ e'.2 h2)
end
end
section
variable {X : Cx} {W : WX} {T : List (Addr × Str)} {a b : Expr} {pos : Pos}
/-! ### ==, != -/
def eqB (d e : D) : Option Bool := if SeqAt.shaped d = true ∧ SeqAt.shaped e = true then some (PyData.eqv d e) else none
def neB (d e : D) : Option Bool := (eqB d e).map (!·)
abbrev asO (g : D → D → Option Bool) (d e : D) : Option O := (g d e).map fun k => .dat (.bool k)
theorem opv_eq : OpV X T (rEqD X.K) (asO eqB) := by
  intro σ ρ w x y d e o Q c h1 h2 h3 k
  simp only [asO, eqB] at h3
  split at h3
  · rename_i hs
    cases h3
    exact ⟨d, e, h1.dp c d x (SeqAt.canLay_of_shaped hs.1), h2.dp c e y (SeqAt.canLay_of_shaped hs.2), hs.1, hs.2, k.dat c (.bl _)⟩
  · cases h3
theorem opv_ne : OpV X T (rNeD X.K) (asO neB) := by
  intro σ ρ w x y d e o Q c h1 h2 h3 k
  simp only [asO, neB, eqB] at h3
  split at h3
  · rename_i hs
    cases h3
    exact ⟨d, e, h1.dp c d x (SeqAt.canLay_of_shaped hs.1), h2.dp c e y (SeqAt.canLay_of_shaped hs.2), hs.1, hs.2, k.dat c (.bl _)⟩
  · cases h3
/-! ### < -/
def rLtD (K : PySem.W.Frag) : R2 := fun x y H Q => ∃ d e, Dp K H x d ∧ Dp K H y e ∧ PySem.W.alike d e = true ∧ d ≠ .none ∧ d.depth ≤ 64 ∧ Q (.bl (PySem.W.dataLt d e)) H
theorem op_ltD (hu : X.A.units + 64 < cLine) : OpR X (compareOp .Lt) (rLtD X.K) := by
  intro pins s σ H x y v u Q I rx ry h
  obtain ⟨d, e, hd, he, ha, hn, hz, q⟩ := h
  obtain ⟨as, r1⟩ := Dp.reads I d x v hd rx
  obtain ⟨bs, r2⟩ := Dp.reads I e y u he ry
  have hu2 : X.A.units + min d.depth e.depth < cLine := by
    have h2 : min d.depth e.depth ≤ d.depth := Nat.min_le_left _ _
    omega
  exact (PySem.W.rcLt_alike d e X.A s v u as bs r1 r2 ha hn hu2 X.prog X.w X.xe (EP X pins σ Q) ⟨.bl _, H, I, rfl, q⟩ : wpAny (model X.prog X.w) X.A (compareOp .Lt v u) (EP X pins σ Q) X.xe s)
instance : DecidablePred fun d : D => d = .none := fun d => by
  cases d with
  | none => exact isTrue rfl
  | _ => exact isFalse (fun z => nomatch z)
def isNone : D → Bool
  | .none => true
  | _ => false
def ltB (d e : D) : Option Bool := if d.canLay0 = true ∧ e.canLay0 = true ∧ PySem.W.alike d e = true ∧ isNone d = false ∧ d.depth ≤ 64 then some (PySem.W.dataLt d e) else none
theorem isNone_ne {d : D} (h : isNone d = false) : d ≠ .none := fun z => by subst z; cases h
theorem opv_lt : OpV X T (rLtD X.K) (asO ltB) := by
  intro σ ρ w x y d e o Q c h1 h2 h3 k
  simp only [asO, ltB] at h3
  split at h3
  · rename_i hs
    cases h3
    exact ⟨d, e, h1.dp c d x hs.1, h2.dp c e y hs.2.1, hs.2.2.1, isNone_ne hs.2.2.2.1, hs.2.2.2.2, k.dat c (.bl _)⟩
  · cases h3
/-! ### <=, >, >= of ints -/
def cmpI (p : Int → Int → Bool) : D → D → Option Bool
  | .int i, .int j => some (p i j)
  | _, _ => none
theorem opv_cmpI {p : Int → Int → Bool} : OpV X T (rI0 fun i j => .bl (p i j)) (asO (cmpI p)) := opv_int0 fun d e o h => by
  simp only [asO] at h
  cases d <;> cases e <;> simp only [cmpI, Option.map_none, Option.map_some, reduceCtorEq, Option.some.injEq] at h
  subst h
  exact ⟨_, _, _, rfl, rfl, rfl, fun _ => .bl _⟩
abbrev leB := cmpI fun i j => decide (i ≤ j)
abbrev gtB := cmpI fun i j => decide (j < i)
abbrev geB := cmpI fun i j => decide (j ≤ i)
/-! ### is, is not -/
def rIsA : R2 := fun x y H Q => (y = .non ∧ Q (.bl (decide (x = .non))) H) ∨ rIsB x y H Q
def rNotA : R2 := fun x y H Q => (y = .non ∧ Q (.bl (!decide (x = .non))) H) ∨ rNotB x y H Q
theorem op_isA : OpR X (compareOp .Is) rIsA := OpR.or op_isN op_isBl
theorem op_notA : OpR X (compareOp .IsNot) rNotA := OpR.or op_notN op_notBl
def isB : D → D → Option Bool
  | d, .none => some (isNone d)
  | .bool a, .bool b => some (decide (a = b))
  | _, _ => none
def notB (d e : D) : Option Bool := (isB d e).map (!·)
theorem isNone_iff {K : PySem.W.Frag} {F : Hp} {v : V} {d : D} (h : Rp K F v d) : decide (v = .non) = isNone d := by
  cases h <;> rfl
theorem opv_is : OpV X T rIsA (asO isB) := by
  intro σ ρ w x y d e o Q c h1 h2 h3 k
  simp only [asO] at h3
  unfold isB at h3
  split at h3
  · cases h3; cases h2
    exact .inl ⟨rfl, by rw [isNone_iff h1]; exact k.dat c (.bl _)⟩
  · cases h3; cases h1; cases h2
    exact .inr ⟨_, _, rfl, rfl, k.dat c (.bl _)⟩
  · cases h3
theorem opv_isnot : OpV X T rNotA (asO notB) := by
  intro σ ρ w x y d e o Q c h1 h2 h3 k
  simp only [asO] at h3
  unfold notB isB at h3
  split at h3
  · cases h3; cases h2
    exact .inl ⟨rfl, by rw [isNone_iff h1]; exact k.dat c (.bl _)⟩
  · cases h3; cases h1; cases h2
    exact .inr ⟨_, _, rfl, rfl, k.dat c (.bl _)⟩
  · cases h3
/-! ### dicts -/
def keyD : D → Option Key
  | .int i => some (.inl i)
  | .str x => some (.inr x)
  | _ => none
theorem keyD_kD (k : Key) : keyD (kD k) = some k := by cases k <;> rfl
theorem kD_of {d : D} {k : Key} (h : keyD d = some k) : d = kD k := by
  cases d <;> simp [keyD] at h <;> subst h <;> rfl
theorem keyD_v {K : PySem.W.Frag} {F : Hp} {v : V} {d : D} {k : Key} (h : keyD d = some k) (r : Rp K F v d) : v = kV k := by
  cases d <;> simp [keyD] at h <;> subst h <;> cases r <;> rfl
def dlook (kds : List (Key × D)) (k : Key) : Option D := (kds.find? fun p => decide (p.1 = k)).map (·.2)
def dval (kds : List (D × D)) (k : Key) : Option D := (kds.find? fun p => decide (keyD p.1 = some k)).map (·.2)
theorem dval_map (k : Key) : ∀ kds : List (Key × D), dval (kds.map fun p => (kD p.1, p.2)) k = dlook kds k
  | [] => rfl
  | p :: r => by
    have ih := dval_map k r
    unfold dval dlook at ih ⊢
    rw [List.map_cons, List.find?_cons, List.find?_cons]
    have e : decide (keyD (kD p.1) = some k) = decide (p.1 = k) := by rw [keyD_kD]; simp
    simp only [e]
    split
    · rfl
    · exact ih
theorem RpD.look {K : PySem.W.Frag} {F : Hp} {kvs : List (Key × V)} {kds : List (Key × D)} (h : RpD K F kvs kds) (k : Key) : (∀ d, dlook kds k = some d → ∃ v, valV kvs k = some v ∧ Rp K F v d) ∧ (dlook kds k = none → valV kvs k = none) := by
  induction h with
  | nil => exact ⟨fun d e => (by cases e), fun _ => rfl⟩
  | @cons k' v vs d ds r _ ih =>
    unfold dlook at ih ⊢
    by_cases q : k' = k
    · refine ⟨fun d' e => ⟨v, valV_pos q, ?_⟩, fun e => ?_⟩
      · rw [List.find?_cons, decide_eq_true q] at e
        cases e
        exact r
      · rw [List.find?_cons, decide_eq_true q] at e
        cases e
    · rw [List.find?_cons, decide_eq_false q]
      exact ⟨fun d' e => by rw [valV_neg q]; exact ih.1 d' e, fun e => by rw [valV_neg q]; exact ih.2 e⟩
def rInDk : R2 := fun x y H Q => ∃ a o, y = .ref a ∧ DGet H a x o ∧ Q (.bl o.isSome) H
def rNotInDk : R2 := fun x y H Q => ∃ a o, y = .ref a ∧ DGet H a x o ∧ Q (.bl (!o.isSome)) H
theorem op_inDk (hu : X.A.units + 1 < cLine) : OpR X (compareOp .In) rInDk := by
  intro pins s σ H x y v u Q I rx ry h
  obtain ⟨a, o, rfl, g, q⟩ := h
  obtain rfl : u = Value.ref a := ry
  exact d_in hu I g rx fun s' I' => ⟨.bl _, H, I', rfl, q⟩
theorem op_notInDk (hu : X.A.units + 1 < cLine) : OpR X (compareOp .NotIn) rNotInDk := by
  intro pins s σ H x y v u Q I rx ry h
  obtain ⟨a, o, rfl, g, q⟩ := h
  obtain rfl : u = Value.ref a := ry
  exact d_notIn hu I g rx fun s' I' => ⟨.bl _, H, I', rfl, q⟩
/-! ### in, not in -/
def flatD : D → Bool
  | .none => true
  | .bool _ => true
  | .int _ => true
  | .str _ => true
  | _ => false
theorem flat_iff {K : PySem.W.Frag} {F : Hp} {v : V} {d : D} (h : Rp K F v d) : flatV v = flatD d := by
  cases h <;> rfl
theorem eqv_flat {K : PySem.W.Frag} {F : Hp} {v u : V} {d e : D} (h : Rp K F v d) (g : Rp K F u e) (f : flatD d = true) (f2 : flatD e = true) : eqV v u = PyData.eqv d e := by
  cases h <;> first | (cases g <;> first | rfl | (simp [eqV, PyData.eqv]; done) | cases f2) | cases f
theorem flat_all {K : PySem.W.Frag} {F : Hp} : ∀ {vs : List V} {ds : List D}, RpA K F vs ds → vs.all flatV = ds.all flatD
  | _, _, .nil => rfl
  | _, _, .cons r t => by rw [List.all_cons, List.all_cons, flat_iff r, flat_all t]
theorem inV_eq {K : PySem.W.Frag} {F : Hp} {x : V} {d : D} (r : Rp K F x d) (f : flatD d = true) : ∀ {vs : List V} {ds : List D}, RpA K F vs ds → ds.all flatD = true → inV x vs = ds.any fun e => PyData.eqv e d
  | _, _, .nil, _ => rfl
  | _, _, .cons q t, h => by
    rw [List.all_cons, Bool.and_eq_true] at h
    have ih := inV_eq r f t h.2
    unfold inV at ih ⊢
    rw [List.any_cons, List.any_cons, ih, eqv_flat q r h.1 f]
def inB (d e : D) : Option Bool := match e with
  | .tuple es => if flatD d = true ∧ es.all flatD = true then some (es.any fun x => PyData.eqv x d) else none
  | .list es => if flatD d = true ∧ es.all flatD = true then some (es.any fun x => PyData.eqv x d) else none
  | .dict kds => (keyD d).map fun k => (dval kds k).isSome
  | .str z => match d with
    | .str x => if x.cps.size = 1 then some (decide ((x.cps.getD 0 0) ∈ z.cps.toList)) else none
    | _ => none
  | _ => none
def ninB (d e : D) : Option Bool := (inB d e).map (!·)
def rInS : R2 := fun x y H Q => ∃ (c : Nat) (z : Str), x = .str ⟨#[c]⟩ ∧ y = .str z ∧ Q (.bl (decide (c ∈ z.cps.toList))) H
def rNotInS : R2 := fun x y H Q => ∃ (c : Nat) (z : Str), x = .str ⟨#[c]⟩ ∧ y = .str z ∧ Q (.bl (!decide (c ∈ z.cps.toList))) H
def rInA (K : PySem.W.Frag) : R2 := fun x y H Q => rIn K false x y H Q ∨ (rInDk x y H Q ∨ rInS x y H Q)
def rNotInA (K : PySem.W.Frag) : R2 := fun x y H Q => rIn K true x y H Q ∨ (rNotInDk x y H Q ∨ rNotInS x y H Q)
theorem op_inA (hu : X.A.units + 1 < cLine) : OpR X (compareOp .In) (rInA X.K) := OpR.or op_in_seq (OpR.or (op_inDk hu) op_in_sign)
theorem op_notInA (hu : X.A.units + 1 < cLine) : OpR X (compareOp .NotIn) (rNotInA X.K) := OpR.or op_notIn_seq (OpR.or (op_notInDk hu) op_notIn_sign)
theorem one_sign {x : Str} (h : x.cps.size = 1) : x = ⟨#[x.cps.getD 0 0]⟩ := by
  obtain ⟨c⟩ := x
  congr 1
  apply Array.ext
  · simpa using h
  · intro i h1 h2
    have e : i = 0 := by
      have h3 : c.size = 1 := h
      omega
    subst e
    have h3 : 0 < c.size := by
      have h4 : c.size = 1 := h
      omega
    simp [Array.getD, h3]
theorem in_main {w : Wl} {σ : L2.St} {ρ : Env} {x y : V} {d e : D} {k : Bool} (c : Cs X.K T σ ρ w) (h1 : Rp X.K w.F x d) (h2 : Rp X.K w.F y e) (h3 : inB d e = some k) :
    (∃ p xs, y = .ref p ∧ (SqL X.K w.H p xs ∨ SqT X.K w.H p xs) ∧ flatV x = true ∧ xs.all flatV = true ∧ k = inV x xs) ∨ (∃ a o, y = .ref a ∧ DGet w.H a x o ∧ k = o.isSome) ∨ ∃ (c : Nat) (z : Str), x = .str ⟨#[c]⟩ ∧ y = .str z ∧ k = decide (c ∈ z.cps.toList) := by
  unfold inB at h3
  split at h3
  · split at h3
    · rename_i hf
      cases h3
      cases h2 with
      | @tup a xs _ ha ra =>
        exact .inl ⟨a, xs, rfl, .inr (c.tupS ha), by rw [flat_iff h1]; exact hf.1, by rw [flat_all ra]; exact hf.2, (inV_eq h1 hf.1 ra hf.2).symm⟩
    · cases h3
  · split at h3
    · rename_i hf
      cases h3
      cases h2 with
      | @lst a xs _ ha ra =>
        exact .inl ⟨a, xs, rfl, .inl (SqL.of (c.lstH ha)), by rw [flat_iff h1]; exact hf.1, by rw [flat_all ra]; exact hf.2, (inV_eq h1 hf.1 ra hf.2).symm⟩
    · cases h3
  · rename_i kds
    obtain ⟨q, e1, e2⟩ := Option.map_eq_some_iff.mp h3
    cases h2 with
    | @dic a kvs _ ha ra =>
      obtain ⟨es, r2, rfl⟩ := ra.rpD
      refine .inr (.inl ⟨a, valV kvs q, rfl, .inl ⟨kvs, q, c.dicH ha, keyD_v e1 h1, rfl⟩, ?_⟩)
      rw [← e2, dval_map]
      obtain ⟨l1, l2⟩ := r2.look q
      cases e : dlook es q with
      | none => rw [l2 e]; rfl
      | some d' =>
        obtain ⟨v, ev, _⟩ := l1 d' e
        rw [ev]
        rfl
  · split at h3
    · split at h3
      · rename_i hs
        cases h3
        cases h1; cases h2
        exact .inr (.inr ⟨_, _, by rw [← one_sign hs], rfl, rfl⟩)
      · cases h3
    · cases h3
  · cases h3
theorem opv_in : OpV X T (rInA X.K) (asO inB) := by
  intro σ ρ w x y d e o Q c h1 h2 h3 k
  obtain ⟨b, eb, eo⟩ := Option.map_eq_some_iff.mp h3
  subst eo
  have q := k.dat c (.bl b)
  rcases in_main c h1 h2 eb with ⟨p, xs, e1, e2, e3, e4, e5⟩ | ⟨a, ov, e1, e2, e3⟩ | ⟨ch, z, e1, e2, e3⟩
  · exact .inl ⟨p, xs, e1, e2, e3, e4, by rw [if_neg Bool.false_ne_true, ← e5]; exact q⟩
  · exact .inr (.inl ⟨a, ov, e1, e2, by rw [← e3]; exact q⟩)
  · exact .inr (.inr ⟨ch, z, e1, e2, by rw [← e3]; exact q⟩)
theorem opv_nin : OpV X T (rNotInA X.K) (asO ninB) := by
  intro σ ρ w x y d e o Q c h1 h2 h3 k
  obtain ⟨b, eb, eo⟩ := Option.map_eq_some_iff.mp h3
  subst eo
  obtain ⟨b', eb', rfl⟩ := Option.map_eq_some_iff.mp eb
  have q := k.dat c (.bl (!b'))
  rcases in_main c h1 h2 eb' with ⟨p, xs, e1, e2, e3, e4, e5⟩ | ⟨a, ov, e1, e2, e3⟩ | ⟨ch, z, e1, e2, e3⟩
  · exact .inl ⟨p, xs, e1, e2, e3, e4, by rw [if_pos rfl, ← e5]; exact q⟩
  · exact .inr (.inl ⟨a, ov, e1, e2, by rw [← e3]; exact q⟩)
  · exact .inr (.inr ⟨ch, z, e1, e2, by rw [← e3]; exact q⟩)
end
end Sh
set_option Elab.async false
set_option linter.all false
set_option maxRecDepth 100000
set_option maxHeartbeats 2000000
/-! Sh, part E: truth, and or not, displays, subscripts. -/
namespace Sh
open PySem PySem.Spec PyProof.Rows L2
section
variable {X : Cx} {W : WX} {T : List (Addr × Str)} {a b c : Expr} {pos : Pos} {rest : List Expr}
/-! ### truth -/
def truD : D → Option Bool
  | .none => some false
  | .bool b => some b
  | .int i => some (i != 0)
  | .str x => if x.length ≤ sizeLine then some ((x.length : Int) != 0) else none
  | .list xs => some (!xs.isEmpty)
  | .tuple xs => some (!xs.isEmpty)
  | .dict _ => none
theorem isEmpty_rp {K : PySem.W.Frag} {F : Hp} {vs : List V} {ds : List D} (h : RpA K F vs ds) : vs.isEmpty = ds.isEmpty := by cases h <;> rfl
theorem tru_rp {σ : L2.St} {ρ : Env} {w : Wl} {v : V} {d : D} {k : Bool} (c : Cs X.K T σ ρ w) (r : Rp X.K w.F v d) (h : truD d = some k) : TruV X.K v w.H k := by
  cases r with
  | non => cases h; rfl
  | bl b => cases h; rfl
  | int i => cases h; rfl
  | str x =>
    simp only [truD] at h
    split at h
    · rename_i q
      cases h
      exact ⟨q, rfl⟩
    · cases h
  | @lst a xs ds h1 h2 => cases h; exact .inl ⟨xs, SqL.of (c.lstH h1), by rw [isEmpty_rp h2]⟩
  | @tup a xs ds h1 h2 => cases h; exact .inr (.inl ⟨xs, c.tupS h1, by rw [isEmpty_rp h2]⟩)
  | dic h1 h2 => cases h
/-- an expression as a test -/
theorem EvD.t {f : M D} (h : EvD X W T a f) (he : ∀ whole, isTrue a X.env whole = (do let v ← whole; standAt a.pos; holding [v] (truthy v))) : EvT X W T a (f >>= fun d => lift (truD d)) := by
  refine ⟨PT.imp (pt_truth h.pe he) fun σ H Q ⟨w, ρ, eH, c, co⟩ => ?_⟩
  subst eH
  refine ⟨w, ρ, rfl, c, co.bind.mono fun d ρ1 w1 l1 c1 k v r => ?_⟩
  obtain ⟨b, eb, k⟩ := k.lift
  exact ⟨b, tru_rp c1 r eb, k w1 l1 c1⟩
/-! ### and, or, not -/
structure EvW (X : Cx) (W : WX) (T : List (Addr × Str)) (e : Expr) (f : M Bool) : Prop where
  pw : PW X e (tT X W T f)
theorem EvW.t {f : M Bool} (h : EvW X W T a f) : EvT X W T a f := ⟨h.pw.pt⟩
theorem et_and1 {f : M Bool} (h : EvT X W T a f) : EvW X W T (.BoolOp .And [a] pos) f := ⟨pw_and1 h.pt⟩
theorem et_or1 {f : M Bool} (h : EvT X W T a f) : EvW X W T (.BoolOp .Or [a] pos) f := ⟨pw_or1 h.pt⟩
def andM (f g : M Bool) : M Bool := f >>= fun x => if x = true then g else Pure.pure false
def orM (f g : M Bool) : M Bool := f >>= fun x => if x = true then Pure.pure true else g
theorem et_and {f g : M Bool} (ha : EvT X W T a f) (hb : EvW X W T (.BoolOp .And (b :: rest) pos) g) : EvW X W T (.BoolOp .And (a :: b :: rest) pos) (andM f g) := by
  refine ⟨PW.imp (pw_and ha.pt hb.pw) fun σ H Q ⟨w, ρ, eH, c, co⟩ => ?_⟩
  subst eH
  refine ⟨w, ρ, rfl, c, co.bind.mono fun x ρ1 w1 l1 c1 k => ?_⟩
  cases x with
  | true => exact iteT ⟨w1, ρ1, rfl, c1, k.base l1⟩
  | false => exact iteF (k.pure w1 l1 c1)
theorem et_or {f g : M Bool} (ha : EvT X W T a f) (hb : EvW X W T (.BoolOp .Or (b :: rest) pos) g) : EvW X W T (.BoolOp .Or (a :: b :: rest) pos) (orM f g) := by
  refine ⟨PW.imp (pw_or ha.pt hb.pw) fun σ H Q ⟨w, ρ, eH, c, co⟩ => ?_⟩
  subst eH
  refine ⟨w, ρ, rfl, c, co.bind.mono fun x ρ1 w1 l1 c1 k => ?_⟩
  cases x with
  | true => exact iteT (k.pure w1 l1 c1)
  | false => exact iteF ⟨w1, ρ1, rfl, c1, k.base l1⟩
theorem et_not {f : M Bool} (ha : EvT X W T a f) : EvT X W T (.UnaryOp .Not a pos) (f >>= fun x => Pure.pure (!x)) := by
  refine ⟨PT.imp (pt_not ha.pt) fun σ H Q ⟨w, ρ, eH, c, co⟩ => ?_⟩
  subst eH
  refine ⟨w, ρ, rfl, c, co.bind.mono fun x ρ1 w1 l1 c1 k => k.pure w1 l1 c1⟩
/-- as values: truth values -/
def boolD : D → Option Bool
  | .bool b => some b
  | _ => none
theorem boolD_v {K : PySem.W.Frag} {F : Hp} {v : V} {d : D} {k : Bool} (r : Rp K F v d) (h : boolD d = some k) : d = .bool k ∧ v = .bl k := by
  cases r <;> simp [boolD] at h
  subst h
  exact ⟨rfl, rfl⟩
theorem ev_one {op : BoolOp} {f : M D} (h : EvD X W T a f) : EvD X W T (.BoolOp op [a] pos) f := ⟨pe_one h.pe⟩
def andD (f g : M D) : M D := f >>= fun x => lift (boolD x) >>= fun k => if k = true then g else Pure.pure (.bool false)
def orD (f g : M D) : M D := f >>= fun x => lift (boolD x) >>= fun k => if k = true then Pure.pure (.bool true) else g
theorem ev_and {f g : M D} (ha : EvD X W T a f) (hb : EvD X W T (.BoolOp .And (b :: rest) pos) g) : EvD X W T (.BoolOp .And (a :: b :: rest) pos) (andD f g) := by
  refine ⟨PE.imp (pe_and ha.pe hb.pe) fun σ H Q ⟨w, ρ, eH, c, co⟩ => ?_⟩
  subst eH
  refine ⟨w, ρ, rfl, c, co.bind.mono fun x ρ1 w1 l1 c1 k v r => ?_⟩
  obtain ⟨z, ez, k⟩ := k.lift_bind'
  obtain ⟨rfl, rfl⟩ := boolD_v r ez
  refine ⟨z, rfl, ?_⟩
  cases z with
  | true => exact iteT ⟨w1, ρ1, rfl, c1, k.base l1⟩
  | false => exact iteF (k.pure w1 l1 c1 (.bl false) (.bl false))
theorem ev_or {f g : M D} (ha : EvD X W T a f) (hb : EvD X W T (.BoolOp .Or (b :: rest) pos) g) : EvD X W T (.BoolOp .Or (a :: b :: rest) pos) (orD f g) := by
  refine ⟨PE.imp (pe_or ha.pe hb.pe) fun σ H Q ⟨w, ρ, eH, c, co⟩ => ?_⟩
  subst eH
  refine ⟨w, ρ, rfl, c, co.bind.mono fun x ρ1 w1 l1 c1 k v r => ?_⟩
  obtain ⟨z, ez, k⟩ := k.lift_bind'
  obtain ⟨rfl, rfl⟩ := boolD_v r ez
  refine ⟨z, rfl, ?_⟩
  cases z with
  | true => exact iteT (k.pure w1 l1 c1 (.bl true) (.bl true))
  | false => exact iteF ⟨w1, ρ1, rfl, c1, k.base l1⟩
theorem ev_not {f : M D} (ha : EvD X W T a f) : EvD X W T (.UnaryOp .Not a pos) (f >>= fun x => lift (boolD x) >>= fun k => Pure.pure (.bool (!k))) := by
  refine ⟨PE.imp (pe_not ha.pe) fun σ H Q ⟨w, ρ, eH, c, co⟩ => ?_⟩
  subst eH
  refine ⟨w, ρ, rfl, c, co.bind.mono fun x ρ1 w1 l1 c1 k v r => ?_⟩
  obtain ⟨z, ez, k⟩ := k.lift_bind'
  obtain ⟨rfl, rfl⟩ := boolD_v r ez
  exact ⟨z, rfl, k.pure w1 l1 c1 _ (.bl _)⟩
def iteM {α : Type} (f : M Bool) (g h : M α) : M α := f >>= fun x => if x = true then g else h
theorem ev_if {ft : M Bool} {f g : M D} (hc : EvT X W T c ft) (ha : EvD X W T a f) (hb : EvD X W T b g) : EvD X W T (.IfExp c a b pos) (iteM ft f g) := by
  refine ⟨PE.imp (pe_ifExp hc.pt ha.pe hb.pe) fun σ H Q ⟨w, ρ, eH, c, co⟩ => ?_⟩
  subst eH
  refine ⟨w, ρ, rfl, c, co.bind.mono fun x ρ1 w1 l1 c1 k => ?_⟩
  cases x with
  | true => exact iteT ⟨w1, ρ1, rfl, c1, k.base l1⟩
  | false => exact iteF ⟨w1, ρ1, rfl, c1, k.base l1⟩
theorem Co.baseO {α : Type} {f : M α} {σ : L2.St} {w w1 : Wl} {ρ : Env} {g : α → O} {Q : VK} (l : Lw w w1) (h : Co X W T f σ w ρ fun o _ w' => ∀ v fp, RpO X.K w'.F w'.H v (g o) fp → Ap w' fp → Nw w fp → Q v w'.H) :
    Co X W T f σ w1 ρ fun o _ w' => ∀ v fp, RpO X.K w'.F w'.H v (g o) fp → Ap w' fp → Nw w1 fp → Q v w'.H := (h.base l).mono fun o ρ' w' _ _ k v fp r ap nw => k v fp r ap (l.nw nw)
theorem eo_if {ft : M Bool} {f g : M O} (hc : EvT X W T c ft) (ha : EvO X W T a f) (hb : EvO X W T b g) : EvO X W T (.IfExp c a b pos) (iteM ft f g) := by
  refine ⟨PE.imp (pe_ifExp hc.pt ha.pe hb.pe) fun σ H Q ⟨w, ρ, eH, c, co⟩ => ?_⟩
  subst eH
  refine ⟨w, ρ, rfl, c, co.bind.mono fun x ρ1 w1 l1 c1 k => ?_⟩
  cases x with
  | true => exact iteT ⟨w1, ρ1, rfl, c1, Co.baseO (g := id) l1 k⟩
  | false => exact iteF ⟨w1, ρ1, rfl, c1, Co.baseO (g := id) l1 k⟩
def negD : D → Option D
  | .int i => some (.int (-i))
  | _ => none
theorem ev_neg {f : M D} (ha : EvD X W T a f) : EvD X W T (.UnaryOp .USub a pos) (f >>= fun x => lift (negD x)) := by
  refine ⟨PE.imp (pe_un un_neg ha.pe) fun σ H Q ⟨w, ρ, eH, c, co⟩ => ?_⟩
  subst eH
  refine ⟨w, ρ, rfl, c, co.bind.mono fun x ρ1 w1 l1 c1 k v r => ?_⟩
  obtain ⟨z, ez, k⟩ := k.lift
  cases x <;> simp [negD] at ez
  subst ez
  cases r
  exact ⟨_, rfl, k w1 l1 c1 _ (.int _)⟩
/-! ### a < b < c -/
def chainM (g g' : D → D → Option Bool) (fa fb fc : M D) : M Bool := fa >>= fun x => fb >>= fun y => lift (g x y) >>= fun k => if k = true then fc >>= fun z => lift (g' y z) else Pure.pure false
theorem et_chain {op op' : CmpOp} {r r' : R2} {g g' : D → D → Option Bool} {fa fb fc : M D} (ho : OpR X (compareOp op) r) (ho' : OpR X (compareOp op') r') (hv : OpV X T r (asO g)) (hv' : OpV X T r' (asO g'))
    (ha : EvD X W T a fa) (hb : EvD X W T b fb) (hc : EvD X W T c fc) (hm : lastMarks [op, op'] [b, c] = false) : EvT X W T (.Compare a [op, op'] [b, c] pos) (chainM g g' fa fb fc) := by
  refine ⟨PT.imp (pt_chain ho ho' ha.pe hb.pe hc.pe hm) fun σ H Q ⟨w, ρ, eH, c, co⟩ => ?_⟩
  subst eH
  refine ⟨w, ρ, rfl, c, co.bind.mono fun x ρ1 w1 l1 c1 k v r1 => ?_⟩
  refine ⟨w1, ρ1, rfl, c1, (k.base l1).bind.mono fun y ρ2 w2 l2 c2 k u r2 => ?_⟩
  obtain ⟨z, ez, k⟩ := k.lift_bind'
  refine hv σ ρ2 w2 v u x y (.dat (.bool z)) _ c2 (Rp.mono' l2.le r1) r2 (by show (g x y).map _ = _; rw [ez]; rfl) fun w3 v' fp l3 c3 rp ap nw => ?_
  cases rp with
  | dat rp =>
    cases rp
    refine ⟨z, rfl, ?_⟩
    cases z with
    | false => exact iteF ⟨false, rfl, k.pure w3 (l2.trans l3) c3⟩
    | true =>
      refine iteT ⟨w3, ρ2, rfl, c3, (k.base (l2.trans l3)).bind.mono fun q ρ4 w4 l4 c4 k t r4 => ?_⟩
      obtain ⟨z', ez', k⟩ := k.lift
      refine hv' σ ρ4 w4 u t y q (.dat (.bool z')) _ c4 (Rp.mono' (l3.trans l4).le r2) r4 (by show (g' y q).map _ = _; rw [ez']; rfl) fun w5 v'' fp' l5 c5 rp' ap' nw' => ?_
      cases rp' with
      | dat rp' =>
        cases rp'
        exact ⟨z', rfl, k w5 (l4.trans l5) c5⟩
theorem ev_chain {op op' : CmpOp} {r r' : R2} {g g' : D → D → Option Bool} {fa fb fc : M D} (ho : OpR X (compareOp op) r) (ho' : OpR X (compareOp op') r') (hv : OpV X T r (asO g)) (hv' : OpV X T r' (asO g'))
    (ha : EvD X W T a fa) (hb : EvD X W T b fb) (hc : EvD X W T c fc) (hm : lastMarks [op, op'] [b, c] = false) : EvD X W T (.Compare a [op, op'] [b, c] pos) (chainM g g' fa fb fc >>= fun k => Pure.pure (.bool k)) := by
  refine ⟨PE.imp (pe_chain ho ho' ha.pe hb.pe hc.pe hm) fun σ H Q ⟨w, ρ, eH, c, co⟩ => ?_⟩
  subst eH
  refine ⟨w, ρ, rfl, c, co.bind.bind.mono fun x ρ1 w1 l1 c1 k v r1 => ?_⟩
  refine ⟨w1, ρ1, rfl, c1, (k.base l1).bind.mono fun y ρ2 w2 l2 c2 k u r2 => ?_⟩
  obtain ⟨z, ez, k⟩ := k.lift_bind'
  refine hv σ ρ2 w2 v u x y (.dat (.bool z)) _ c2 (Rp.mono' l2.le r1) r2 (by show (g x y).map _ = _; rw [ez]; rfl) fun w3 v' fp l3 c3 rp ap nw => ?_
  cases rp with
  | dat rp =>
    cases rp
    refine ⟨z, rfl, ?_⟩
    cases z with
    | false => exact iteF ((k.pure w3 (l2.trans l3) c3).pure w3 ((l1.trans l2).trans l3) c3 _ (.bl _))
    | true =>
      refine iteT ⟨w3, ρ2, rfl, c3, (k.base (l2.trans l3)).bind.mono fun q ρ4 w4 l4 c4 k t r4 => ?_⟩
      obtain ⟨z', ez', k⟩ := k.lift
      refine hv' σ ρ4 w4 u t y q (.dat (.bool z')) Q c4 (Rp.mono' (l3.trans l4).le r2) r4 (by show (g' y q).map _ = _; rw [ez']; rfl) fun w5 v'' fp' l5 c5 rp' ap' nw' => ?_
      cases rp' with
      | dat rp' => exact (k w5 (l4.trans l5) c5).pure w5 ((((l1.trans l2).trans l3).trans l4).trans l5) c5 _ rp'
/-! ### arguments, displays -/
theorem ea_nil : EvA X W T [] (Pure.pure []) := by
  refine ⟨PA.imp pa_nil fun σ H Q ⟨w, ρ, eH, c, co⟩ => ?_⟩
  subst eH
  exact co.pure w (Lw.refl w) c [] .nil
def consM (f : M D) (g : M (List D)) : M (List D) := f >>= fun x => g >>= fun xs => Pure.pure (x :: xs)
theorem ea_cons {es : List Expr} {f : M D} {g : M (List D)} (ha : EvD X W T a f) (hr : EvA X W T es g) (hs : starEach (a :: es) X.env = (false, eval a X.env) :: starEach es X.env) : EvA X W T (a :: es) (consM f g) := by
  refine ⟨PA.imp (pa_cons ha.pe hr.pa hs) fun σ H Q ⟨w, ρ, eH, c, co⟩ => ?_⟩
  subst eH
  refine ⟨w, ρ, rfl, c, co.bind.mono fun x ρ1 w1 l1 c1 k v r1 => ?_⟩
  refine ⟨w1, ρ1, rfl, c1, (k.base l1).bind.mono fun xs ρ2 w2 l2 c2 k vs r2 => ?_⟩
  exact k.pure w2 l2 c2 (v :: vs) (.cons (Rp.mono' l2.le r1) r2)
/-- a continuation, from the base -/
theorem Co.kon {o : O} {σ : L2.St} {ρ : Env} {w0 w : Wl} {Q : VK} (l : Lw w0 w) (k : ∀ w', Lw w0 w' → Cs X.K T σ ρ w' → ∀ v fp, RpO X.K w'.F w'.H v o fp → Ap w' fp → Nw w0 fp → Q v w'.H) : Kon X.K T σ ρ w o Q :=
  fun w' v fp l' c' r ap nw => k w' (l.trans l') c' v fp r ap (l.nw nw)
theorem Co.konD {d : D} {σ : L2.St} {ρ : Env} {w0 w : Wl} {Q : VK} (l : Lw w0 w) (k : ∀ w', Lw w0 w' → Cs X.K T σ ρ w' → ∀ v, Rp X.K w'.F v d → Q v w'.H) : Kon X.K T σ ρ w (.dat d) Q :=
  fun w' v fp l' c' r ap nw => by
    cases r with
    | dat r => exact k w' (l.trans l') c' v r
def fitM (xs : List D) : M Unit := guardM (decide (xs.length ≤ sizeLine))
theorem ev_tup {es : List Expr} {k : Nat} {f : M (List D)} (h : EvA X W T es f) : EvD X W T (.Tuple es k pos) (f >>= fun xs => fitM xs >>= fun _ => Pure.pure (.tuple xs)) := by
  refine ⟨PE.imp (pe_tupZ h.pa) fun σ H Q ⟨w, ρ, eH, c, co⟩ => ?_⟩
  subst eH
  refine ⟨w, ρ, rfl, c, co.bind.mono fun xs ρ1 w1 l1 c1 k vs r1 => ?_⟩
  obtain ⟨hz, k⟩ := k.guard_bind' l1 c1
  exact ⟨by rw [r1.length]; exact of_decide_eq_true hz, (Co.konD l1 k.pure).tup c1 r1⟩
theorem eo_lst {es : List Expr} {f : M (List D)} (h : EvA X W T es f) : EvO X W T (.List es pos) (f >>= fun xs => fitM xs >>= fun _ => Pure.pure (.lst xs)) := by
  refine ⟨PE.imp (pe_lst h.pa) fun σ H Q ⟨w, ρ, eH, c, co⟩ => ?_⟩
  subst eH
  refine ⟨w, ρ, rfl, c, co.bind.mono fun xs ρ1 w1 l1 c1 k vs r1 => ?_⟩
  obtain ⟨hz, k⟩ := k.guard_bind' l1 c1
  exact ⟨by rw [r1.length]; exact of_decide_eq_true hz, (Co.kon l1 k.pure).lst c1 r1⟩
theorem eo_dic0 : EvO X W T (.Dict [] [] pos) (Pure.pure (.dic [])) := by
  refine ⟨PE.imp pe_dnewK fun σ H Q ⟨w, ρ, eH, c, co⟩ => ?_⟩
  subst eH
  exact (Co.kon (Lw.refl w) co.pure).dic c .nil
end
end Sh
set_option Elab.async false
set_option linter.all false
set_option maxRecDepth 100000
set_option maxHeartbeats 2000000
/-! Sh, part F: subscripts, slices. -/
namespace Sh
open PySem PySem.Spec PyProof.Rows L2
section
variable {X : Cx} {W : WX} {T : List (Addr × Str)} {a b c : Expr} {pos : Pos} {rest : List Expr}
/-! ### a[b] -/
def rIxDk : R2 := fun x y H Q => ∃ a v, x = .ref a ∧ DGet H a y (some v) ∧ Q v H
theorem ix_dk (hu : X.A.units + 1 < cLine) : IxR X rIxDk := by
  intro value slice pins s σ H x y v u Q I rx ry h hs
  obtain ⟨a, z, rfl, g, q⟩ := h
  obtain rfl : v = Value.ref a := rx
  exact tail_any (ops := [.ref a, u]) (dict_typeIs I g) PySem.F.slot_dict_getitem.lookup (d_getItem hu I g ry fun w' s' I' rw' => ⟨z, H, I', rw', q⟩) hs
def rIxA (K : PySem.W.Frag) : R2 := fun x y H Q => rIx K x y H Q ∨ rIxDk x y H Q
theorem ix_any (hu : X.A.units + 1 < cLine) : IxR X (rIxA X.K) := ix_seq.or (ix_dk hu)
def ixD (d k : D) : Option D := match d, k with
  | .tuple xs, .int i => atI xs i
  | .list xs, .int i => atI xs i
  | .str z, .int i => if z.length ≤ sizeLine then (atI z.cps.toList i).map fun c => .str ⟨#[c]⟩ else none
  | .dict kds, k => (keyD k).bind fun q => dval kds q
  | _, _ => none
def ixO (o : O) (k : D) : Option D := match o with
  | .dat d => ixD d k
  | .lst ds => (match k with
    | .int i => atI ds i
    | _ => none)
  | .dic kds => (keyD k).bind fun q => dlook kds q
  | _ => none
theorem atI_rp {K : PySem.W.Frag} {F : Hp} {vs : List V} {ds : List D} {i : Int} {d : D} (r : RpA K F vs ds) (h : atI ds i = some d) : ∃ v, atI vs i = some v ∧ Rp K F v d := by
  unfold atI at h ⊢
  rw [r.length]
  cases e : ixN ds.length i with
  | none => rw [e] at h; cases h
  | some j =>
    rw [e] at h
    exact r.get h
theorem ix_main {σ : L2.St} {ρ : Env} {w : Wl} {x y : V} {o : O} {k d : D} {fp : List Addr} (c : Cs X.K T σ ρ w) (h1 : RpO X.K w.F w.H x o fp) (h2 : Rp X.K w.F y k) (h3 : ixO o k = some d) :
    ∃ z, Rp X.K w.F z d ∧ ∀ Q : VK, Q z w.H → rIxA X.K x y w.H Q := by
  unfold ixO at h3
  split at h3
  · cases h1 with
    | dat h1 =>
      unfold ixD at h3
      split at h3
      · cases h2
        cases h1 with
        | @tup a xs _ ha ra =>
          obtain ⟨z, e, rz⟩ := atI_rp ra h3
          exact ⟨z, rz, fun Q q => .inl (.inr (.inl ⟨a, xs, _, z, rfl, rfl, c.tupS ha, e, q⟩))⟩
      · cases h2
        cases h1 with
        | @lst a xs _ ha ra =>
          obtain ⟨z, e, rz⟩ := atI_rp ra h3
          exact ⟨z, rz, fun Q q => .inl (.inl ⟨a, xs, _, z, rfl, rfl, SqL.of (c.lstH ha), e, q⟩)⟩
      · split at h3
        · rename_i hz
          obtain ⟨ch, e, ed⟩ := Option.map_eq_some_iff.mp h3
          subst ed
          cases h2; cases h1
          exact ⟨_, .str _, fun Q q => .inl (.inr (.inr ⟨_, _, ch, rfl, rfl, hz, e, q⟩))⟩
        · cases h3
      · obtain ⟨q, e1, e2⟩ := Option.bind_eq_some_iff.mp h3
        cases h1 with
        | @dic a kvs _ ha ra =>
          obtain ⟨es, r2, rfl⟩ := ra.rpD
          rw [dval_map] at e2
          obtain ⟨z, ez, rz⟩ := (r2.look q).1 d e2
          exact ⟨z, rz, fun Q qq => .inr ⟨a, z, rfl, .inl ⟨kvs, q, c.dicH ha, keyD_v e1 h2, ez.symm⟩, qq⟩⟩
      · cases h3
  · cases h1 with
    | @lst a xs _ hF hH ra =>
      split at h3
      · cases h2
        obtain ⟨z, e, rz⟩ := atI_rp ra h3
        exact ⟨z, rz, fun Q q => .inl (.inl ⟨a, xs, _, z, rfl, rfl, SqL.of hH, e, q⟩)⟩
      · cases h3
  · cases h1 with
    | @dic a kvs _ hF hH ra =>
      obtain ⟨q, e1, e2⟩ := Option.bind_eq_some_iff.mp h3
      obtain ⟨z, ez, rz⟩ := (ra.look q).1 d e2
      exact ⟨z, rz, fun Q qq => .inr ⟨a, z, rfl, .inl ⟨kvs, q, .inl hH, keyD_v e1 h2, ez.symm⟩, qq⟩⟩
  · cases h3
theorem ev_sub {f g : M D} (hu : X.A.units + 1 < cLine) (ha : EvD X W T a f) (hb : EvD X W T b g) (hs : PlainIx b) : EvD X W T (.Subscript a b pos) (f >>= fun d => g >>= fun k => lift (ixD d k)) := by
  refine ⟨PE.imp (pe_ix (ix_any hu) ha.pe hb.pe hs) fun σ H Q ⟨w, ρ, eH, c, co⟩ => ?_⟩
  subst eH
  refine ⟨w, ρ, rfl, c, co.bind.mono fun d ρ1 w1 l1 c1 k v r => ?_⟩
  refine ⟨w1, ρ1, rfl, c1, (k.base l1).bind.mono fun e ρ2 w2 l2 c2 k2 u r2 => ?_⟩
  obtain ⟨o, eo, k2⟩ := k2.lift
  obtain ⟨z, rz, q⟩ := ix_main (o := .dat d) c2 (.dat (Rp.mono' l2.le r)) r2 eo
  exact q Q (k2 w2 l2 c2 z rz)
/-- the slot is told -/
def chkN (i : Nat) : M Unit := fun ρ => match ρ[i]? with
  | some (some _) => some (.ok (), ρ)
  | _ => none
/-- what stands in the slot, as it is -/
def bor (i : Nat) : M O := fun ρ => match ρ[i]? with
  | some (some o) => some (.ok o, ρ)
  | _ => none
def O.isDil : O → Bool
  | .dil _ => true
  | _ => false
theorem chk_inv {i : Nat} {ρ : Env} {p : Ret Unit × Env} (h : chkN i ρ = some p) : ∃ o, ρ[i]? = some (some o) ∧ p = (.ok (), ρ) := by
  unfold chkN at h
  split at h
  · rename_i o q
    exact ⟨o, q, (Option.some.inj h).symm⟩
  · cases h
theorem bor_inv {i : Nat} {ρ : Env} {p : Ret O × Env} (h : bor i ρ = some p) : ∃ o, ρ[i]? = some (some o) ∧ p = (.ok o, ρ) := by
  unfold bor at h
  split at h
  · rename_i o q
    exact ⟨o, q, (Option.some.inj h).symm⟩
  · cases h
theorem getD_inv {i : Nat} {ρ : Env} {p : Ret D × Env} (h : getD i ρ = some p) : ∃ o, ρ[i]? = some (some o) ∧ o.isScr = false ∧ p = (.ok o.view, ρ.set i (some (.dat o.view))) := by
  unfold getD at h
  split at h
  · rename_i o q
    split at h
    · cases h
    · rename_i ns
      exact ⟨o, q, by simpa using ns, (Option.some.inj h).symm⟩
  · cases h
theorem bind_inv {α β : Type} {f : M α} {k : α → M β} {ρ : Env} {p : Ret β × Env} (h : (f >>= k) ρ = some p) : (∃ a ρ1, f ρ = some (.ok a, ρ1) ∧ k a ρ1 = some p) ∨ ∃ x ρ1, f ρ = some (.ex x, ρ1) ∧ p = (.ex x, ρ1) := by
  have e : M.bind f k ρ = some p := h
  unfold M.bind at e
  cases q : f ρ with
  | none => rw [q] at e; cases e
  | some y =>
    obtain ⟨r, ρ1⟩ := y
    rw [q] at e
    cases r with
    | ok a => exact .inl ⟨a, ρ1, rfl, e⟩
    | ex x => exact .inr ⟨x, ρ1, rfl, (Option.some.inj e).symm⟩
theorem Co.chk {β : Type} {i : Nat} {k : Unit → M β} {σ : L2.St} {w0 : Wl} {ρ : Env} {C : β → Env → Wl → Prop} (h : Co X W T (chkN i >>= k) σ w0 ρ C) : ∃ o, ρ[i]? = some (some o) ∧ Co X W T (k ()) σ w0 ρ C := by
  obtain ⟨r, ρ', e, h⟩ := h
  rcases bind_inv e with ⟨a, ρ1, e1, e2⟩ | ⟨x, ρ1, e1, _⟩
  · obtain ⟨o, q, e3⟩ := chk_inv e1
    cases e3
    exact ⟨o, q, r, ρ', e2, h⟩
  · obtain ⟨o, q, e3⟩ := chk_inv e1
    cases e3
theorem Co.bor {β : Type} {i : Nat} {k : O → M β} {σ : L2.St} {w0 : Wl} {ρ : Env} {C : β → Env → Wl → Prop} (h : Co X W T (Sh.bor i >>= k) σ w0 ρ C) : ∃ o, ρ[i]? = some (some o) ∧ Co X W T (k o) σ w0 ρ C := by
  obtain ⟨r, ρ', e, h⟩ := h
  rcases bind_inv e with ⟨a, ρ1, e1, e2⟩ | ⟨x, ρ1, e1, _⟩
  · obtain ⟨o, q, e3⟩ := bor_inv e1
    cases e3
    exact ⟨a, q, r, ρ', e2, h⟩
  · obtain ⟨o, q, e3⟩ := bor_inv e1
    cases e3
theorem Co.getD {β : Type} {i : Nat} {k : D → M β} {σ : L2.St} {w0 : Wl} {ρ : Env} {C : β → Env → Wl → Prop} (h : Co X W T (Sh.getD i >>= k) σ w0 ρ C) : ∃ o, ρ[i]? = some (some o) ∧ o.isScr = false ∧ Co X W T (k o.view) σ w0 (ρ.set i (some (.dat o.view))) C := by
  obtain ⟨r, ρ', e, h⟩ := h
  rcases bind_inv e with ⟨a, ρ1, e1, e2⟩ | ⟨x, ρ1, e1, _⟩
  · obtain ⟨o, q, ns, e3⟩ := getD_inv e1
    cases e3
    exact ⟨o, q, ns, r, ρ', e2, h⟩
  · obtain ⟨o, q, ns, e3⟩ := getD_inv e1
    cases e3
/-- x[k], x a name: what is owned stays so -/
def subN (i : Nat) (g : M D) : M D := chkN i >>= fun _ => g >>= fun k => bor i >>= fun o => if o.isDil = true then getD i >>= fun d => lift (ixD d k) else lift (ixO o k)
theorem ev_subN {i : Nat} {g : M D} (hu : X.A.units + 1 < cLine) (ha : PE X a (tVar i)) (hb : EvD X W T b g) (hs : PlainIx b) : EvD X W T (.Subscript a b pos) (subN i g) := by
  refine ⟨PE.imp (pe_ix (ix_any hu) ha hb.pe hs) fun σ H Q ⟨w, ρ, eH, c, co⟩ => ?_⟩
  subst eH
  obtain ⟨o0, e0, co⟩ := co.chk
  obtain ⟨v, hv, _⟩ := c.sl i o0 e0
  refine ⟨v, hv, w, ρ, rfl, c, co.bind.mono fun k ρ1 w1 l1 c1 co u r => ?_⟩
  obtain ⟨o, eo, co⟩ := co.bor
  obtain ⟨v', hv', ro⟩ := c1.sl i o eo
  have ev : v' = v := Option.some.inj (Option.some.inj (hv'.symm.trans hv))
  subst ev
  split at co
  · obtain ⟨o', eo', ns, co⟩ := co.getD
    obtain ⟨w2, v2, eH, c2, l2, hv2, rp2⟩ := c1.freeze eo' ns
    have ev2 : v2 = v' := Option.some.inj (Option.some.inj (hv2.symm.trans hv))
    subst ev2
    obtain ⟨d, ed, co⟩ := co.lift
    obtain ⟨z, rz, q⟩ := ix_main (o := .dat o'.view) c2 (.dat rp2) (Rp.mono' l2.le r) ed
    rw [← eH]
    exact q Q (co w2 (l1.trans l2) c2 z rz)
  · obtain ⟨d, ed, co⟩ := co.lift
    obtain ⟨z, rz, q⟩ := ix_main c1 ro r ed
    exact q Q (co w1 l1 c1 z rz)
/-! ### slices -/
def cutD {α : Type} (xs : List α) (lo hi : Option Int) : List α := (xs.drop (HT.sIx xs.length 0 lo)).take (HT.sIx xs.length xs.length hi - HT.sIx xs.length 0 lo)
theorem RpA.cut {K : PySem.W.Frag} {F : Hp} {vs : List V} {ds : List D} (r : RpA K F vs ds) (lo hi : Option Int) : RpA K F (cutV vs lo hi) (cutD ds lo hi) := by
  unfold cutV cutD
  rw [r.length]
  exact (r.drop _).take _
def rSlAll (K : PySem.W.Frag) : V → Option Int → Option Int → Hp → VK → Prop := fun x lo hi H Q => (rSlL K x lo hi H Q ∨ rSlZ K x lo hi H Q) ∨ rSlS x lo hi H Q
theorem sl_all : SlR X (rSlAll X.K) := SlR.or (SlR.or sl_list sl_tupZ) sl_str
def slD (d : D) (lo hi : Option Int) : Option O := match d with
  | .list xs => some (.lst (cutD xs lo hi))
  | .tuple xs => some (.dat (.tuple (cutD xs lo hi)))
  | .str z => if z.length ≤ sizeLine then some (.dat (.str (cutS z lo hi))) else none
  | _ => none
def slO (o : O) (lo hi : Option Int) : Option O := match o with
  | .dat d => slD d lo hi
  | .lst xs => some (.lst (cutD xs lo hi))
  | .scr ns => some (.lst ((cutD ns lo hi).map PyData.int))
  | _ => none
theorem cut_whole {α : Type} {xs : List α} {lo hi : Option Int} (h : HT.sIx xs.length 0 lo = 0 ∧ HT.sIx xs.length xs.length hi = xs.length) : cutD xs lo hi = xs := by
  unfold cutD
  rw [h.1, h.2, List.drop_zero, Nat.sub_zero, List.take_length]
theorem cut_map {α β : Type} (f : α → β) (xs : List α) (lo hi : Option Int) : cutD (xs.map f) lo hi = (cutD xs lo hi).map f := by
  unfold cutD
  rw [List.length_map, List.map_take, List.map_drop]
theorem sl_main {σ : L2.St} {ρ : Env} {w : Wl} {x : V} {o p : O} {lo hi : Option Int} {fp : List Addr} {Q : VK} (c : Cs X.K T σ ρ w) (h1 : RpO X.K w.F w.H x o fp) (h3 : slO o lo hi = some p) (k : Kon X.K T σ ρ w p Q) : rSlAll X.K x lo hi w.H Q := by
  unfold slO at h3
  split at h3
  · cases h1 with
    | dat h1 =>
      unfold slD at h3
      split at h3
      · cases h3
        cases h1 with
        | @lst a xs _ ha ra => exact .inl (.inl ⟨a, xs, rfl, SqL.of (c.lstH ha), k.lst c (ra.cut lo hi)⟩)
      · cases h3
        cases h1 with
        | @tup a xs ds ha ra =>
          refine .inl (.inr ⟨a, xs, rfl, c.tupS ha, fun hw => k.dat c ?_, fun _ => k.tup c (ra.cut lo hi)⟩)
          rw [ra.length] at hw
          rw [cut_whole hw]
          exact .tup ha ra
      · split at h3
        · rename_i hz
          cases h3; cases h1
          exact .inr ⟨_, rfl, hz, k.dat c (.str _)⟩
        · cases h3
      · cases h3
  · cases h3
    cases h1 with
    | @lst a xs _ hF hH ra => exact .inl (.inl ⟨a, xs, rfl, SqL.of hH, k.lst c (ra.cut lo hi)⟩)
  · rename_i ns
    cases h3
    cases h1 with
    | @scr a _ h =>
      have hq : SqL X.K w.H a (ns.map V.int) := by
        rcases h with h | ⟨o, h⟩
        · rcases h with h | h
          · rcases h with h | ⟨o, h⟩
            · exact .inl (.inl (c.lstH h))
            · rcases c.le a _ h with ⟨q, _⟩ | ⟨o', kvs, e, _⟩
              · exact .inl (.inr ⟨o, q⟩)
              · cases e
          · exact .inr h
        · exact .inl (.inr ⟨o, h⟩)
      refine .inl (.inl ⟨a, ns.map V.int, rfl, hq, k.lst c ?_⟩)
      have e : cutV (ns.map V.int) lo hi = (cutD ns lo hi).map V.int := cut_map V.int ns lo hi
      rw [e]
      exact RpA.of_ints _
  · cases h3
/-- a slice's part -/
structure EvP (X : Cx) (W : WX) (T : List (Addr × Str)) (e : Option Expr) (f : M (Option Int)) : Prop where
  po : PO X e fun σ H Q => ∃ w ρ, w.H = H ∧ Cs X.K T σ ρ w ∧ Co X W T f σ w ρ fun o _ w' => Q o w'.H
theorem PO.imp {e : Option Expr} {t t' : TO} (h : PO X e t) (k : ∀ σ H Q, t' σ H Q → t σ H Q) : PO X e t' := ⟨fun pins s σ H Q I q => h.run pins s σ H Q I (k σ H Q q)⟩
theorem ep_none : EvP X W T none (Pure.pure none) := by
  refine ⟨PO.imp po_none fun σ H Q ⟨w, ρ, eH, c, co⟩ => ?_⟩
  subst eH
  exact co.pure w (Lw.refl w) c
def intD : D → Option Int
  | .int i => some i
  | _ => none
theorem intD_v {K : PySem.W.Frag} {F : Hp} {v : V} {d : D} {k : Int} (r : Rp K F v d) (h : intD d = some k) : d = .int k ∧ v = .int k := by
  cases r <;> simp [intD] at h
  subst h
  exact ⟨rfl, rfl⟩
theorem ep_some {f : M D} (h : EvD X W T a f) : EvP X W T (some a) (f >>= fun d => lift (intD d) >>= fun i => Pure.pure (some i)) := by
  refine ⟨PO.imp (po_some h.pe) fun σ H Q ⟨w, ρ, eH, c, co⟩ => ?_⟩
  subst eH
  refine ⟨w, ρ, rfl, c, co.bind.mono fun d ρ1 w1 l1 c1 k v r => ?_⟩
  obtain ⟨i, ei, k⟩ := k.lift_bind'
  obtain ⟨rfl, rfl⟩ := intD_v r ei
  exact ⟨i, rfl, k.pure w1 l1 c1⟩
theorem eo_sl {f : M D} {lo hi : Option Expr} {gl gh : M (Option Int)} {p2 : Pos} (ha : EvD X W T a f) (hl : EvP X W T lo gl) (hh : EvP X W T hi gh) :
    EvO X W T (.Subscript a (.Slice lo hi none p2) pos) (f >>= fun d => gl >>= fun l => gh >>= fun h => lift (slD d l h)) := by
  refine ⟨PE.imp (pe_slice sl_all ha.pe hl.po hh.po) fun σ H Q ⟨w, ρ, eH, c, co⟩ => ?_⟩
  subst eH
  refine ⟨w, ρ, rfl, c, co.bind.mono fun d ρ1 w1 l1 c1 k v r => ?_⟩
  refine ⟨w1, ρ1, rfl, c1, (k.base l1).bind.mono fun l ρ2 w2 l2 c2 k => ?_⟩
  refine ⟨w2, ρ2, rfl, c2, (k.base l2).bind.mono fun h ρ3 w3 l3 c3 k => ?_⟩
  obtain ⟨p, ep, k⟩ := k.lift
  exact sl_main (o := .dat d) c3 (.dat (Rp.mono' (l2.trans l3).le r)) ep fun w' v' fp l' c' rp ap nw => k w' (l3.trans l') c' v' fp rp ap (((l1.trans l2).trans l3).nw nw)
def slN (i : Nat) (gl gh : M (Option Int)) : M O := chkN i >>= fun _ => gl >>= fun l => gh >>= fun h => bor i >>= fun o => lift (slO o l h)
theorem eo_slN {i : Nat} {lo hi : Option Expr} {gl gh : M (Option Int)} {p2 : Pos} (ha : PE X a (tVar i)) (hl : EvP X W T lo gl) (hh : EvP X W T hi gh) : EvO X W T (.Subscript a (.Slice lo hi none p2) pos) (slN i gl gh) := by
  refine ⟨PE.imp (pe_slice sl_all ha hl.po hh.po) fun σ H Q ⟨w, ρ, eH, c, co⟩ => ?_⟩
  subst eH
  obtain ⟨o0, e0, co⟩ := co.chk
  obtain ⟨v, hv, _⟩ := c.sl i o0 e0
  refine ⟨v, hv, w, ρ, rfl, c, co.bind.mono fun l ρ2 w2 l2 c2 k => ?_⟩
  refine ⟨w2, ρ2, rfl, c2, (k.base l2).bind.mono fun h ρ3 w3 l3 c3 k => ?_⟩
  obtain ⟨o, eo, k⟩ := k.bor
  obtain ⟨v', hv', ro⟩ := c3.sl i o eo
  have ev : v' = v := Option.some.inj (Option.some.inj (hv'.symm.trans hv))
  subst ev
  obtain ⟨p, ep, k⟩ := k.lift
  exact sl_main c3 ro ep fun w' v'' fp l' c' rp ap nw => k w' (l3.trans l') c' v'' fp rp ap ((l2.trans l3).nw nw)
/-! ### x[::-1] -/
end
theorem slice_back {prog : Program} {w : World} {A : Around} {E : Value → Shared → Prop} {s : Shared} {sl : Addr} {n : Nat} {t : Tok} {Q : Int × Int × Nat → Shared → Prop} (hs : s.heap.IsSliceOf sl .none .none (.int (-1) t))
    (h : Q ((n : Int) - 1, -1, n) s) : wpAny (model prog w) A (Builtin.Slice.sliceApplied (.ref sl) (pure (n : Int))) Q E s := by
  obtain ⟨os, hos, hcs, hds⟩ := id hs
  unfold Builtin.Slice.sliceApplied Builtin.Slice.sliceFields
  refine wpAny_bind (wpAny_bind (wpAny_field hos hds (x := .none) rfl (wpAny_bind (wpAny_field hos hds (x := .none) rfl (wpAny_bind (wpAny_field hos hds (x := .int (-1) t) rfl (wpAny_pure ?_)))))))
  refine wpAny_bind (HT.slicePart_ (.int (-1) t) ?_)
  show wpAny _ _ (if ((-1 : Int) == 0) = true then _ else _) _ _ s
  rw [if_neg (by decide)]
  refine wpAny_bind (HT.slicePart_ .none (wpAny_bind (HT.slicePart_ .none (wpAny_bind (wpAny_pure ?_)))))
  show wpAny _ _ (match Builtin.Slice.sliceAdjust none none (-1) (n : Int) with | (lo, hi) => pure (lo, (-1 : Int), Builtin.Slice.slicePlaces lo hi (-1))) _ _ s
  have e1 : Builtin.Slice.sliceAdjust none none (-1) (n : Int) = ((n : Int) - 1, -1) := by
    unfold Builtin.Slice.sliceAdjust
    simp
  rw [e1]
  show wpAny _ _ (pure ((n : Int) - 1, (-1 : Int), Builtin.Slice.slicePlaces ((n : Int) - 1) (-1) (-1))) _ _ s
  have e2 : Builtin.Slice.slicePlaces ((n : Int) - 1) (-1) (-1) = n := by
    unfold Builtin.Slice.slicePlaces
    simp
    try omega
  rw [e2]
  exact wpAny_pure h
end Sh
set_option Elab.async false
set_option linter.all false
set_option maxRecDepth 100000
set_option maxHeartbeats 2000000
/-! Sh, part G: calls of what is built in. -/
namespace Sh
open PySem PySem.Spec PyProof.Rows L2
section
variable {X : Cx} {W : WX} {T : List (Addr × Str)} {a b c e : Expr} {p pos : Pos} {es : List Expr} {x : Str} {bid : String}
/-- a call by values -/
def CallV (X : Cx) (T : List (Addr × Str)) (r : List V → Hp → VK → Prop) (g : List D → Option O) : Prop :=
  ∀ (σ : L2.St) (ρ : Env) (w : Wl) (xs : List V) (ds : List D) (o : O) (Q : VK), Cs X.K T σ ρ w → RpA X.K w.F xs ds → g ds = some o → Kon X.K T σ ρ w o Q → r xs w.H Q
abbrev datO (g : List D → Option D) (ds : List D) : Option O := (g ds).map .dat
theorem datO_inv {g : List D → Option D} {ds : List D} {o : O} (h : datO g ds = some o) : ∃ d, g ds = some d ∧ o = .dat d := by
  obtain ⟨d, h1, h2⟩ := Option.map_eq_some_iff.mp h
  exact ⟨d, h1, h2.symm⟩
theorem eo_tCB {r : List V → Hp → VK → Prop} {g : List D → Option O} {t : TA} {f : M (List D)} (hv : CallV X T r g) (h : ∀ t, PA X (e :: es) t → PE X a (tCB r t)) (ha : EvA X W T (e :: es) f) : EvO X W T a (f >>= fun ds => lift (g ds)) := by
  refine ⟨PE.imp (h _ ha.pa) fun σ H Q ⟨w, ρ, eH, c, co⟩ => ?_⟩
  subst eH
  refine ⟨w, ρ, rfl, c, co.bind.mono fun ds ρ1 w1 l1 c1 k vs r1 => ?_⟩
  obtain ⟨o, eo, k⟩ := k.lift
  exact hv σ ρ1 w1 vs ds o Q c1 r1 eo fun w' v' fp l' c' rp ap nw => k w' (l1.trans l') c' v' fp rp ap (l1.nw nw)
theorem ev_tCB {r : List V → Hp → VK → Prop} {g : List D → Option D} {f : M (List D)} (hv : CallV X T r (datO g)) (h : ∀ t, PA X (e :: es) t → PE X a (tCB r t)) (ha : EvA X W T (e :: es) f) : EvD X W T a (f >>= fun ds => lift (g ds)) := by
  refine ⟨PE.imp (h _ ha.pa) fun σ H Q ⟨w, ρ, eH, c, co⟩ => ?_⟩
  subst eH
  refine ⟨w, ρ, rfl, c, co.bind.mono fun ds ρ1 w1 l1 c1 k vs r1 => ?_⟩
  obtain ⟨o, eo, k⟩ := k.lift
  refine hv σ ρ1 w1 vs ds (.dat o) Q c1 r1 (by show (g ds).map _ = _; rw [eo]; rfl) fun w' v' fp l' c' rp ap nw => ?_
  cases rp with
  | dat rp => exact k w' (l1.trans l') c' v' rp
/-- a built-in function, type, of these names -/
structure Blt (X : Cx) (x : Str) (u : Value) : Prop where
  gl : Gl X x
  mg : X.mg x = none
  bt : bootBuiltins x = some u
  nn : x ≠ "__name__"
  db : (x == ("__debug__" : Str)) = false
theorem eo_fun {r : List V → Hp → VK → Prop} {g : List D → Option O} {f : M (List D)} (h : Blt X x (.builtin bid)) (hc : CallR X (.builtin bid) r) (hv : CallV X T r g) (ha : EvA X W T (e :: es) f)
    (he : starEach (e :: es) X.env = (false, eval e X.env) :: starEach es X.env) (hpl : (backTo pos (starEach es X.env)).any (·.1) = false) : EvO X W T (.Call (.Name x p) (e :: es) [] pos) (f >>= fun ds => lift (g ds)) :=
  eo_tCB (t := tNil) hv (fun t ht => pe_callB hc h.gl h.mg h.bt ht h.nn h.db he hpl) ha
theorem ev_fun {r : List V → Hp → VK → Prop} {g : List D → Option D} {f : M (List D)} (h : Blt X x (.builtin bid)) (hc : CallR X (.builtin bid) r) (hv : CallV X T r (datO g)) (ha : EvA X W T (e :: es) f)
    (he : starEach (e :: es) X.env = (false, eval e X.env) :: starEach es X.env) (hpl : (backTo pos (starEach es X.env)).any (·.1) = false) : EvD X W T (.Call (.Name x p) (e :: es) [] pos) (f >>= fun ds => lift (g ds)) :=
  ev_tCB hv (fun t ht => pe_callB hc h.gl h.mg h.bt ht h.nn h.db he hpl) ha
theorem eo_ty {r : List V → Hp → VK → Prop} {g : List D → Option O} {f : M (List D)} (h : Blt X x (.type bid)) (hc : CallR X (.type bid) r) (hv : CallV X T r g) (ha : EvA X W T (e :: es) f)
    (he : starEach (e :: es) X.env = (false, eval e X.env) :: starEach es X.env) (hpl : (backTo pos (starEach es X.env)).any (·.1) = false) : EvO X W T (.Call (.Name x p) (e :: es) [] pos) (f >>= fun ds => lift (g ds)) :=
  eo_tCB (t := tNil) hv (fun t ht => pe_callTy hc h.gl h.mg h.bt ht h.nn h.db he hpl) ha
theorem ev_ty {r : List V → Hp → VK → Prop} {g : List D → Option D} {f : M (List D)} (h : Blt X x (.type bid)) (hc : CallR X (.type bid) r) (hv : CallV X T r (datO g)) (ha : EvA X W T (e :: es) f)
    (he : starEach (e :: es) X.env = (false, eval e X.env) :: starEach es X.env) (hpl : (backTo pos (starEach es X.env)).any (·.1) = false) : EvD X W T (.Call (.Name x p) (e :: es) [] pos) (f >>= fun ds => lift (g ds)) :=
  ev_tCB hv (fun t ht => pe_callTy hc h.gl h.mg h.bt ht h.nn h.db he hpl) ha
/-! ### len -/
def rLenD : List V → Hp → VK → Prop := fun xs H Q => ∃ a kvs, xs = [.ref a] ∧ Rd H a (.dK kvs) ∧ Q (.int kvs.length) H
theorem call_lenD : CallR X (.builtin "len") rLenD := by
  intro pins s σ H xs us Q I r h
  obtain ⟨a, kvs, rfl, hd, q⟩ := h
  obtain ⟨u, rfl, rx⟩ := vals1 r
  cases rx
  exact d_len I hd fun t s' I' => ⟨.int _, H, I', ⟨_, rfl⟩, q⟩
def rLenA (K : PySem.W.Frag) : List V → Hp → VK → Prop := fun xs H Q => (∃ x n, xs = [x] ∧ LenV K x H n ∧ Q (.int n) H) ∨ rLenD xs H Q
theorem call_lenA : CallR X (.builtin "len") (rLenA X.K) := CallR.or call_len call_lenD
def lenO : O → Option Int
  | .dat (.str z) => if z.length ≤ sizeLine then some z.length else none
  | .dat (.list xs) => some xs.length
  | .dat (.tuple xs) => some xs.length
  | .dat (.dict xs) => some xs.length
  | .lst xs => some xs.length
  | .dic xs => some xs.length
  | _ => none
def lenG : List D → Option D
  | [d] => (lenO (.dat d)).map .int
  | _ => none
theorem len_main {σ : L2.St} {ρ : Env} {w : Wl} {x : V} {o : O} {n : Int} {fp : List Addr} (c : Cs X.K T σ ρ w) (h1 : RpO X.K w.F w.H x o fp) (h : lenO o = some n) {Q : VK} (q : Q (.int n) w.H) : rLenA X.K [x] w.H Q := by
  unfold lenO at h
  split at h
  · split at h
    · rename_i hz
      cases h
      cases h1 with
      | dat h1 => cases h1; exact .inl ⟨_, _, rfl, ⟨hz, rfl⟩, q⟩
    · cases h
  · cases h
    cases h1 with
    | dat h1 => cases h1 with
      | @lst a xs _ ha ra => exact .inl ⟨_, _, rfl, .inl ⟨xs, SqL.of (c.lstH ha), rfl⟩, by rw [ra.length]; exact q⟩
  · cases h
    cases h1 with
    | dat h1 => cases h1 with
      | @tup a xs _ ha ra => exact .inl ⟨_, _, rfl, .inr ⟨xs, c.tupS ha, rfl⟩, by rw [ra.length]; exact q⟩
  · cases h
    cases h1 with
    | dat h1 => cases h1 with
      | @dic a kvs _ ha ra =>
        obtain ⟨es, r2, rfl⟩ := ra.rpD
        refine .inr ⟨a, kvs, rfl, c.dicH ha, ?_⟩
        rw [r2.length, ← List.length_map (as := es)]
        exact q
  · cases h
    cases h1 with
    | @lst a xs _ hF hH ra => exact .inl ⟨_, _, rfl, .inl ⟨xs, SqL.of hH, rfl⟩, by rw [ra.length]; exact q⟩
  · cases h
    cases h1 with
    | @dic a kvs _ hF hH ra => exact .inr ⟨a, kvs, rfl, .inl hH, by rw [ra.length]; exact q⟩
  · cases h
theorem cv_len : CallV X T (rLenA X.K) (datO lenG) := by
  intro σ ρ w xs ds o Q c r h k
  obtain ⟨d', h9, e9⟩ := datO_inv h
  subst e9
  clear h
  have h := h9
  clear h9
  cases r with
  | nil => cases h
  | cons r r2 =>
    cases r2 with
    | cons _ _ => cases h
    | nil =>
      obtain ⟨n, h7, e7⟩ := Option.map_eq_some_iff.mp h
      subst e7
      exact len_main c (.dat r) h7 (k.dat c (.int _))
/-- len(x), x a name: what is owned stays so -/
def lenN (i : Nat) : M D := bor i >>= fun o => lift (lenO o) >>= fun n => Pure.pure (.int n)
theorem ev_lenN {i : Nat} {n : Str} {q : Pos} (h : Blt X x (.builtin "len")) (hn : PE X (.Name n q) (tVar i)) : EvD X W T (.Call (.Name x p) [.Name n q] [] pos) (lenN i) := by
  have hp := pe_callB (pos := pos) (p := p) (X := X) call_lenA h.gl h.mg h.bt (pa_cons hn pa_nil rfl) h.nn h.db rfl rfl
  refine ⟨PE.imp hp fun σ H Q ⟨w, ρ, eH, c, co⟩ => ?_⟩
  subst eH
  obtain ⟨o, eo, co⟩ := co.bor
  obtain ⟨n, en, co⟩ := co.lift_bind'
  obtain ⟨v, hv, r⟩ := c.sl i o eo
  exact ⟨v, hv, len_main c r en (co.pure w (Lw.refl w) c _ (.int _))⟩
/-! ### lists of bools, ints -/
def boolsD : List D → Option (List Bool)
  | [] => some []
  | .bool b :: r => (boolsD r).map (b :: ·)
  | _ => none
theorem boolsD_eq : ∀ {ds : List D} {bs : List Bool}, boolsD ds = some bs → ds = bs.map .bool
  | [], _, h => by cases h; rfl
  | d :: r, bs, h => by
    cases d <;> simp only [boolsD, reduceCtorEq] at h
    obtain ⟨b2, h2, rfl⟩ := Option.map_eq_some_iff.mp h
    rw [boolsD_eq h2, List.map_cons]
theorem boolsD_map : ∀ bs : List Bool, boolsD (bs.map .bool) = some bs
  | [] => rfl
  | b :: bs => by rw [List.map_cons]; simp only [boolsD, boolsD_map bs, Option.map_some]
def intsD : List D → Option (List Int)
  | [] => some []
  | .int b :: r => (intsD r).map (b :: ·)
  | _ => none
theorem intsD_eq : ∀ {ds : List D} {bs : List Int}, intsD ds = some bs → ds = bs.map .int
  | [], _, h => by cases h; rfl
  | d :: r, bs, h => by
    cases d <;> simp only [intsD, reduceCtorEq] at h
    obtain ⟨b2, h2, rfl⟩ := Option.map_eq_some_iff.mp h
    rw [intsD_eq h2, List.map_cons]
theorem intsD_map : ∀ bs : List Int, intsD (bs.map .int) = some bs
  | [] => rfl
  | b :: bs => by rw [List.map_cons]; simp only [intsD, intsD_map bs, Option.map_some]
def allG : List D → Option D
  | [.list ds] => (boolsD ds).map fun bs => .bool (bs.all id)
  | _ => none
def anyG : List D → Option D
  | [.list ds] => (boolsD ds).map fun bs => .bool (bs.any id)
  | _ => none
def sumG : List D → Option D
  | [.list ds] => (intsD ds).map fun bs => .int bs.sum
  | _ => none
theorem cv_all : CallV X T (rAll X.K) (datO allG) := by
  intro σ ρ w xs ds o Q c r h k
  obtain ⟨d', h9, e9⟩ := datO_inv h
  subst e9
  clear h
  have h := h9
  clear h9
  unfold allG at h
  split at h
  · obtain ⟨bs, hb, rfl⟩ := Option.map_eq_some_iff.mp h
    cases r with
    | cons r r2 =>
      cases r2
      cases r with
      | @lst a xs _ ha ra =>
        have e := boolsD_eq hb
        subst e
        have e2 := ra.bools
        subst e2
        exact ⟨a, bs, rfl, SqL.of (c.lstH ha), k.dat c (.bl _)⟩
  · cases h
theorem cv_any : CallV X T (rAny X.K) (datO anyG) := by
  intro σ ρ w xs ds o Q c r h k
  obtain ⟨d', h9, e9⟩ := datO_inv h
  subst e9
  clear h
  have h := h9
  clear h9
  unfold anyG at h
  split at h
  · obtain ⟨bs, hb, rfl⟩ := Option.map_eq_some_iff.mp h
    cases r with
    | cons r r2 =>
      cases r2
      cases r with
      | @lst a xs _ ha ra =>
        have e := boolsD_eq hb
        subst e
        have e2 := ra.bools
        subst e2
        exact ⟨a, bs, rfl, SqL.of (c.lstH ha), k.dat c (.bl _)⟩
  · cases h
theorem cv_sum : CallV X T (rSum X.K) (datO sumG) := by
  intro σ ρ w xs ds o Q c r h k
  obtain ⟨d', h9, e9⟩ := datO_inv h
  subst e9
  clear h
  have h := h9
  clear h9
  unfold sumG at h
  split at h
  · obtain ⟨bs, hb, rfl⟩ := Option.map_eq_some_iff.mp h
    cases r with
    | cons r r2 =>
      cases r2
      cases r with
      | @lst a xs _ ha ra =>
        have e := intsD_eq hb
        subst e
        have e2 := ra.ints
        subst e2
        exact ⟨a, bs, rfl, SqL.of (c.lstH ha), k.dat c (.int _)⟩
  · cases h
/-! ### int, abs, repr -/
def rInt1 : List V → Hp → VK → Prop := fun xs H Q => (∃ i, xs = [.int i] ∧ Q (.int i) H) ∨ ∃ k, xs = [.bl k] ∧ Q (.int (if k then 1 else 0)) H
def intG : List D → Option D
  | [.int i] => some (.int i)
  | [.bool b] => some (.int (if b then 1 else 0))
  | _ => none
theorem cv_int : CallV X T rInt1 (datO intG) := by
  intro σ ρ w xs ds o Q c r h k
  obtain ⟨d', h9, e9⟩ := datO_inv h
  subst e9
  clear h
  have h := h9
  clear h9
  unfold intG at h
  split at h
  · cases h; cases r with
    | cons r r2 => cases r2; cases r; exact .inl ⟨_, rfl, k.dat c (.int _)⟩
  · cases h; cases r with
    | cons r r2 => cases r2; cases r; exact .inr ⟨_, rfl, k.dat c (.int _)⟩
  · cases h
def rAbs : List V → Hp → VK → Prop := fun xs H Q => ∃ i, xs = [.int i] ∧ Q (.int (if i < 0 then -i else i)) H
def absG : List D → Option D
  | [.int i] => some (.int (if i < 0 then -i else i))
  | _ => none
theorem cv_abs : CallV X T rAbs (datO absG) := by
  intro σ ρ w xs ds o Q c r h k
  obtain ⟨d', h9, e9⟩ := datO_inv h
  subst e9
  clear h
  have h := h9
  clear h9
  unfold absG at h
  split at h
  · cases h; cases r with
    | cons r r2 => cases r2; cases r; exact ⟨_, rfl, k.dat c (.int _)⟩
  · cases h
def rRepr : List V → Hp → VK → Prop := fun xs H Q => ∃ i : Int, xs = [.int i] ∧ i.natAbs.log2 < 1920 ∧ Q (.str (toString i)) H
def reprG : List D → Option D
  | [.int i] => if i.natAbs.log2 < 1920 then some (.str (toString i)) else none
  | _ => none
theorem cv_repr : CallV X T rRepr (datO reprG) := by
  intro σ ρ w xs ds o Q c r h k
  obtain ⟨d', h9, e9⟩ := datO_inv h
  subst e9
  clear h
  have h := h9
  clear h9
  unfold reprG at h
  split at h
  · split at h
    · rename_i hl
      cases h; cases r with
      | cons r r2 => cases r2; cases r; exact ⟨_, rfl, hl, k.dat c (.str _)⟩
    · cases h
  · cases h
/-! ### tuple(..), list(..) -/
def tupG : List D → Option D
  | [.list ds] => some (.tuple ds)
  | [.tuple ds] => some (.tuple ds)
  | _ => none
theorem cv_tup : CallV X T (rTupOf X.K) (datO tupG) := by
  intro σ ρ w xs ds o Q c r h k
  obtain ⟨d', h9, e9⟩ := datO_inv h
  subst e9
  clear h
  have h := h9
  clear h9
  unfold tupG at h
  split at h
  · cases h; cases r with
    | cons r r2 =>
      cases r2
      cases r with
      | @lst a xs _ ha ra => exact ⟨a, xs, rfl, .inl ⟨SqL.of (c.lstH ha), k.tup c ra⟩⟩
  · cases h; cases r with
    | cons r r2 =>
      cases r2
      cases r with
      | @tup a xs _ ha ra => exact ⟨a, xs, rfl, .inr ⟨c.tupS ha, k.dat c (.tup ha ra)⟩⟩
  · cases h
def rListOf (K : PySem.W.Frag) : List V → Hp → VK → Prop := fun xs H Q => ∃ p ys, xs = [.ref p] ∧ (SqL K H p ys ∨ SqT K H p ys) ∧ ∀ l, H l = none → Q (.ref l) (upd H l (.lst ys))
def listG : List D → Option O
  | [.list ds] => some (.lst ds)
  | [.tuple ds] => some (.lst ds)
  | _ => none
theorem cv_list : CallV X T (rListOf X.K) listG := by
  intro σ ρ w xs ds o Q c r h k
  unfold listG at h
  split at h
  · cases h; cases r with
    | cons r r2 =>
      cases r2
      cases r with
      | @lst a xs _ ha ra => exact ⟨a, xs, rfl, .inl (SqL.of (c.lstH ha)), k.lst c ra⟩
  · cases h; cases r with
    | cons r r2 =>
      cases r2
      cases r with
      | @tup a xs _ ha ra => exact ⟨a, xs, rfl, .inr (c.tupS ha), k.lst c ra⟩
  · cases h
/-! ### isinstance -/
def tyD : D → String
  | .none => "NoneType"
  | .bool _ => "bool"
  | .int _ => "int"
  | .str _ => "str"
  | .list _ => "list"
  | .tuple _ => "tuple"
  | .dict _ => "dict"
def isD (n : String) (d : D) : Bool := tyD d == n || (n == "int" && tyD d == "bool")
/-- the built-in type n, as isinstance asks -/
def KitOk (n : String) : Prop := ∀ t ∈ ["NoneType", "bool", "int", "str", "list", "tuple", "dict"], kitB t n = some (t == n || (n == "int" && t == "bool"))
theorem tyD_mem (d : D) : tyD d ∈ ["NoneType", "bool", "int", "str", "list", "tuple", "dict"] := by cases d <;> simp [tyD]
theorem tyx_rp {σ : L2.St} {ρ : Env} {w : Wl} {v : V} {d : D} (c : Cs X.K T σ ρ w) (r : Rp X.K w.F v d) : TyX X.K w.H v (.type (tyD d)) := by
  cases r with
  | non => exact .base .non
  | bl b => exact .base (.bl b)
  | int i => exact .base (.int i)
  | str x => exact .base (.str x)
  | lst h1 h2 => exact .base (.lst (c.lstH h1))
  | tup h1 h2 =>
    obtain ⟨o, q, _⟩ := c.tupR h1
    exact .fTuple q
  | dic h1 h2 =>
    rcases c.dicH h1 with q | ⟨o, q⟩
    · exact .base (.dK q)
    · exact .fDict q
/-- isinstance(e, n), n a built-in type -/
theorem ev_isi {f : M D} {n : Str} {tn : String} {q : Pos} (h : Blt X x (.builtin "isinstance")) (hn : Blt X n (.type tn)) (ok : KitOk tn) (ha : EvD X W T e f) (hs : starEach [e, .Name n q] X.env = (false, eval e X.env) :: starEach [.Name n q] X.env) :
    EvD X W T (.Call (.Name x p) [e, .Name n q] [] pos) (f >>= fun d => Pure.pure (.bool (isD tn d))) := by
  have hp := pe_callB (pos := pos) (p := p) (X := X) call_isi h.gl h.mg h.bt (pa_cons ha.pe (pa_cons (pe_bltn (pos := q) (v := .ty tn) hn.gl hn.mg hn.bt rfl hn.nn hn.db) pa_nil rfl) hs) h.nn h.db hs rfl
  refine ⟨PE.imp hp fun σ H Q ⟨w, ρ, eH, c, co⟩ => ?_⟩
  subst eH
  refine ⟨w, ρ, rfl, c, co.bind.mono fun d ρ1 w1 l1 c1 k v r => ?_⟩
  refine ⟨v, .ty tn, .type (tyD d), .type tn, isD tn d, rfl, .ty tn, tyx_rp c1 r, ?_, k.pure w1 l1 c1 _ (.bl _)⟩
  exact kit_ty (ok _ (tyD_mem d))
theorem kit_int : KitOk "int" := by unfold KitOk; decide +kernel
theorem kit_bool : KitOk "bool" := by unfold KitOk; decide +kernel
theorem kit_str : KitOk "str" := by unfold KitOk; decide +kernel
theorem kit_tuple : KitOk "tuple" := by unfold KitOk; decide +kernel
theorem kit_list : KitOk "list" := by unfold KitOk; decide +kernel
theorem kit_dict : KitOk "dict" := by unfold KitOk; decide +kernel
end
end Sh
set_option Elab.async false
set_option linter.all false
set_option maxRecDepth 100000
set_option maxHeartbeats 2000000
/-! Sh, part M: what changes owned things; x[::-1]; dict(..); sorted; min. -/
namespace Sh
open PySem PySem.Spec PyProof.Rows L2
/-! ### x[::-1] of a tuple -/
theorem fm_congr {α β : Type} {f g : α → Option β} : ∀ {l : List α}, (∀ x ∈ l, f x = g x) → l.filterMap f = l.filterMap g
  | [], _ => rfl
  | a :: l, h => by
    rw [List.filterMap_cons, List.filterMap_cons, h a List.mem_cons_self, fm_congr fun x z => h x (List.mem_cons_of_mem _ z)]
section
variable {prog : Program} {w : World} {A : Around} {E : Value → Shared → Prop} {s : Shared}
theorem getItem_tuple_back {t sl : Addr} {items : Array Value} {tk : Tok} {Q : Value → Shared → Prop} (ht : IsTup s.heap t items) (hs : s.heap.IsSliceOf sl .none .none (.int (-1) tk))
    (h : Q (.ref s.heap.objs.size) { s with heap := s.heap.push { cls := .type "tuple", data := .seq items.toList.reverse.toArray } })
    (hsz : items.size ≤ sizeLine) : wpAny (model prog w) A (getItem (.ref t) (.ref sl)) Q E s := by
  have htake : sizeOk (.seq items.toList.reverse.toArray) := by
    show items.toList.reverse.toArray.size ≤ sizeLine
    rw [List.size_toArray, List.length_reverse, Array.length_toList]
    exact hsz
  obtain ⟨os, hos, hcs, hds⟩ := id hs
  have hTs : s.TypeIs (.ref sl) "slice" := ⟨os, hos, hcs⟩
  unfold getItem
  try with_reducible refine wpAny_holding ?_
  first | refine wpAny_bind (wpAny_pure ?_) | skip
  refine wpAny_bind (wpAny_sequenceKey ht.typeIs (by decide) ?_)
  refine wpAny_bind (wpAny_callSpecial?_slot (name := Str.ofString "__getitem__") ht.typeIs PyProof.Rows.slot_tuple_getitem
    (wpAny_call_entry PyProof.Rows.slot_tuple_getitem ht.typeIs PyProof.Rows.entry_tuple_getitem ?_ (PyProof.Rows.args_tuple_getitem _ _)))
  show wpAny _ _ (Builtin.Tuple.tupleItemsOf (.ref t) >>= _) _ _ s
  refine wpAny_bind (PyProof.Rows.tupleItemsOf_ ht ?_)
  refine wpAny_bind (wpAny_typeOf hTs ?_)
  rw [if_pos (by decide)]
  refine wpAny_bind (slice_back hs ?_)
  have hno : ¬ ((((items.size : Int) - 1) == 0 && (-1 : Int) == 1 && items.size == items.size) = true) := by
    intro q
    rw [Bool.and_eq_true, Bool.and_eq_true] at q
    exact absurd q.1.2 (by decide)
  show wpAny _ _ (if (((items.size : Int) - 1) == 0 && (-1 : Int) == 1 && items.size == items.size) = true then _ else _) _ _ s
  rw [if_neg hno]
  have hp : ((List.range items.size).filterMap fun (m : Nat) => items[(((items.size : Int) - 1) + (m : Int) * (-1)).toNat]?).toArray = items.toList.reverse.toArray := by
    congr 1
    apply List.ext_getElem?
    intro i
    have e1 : ((List.range items.size).filterMap fun (m : Nat) => items[(((items.size : Int) - 1) + (m : Int) * (-1)).toNat]?) = (List.range items.size).map fun m => items.toList.getD (items.size - 1 - m) Value.none := by
      rw [← List.filterMap_eq_map]
      apply fm_congr
      intro m hm
      have hm := List.mem_range.mp hm
      have ez : (((items.size : Int) - 1) + (m : Int) * (-1)).toNat = items.size - 1 - m := by omega
      have hlt : items.size - 1 - m < items.size := by omega
      rw [ez, Array.getElem?_eq_getElem hlt]
      simp [List.getD, hlt]
    rw [e1, List.getElem?_map]
    by_cases hi : i < items.size
    · have hlt : items.size - 1 - i < items.size := by omega
      rw [List.getElem?_range hi, List.getElem?_reverse (by simpa using hi)]
      simp [List.getD, hlt]
    · rw [List.getElem?_eq_none (by simpa using hi), List.getElem?_eq_none (by simpa using hi)]
      rfl
  rw [hp]
  first
    | exact wpAny_bind (m := Builtin.Tuple.tupleExact _) (wpAny_newObj_type (wpAny_pure ⟨_, rfl, wpAny_pure h⟩) htake)
    | exact wpAny_bind (m := Builtin.Tuple.tupleExact _) (wpAny_newObj_type (wpAny_bind (wpAny_pure (wpAny_pure ⟨_, rfl, wpAny_pure h⟩))) htake)
    | exact wpAny_bind (wpAny_bind (m := Builtin.Tuple.tupleExact _) (wpAny_newObj_type (wpAny_pure (wpAny_pure ⟨_, rfl, wpAny_pure h⟩)) htake))
    | exact wpAny_bind (wpAny_bind (m := Builtin.Tuple.tupleExact _) (wpAny_newObj_type (wpAny_pure ⟨_, rfl, wpAny_pure h⟩) htake))
end
section
variable {X : Cx} {W : WX} {T : List (Addr × Str)}
def tRevZ (K : PySem.W.Frag) (te : TE) : TE := fun σ H Q => te σ H fun x H1 => ∃ a xs, x = .ref a ∧ ((SqL K H1 a xs ∧ ∀ p, H1 p = none → Q (.ref p) (upd H1 p (.lst xs.reverse))) ∨ (SqT K H1 a xs ∧ NewT H1 xs.reverse Q))
theorem pe_revZ {e : Expr} {te : TE} {k : Nat} {p1 p2 p3 pos : Pos} (he : PE X e te) : PE X (.Subscript e (.Slice none none (some (.UnaryOp .USub (.Constant (.int 1) k p1) p2)) p3) pos) (tRevZ X.K te) := by
  refine ⟨fun pins s σ H Q I h => ?_⟩
  refine Subscript_ (thn (he.run pins s σ H _ I h) fun v s1 ⟨x, H1, I1, r1, q1⟩ => ?_)
  obtain ⟨a, xs, ex, q⟩ := q1
  subst ex
  cases r1
  have hst : PO X (some (.UnaryOp .USub (.Constant (.int 1) k p1) p2)) (tPart (tUn (rU fun i => .int (-i)) (tC (.int 1)))) := po_some (pe_un un_neg pe_int)
  refine wpAny_Slice (thn (po_none.run pins s1 σ H1 (fun o H2 => o = none ∧ H2 = H1) I1 ⟨rfl, rfl⟩) fun vl s2 ⟨l, H2, I2, pl, el, e2⟩ => ?_)
  subst el e2
  refine thn (po_none.run pins s2 σ H2 (fun o H3 => o = none ∧ H3 = H2) I2 ⟨rfl, rfl⟩) fun vu s3 ⟨u, H3, I3, pu, eu, e3⟩ => ?_
  subst eu e3
  refine thn (hst.run pins s3 σ H3 (fun o H4 => o = some (-1) ∧ H4 = H3) I3 ⟨1, rfl, -1, rfl, rfl, rfl⟩) fun vs s4 ⟨o, H4, I4, ps, eo, e4⟩ => ?_
  subst eo e4
  have I5 : Inv X pins σ H4 { s4 with heap := s4.heap.push { cls := .type "slice", data := .fields #[vl, vu, vs] } } := I4.kept (t' := s4.toks) fun b ob q => Heap.get?_push_of_some _ q
  show wpAny (model X.prog X.w) X.A (subscriptTail e (.Slice none none (some (.UnaryOp .USub (.Constant (.int 1) k p1) p2)) p3) (.ref a) (.ref s4.heap.objs.size)) (EP X pins σ Q) X.xe { s4 with heap := s4.heap.push { cls := .type "slice", data := .fields #[vl, vu, vs] } }
  rcases q with ⟨hx, q⟩ | ⟨hx, q⟩
  · obtain ⟨its, r, ht, hz⟩ := I5.list hx
    have hlen := r.length
    refine tail_any (ops := [.ref a, .ref s4.heap.objs.size]) ht.isList.typeIs (PySem.slot_list_getitem.lookup) ?_ (by with_unfolding_all rfl)
    refine wpAny_getItem_list_slice ht.isList (Heap.IsSliceOf.new _ vl vu vs) pl pu ps (by decide) ?_ (by rw [List.size_toArray]; omega)
    rw [PySem.W.krv_pick]
    refine ⟨.ref _, _, I5.laid (t' := s4.toks) (o := .lst xs.reverse) (fun b ob q => Heap.get?_push_of_some _ q) (Nat.le_refl _) ?_, rfl, q _ (I5.hok.fresh (Nat.le_refl _))⟩
    exact ⟨by rw [List.length_reverse]; exact hz, _, 0, r.reverse, Heap.get?_push_size _ rfl⟩
  · obtain ⟨its, r, ht, hz⟩ := I5.tuple hx
    have hlen := r.length
    refine tail_any (ops := [.ref a, .ref s4.heap.objs.size]) ht.typeIs (PyProof.Rows.slot_tuple_getitem.lookup) ?_ (by with_unfolding_all rfl)
    cases pl
    cases pu
    cases ps
    refine getItem_tuple_back ht (Heap.IsSliceOf.new _ _ _ _) ?_ (by rw [List.size_toArray]; omega)
    have e : its.toArray.toList.reverse = its.reverse := by simp
    rw [e]
    exact Inv.newT (t' := s4.toks) I5 r.reverse (by rw [List.length_reverse]; exact hz) q
def revG : D → Option O
  | .list xs => some (.lst xs.reverse)
  | .tuple xs => some (.dat (.tuple xs.reverse))
  | _ => none
theorem eo_rev {e : Expr} {f : M D} {k : Nat} {p1 p2 p3 pos : Pos} (he : EvD X W T e f) : EvO X W T (.Subscript e (.Slice none none (some (.UnaryOp .USub (.Constant (.int 1) k p1) p2)) p3) pos) (f >>= fun d => lift (revG d)) := by
  refine ⟨PE.imp (pe_revZ he.pe) fun σ H Q ⟨w, ρ, eH, c, co⟩ => ?_⟩
  subst eH
  refine ⟨w, ρ, rfl, c, co.bind.mono fun d ρ1 w1 l1 c1 k v r => ?_⟩
  obtain ⟨o, eo, k⟩ := k.lift
  have kk : Kon X.K T σ ρ1 w1 o Q := Co.kon l1 k
  unfold revG at eo
  split at eo
  · cases eo
    cases r with
    | @lst a xs _ ha ra => exact ⟨a, xs, rfl, .inl ⟨SqL.of (c1.lstH ha), kk.lst c1 ra.reverse⟩⟩
  · cases eo
    cases r with
    | @tup a xs _ ha ra => exact ⟨a, xs, rfl, .inr ⟨c1.tupS ha, kk.tup c1 ra.reverse⟩⟩
  · cases eo
end
end Sh
set_option Elab.async false
set_option linter.all false
set_option maxRecDepth 100000
set_option maxHeartbeats 2000000
/-! Sh, part N: what changes owned things. -/
namespace Sh
open PySem PySem.Spec PyProof.Rows L2
section
variable {K : PySem.W.Frag} {T : List (Addr × Str)} {σ : L2.St} {ρ : Env} {w : Wl}
def Wl.put (w : Wl) (a : Addr) (u : HO) : Wl := ⟨w.F, upd w.H a u, w.fp⟩
theorem tabs_upd {H : Hp} {a : Addr} {u : HO} (t : LamX.Tabs T H) (h : Own1 (H a)) : LamX.Tabs T (upd H a u) := fun p hp => by
  obtain ⟨ps, h1, h2, h3⟩ := t p hp
  refine ⟨ps, ?_, h2, fun pos cv hc => ?_⟩
  · rw [upd_ne]
    · exact h1
    · intro z
      rw [← z, h1] at h
      exact h
  · obtain ⟨c, e1, e2⟩ := h3 pos cv hc
    refine ⟨c, e1, ?_⟩
    rw [upd_ne]
    · exact e2
    · intro z
      rw [← z, e2] at h
      exact h
/-- the object at a, which slot i owns, is written -/
theorem Cs.wr (c : Cs K T σ ρ w) {i : Nat} {o o' : O} {v : V} {a : Addr} {u : HO} (e : ρ[i]? = some (some o)) (hv : σ[i]? = some (some v)) (ha : a ∈ w.fp i) (hu : Own1 (some u)) (r' : RpO K w.F (upd w.H a u) v o' (w.fp i)) :
    Cs K T σ (ρ.set i (some o')) (w.put a u) ∧ Lw w (w.put a u) := by
  have hi : i < ρ.length := (List.getElem?_eq_some_iff.mp e).1
  obtain ⟨hF, hO⟩ := c.own_at ⟨i, ha⟩
  have nfz : ∀ b o u', w.H b = some (.frz o u') → b ≠ a := fun b o u' e z => by
    rw [← z, e] at hO
    exact hO
  refine ⟨⟨by rw [List.length_set]; exact c.len, fun j p e' => ?_, fun j h => ?_, c.sep, fun b x r => ?_, tabs_upd c.tb hO⟩, ⟨fun b x e n t => ?_, fun b o x e => ?_, fun b h => ?_, fun _ _ e => e, fun _ e => .inl e, fun _ e => .inl e⟩⟩
  · rcases set_get e' with ⟨rfl, e2⟩ | ⟨q, e2⟩
    · obtain rfl := Option.some.inj e2
      exact ⟨v, hv, r'⟩
    · obtain ⟨x, h1, h2⟩ := c.sl j p e2
      refine ⟨x, h1, h2.frame (fun _ _ e => e) (fun b o x e => ?_) fun b z => ⟨?_, (h2.at b z).1⟩⟩
      · show upd w.H a u b = _
        rw [upd_ne (nfz b o x e)]
        exact e
      · show upd w.H a u b = _
        exact upd_ne fun q2 => q (c.sep j i a (q2 ▸ z) ha)
  · by_cases q : j = i
    · subst q
      exact absurd (List.getElem?_set_self hi) (h o')
    · exact c.no j fun p z => h p (by rw [List.getElem?_set_ne (Ne.symm q)]; exact z)
  · have q : b ≠ a := fun z => by
      have r : w.F b = some x := r
      rw [z, hF] at r
      cases r
    show (upd w.H a u b = some x ∧ ∀ ps, x ≠ .tbl ps) ∨ ∃ o kvs, x = .dK kvs ∧ upd w.H a u b = some (.frz o x)
    rw [upd_ne q]
    exact c.le b x r
  · show upd w.H a u b = _
    rw [upd_ne fun z => n ⟨i, by rw [z]; exact ha⟩]
    exact e
  · show upd w.H a u b = _
    rw [upd_ne (nfz b o x e)]
    exact e
  · have h : Voi (upd w.H a u b) := h
    by_cases q : b = a
    · rw [q, upd_same] at h
      exact (h.own1 hu).elim
    · rw [upd_ne q] at h
      exact h
end
/-- the slot's object is changed; what comes of it is data -/
def modM (i : Nat) (f : O → Option (D × O)) : M D := fun ρ => match ρ[i]? with
  | some (some o) => (f o).map fun p => (.ok p.1, ρ.set i (some p.2))
  | _ => none
/-- the slot's object is such -/
def chkO (p : O → Bool) (i : Nat) : M Unit := fun ρ => match ρ[i]? with
  | some (some o) => if p o = true then some (.ok (), ρ) else none
  | _ => none
section
variable {X : Cx} {W : WX} {T : List (Addr × Str)} {a b e : Expr} {pos cpos apos : Pos}
theorem Co.modM {i : Nat} {f : O → Option (D × O)} {σ : L2.St} {w0 : Wl} {ρ : Env} {C : D → Env → Wl → Prop} (h : Co X W T (modM i f) σ w0 ρ C) : ∃ o d o', ρ[i]? = some (some o) ∧ f o = some (d, o') ∧ ∀ w', Lw w0 w' → Cs X.K T σ (ρ.set i (some o')) w' → C d (ρ.set i (some o')) w' := by
  obtain ⟨r, ρ', e, h⟩ := h
  unfold Sh.modM at e
  split at e
  · rename_i o q
    obtain ⟨⟨d, o'⟩, e1, e2⟩ := Option.map_eq_some_iff.mp e
    cases e2
    exact ⟨o, d, o', q, e1, h⟩
  · cases e
theorem Co.chkO {β : Type} {p : O → Bool} {i : Nat} {k : Unit → M β} {σ : L2.St} {w0 : Wl} {ρ : Env} {C : β → Env → Wl → Prop} (h : Co X W T (chkO p i >>= k) σ w0 ρ C) : ∃ o, ρ[i]? = some (some o) ∧ p o = true ∧ Co X W T (k ()) σ w0 ρ C := by
  obtain ⟨r, ρ', e, h⟩ := h
  rcases bind_inv e with ⟨a, ρ1, e1, e2⟩ | ⟨x, ρ1, e1, _⟩ <;> unfold Sh.chkO at e1 <;> split at e1
  · rename_i o q
    split at e1
    · rename_i hp
      cases e1
      exact ⟨o, q, hp, r, ρ', e2, h⟩
    · cases e1
  · cases e1
  · split at e1 <;> cases e1
  · cases e1
/-- a method that changes an owned object: g tells what comes -/
def MtV (X : Cx) (T : List (Addr × Str)) (r : V → List V → Hp → VK → Prop) (g : List D → O → Option (D × O)) : Prop :=
  ∀ (σ : L2.St) (ρ : Env) (w : Wl) (i : Nat) (v : V) (o : O) (xs : List V) (ds : List D) (d : D) (o' : O) (Q : VK), Cs X.K T σ ρ w → ρ[i]? = some (some o) → σ[i]? = some (some v) → RpA X.K w.F xs ds → g ds o = some (d, o') →
    (∀ w', Lw w w' → Cs X.K T σ (ρ.set i (some o')) w' → ∀ u, Rp X.K w'.F u d → Q u w'.H) → r v xs w.H Q
def isLst : O → Bool
  | .lst _ => true
  | _ => false
def isDic : O → Bool
  | .dic _ => true
  | _ => false
theorem tyV_lst {σ : L2.St} {ρ : Env} {w : Wl} {i : Nat} {o : O} {v : V} (c : Cs X.K T σ ρ w) (e : ρ[i]? = some (some o)) (hv : σ[i]? = some (some v)) (h : isLst o = true) : tyV X.K "list" v w.H := by
  obtain ⟨v', hv', r⟩ := c.sl i o e
  obtain rfl : v' = v := Option.some.inj (Option.some.inj (hv'.symm.trans hv))
  generalize w.fp i = fp at r
  cases r <;> try cases h
  rename_i a xs ds h1 h2 h3
  exact .inl ⟨rfl, xs, SqL.of h2⟩
theorem tyV_dic {σ : L2.St} {ρ : Env} {w : Wl} {i : Nat} {o : O} {v : V} (c : Cs X.K T σ ρ w) (e : ρ[i]? = some (some o)) (hv : σ[i]? = some (some v)) (h : isDic o = true) : tyV X.K "dict" v w.H := by
  obtain ⟨v', hv', r⟩ := c.sl i o e
  obtain rfl : v' = v := Option.some.inj (Option.some.inj (hv'.symm.trans hv))
  generalize w.fp i = fp at r
  cases r <;> try cases h
  rename_i a xs ds h1 h2 h3
  exact .inr (.inr (.inl ⟨rfl, .inl ⟨xs, h2⟩⟩))
/-- x.m(), x a name -/
theorem ev_m0 {K0 : PySem.W.Frag} {TT : String} {i : Nat} {r : V → List V → Hp → VK → Prop} {g : List D → O → Option (D × O)} {p : O → Bool} (hp : PE X e (tBM0 X.K TT r (tVar i))) (hv : MtV X T r g)
    (ht : ∀ (σ : L2.St) (ρ : Env) (w : Wl) (o : O) (v : V), Cs X.K T σ ρ w → ρ[i]? = some (some o) → σ[i]? = some (some v) → p o = true → tyV X.K TT v w.H) : EvD X W T e (chkO p i >>= fun _ => modM i (g [])) := by
  refine ⟨PE.imp hp fun σ H Q ⟨w, ρ, eH, c, co⟩ => ?_⟩
  subst eH
  obtain ⟨o0, e0, hp0, co⟩ := co.chkO
  obtain ⟨v, hv0, _⟩ := c.sl i o0 e0
  obtain ⟨o, d, o', e1, e2, k⟩ := co.modM
  exact ⟨v, hv0, ht σ ρ w o0 v c e0 hv0 hp0, hv σ ρ w i v o [] [] d o' Q c e1 hv0 .nil e2 fun w' l' c' u ru => k w' l' c' u ru⟩
/-- x.m(..), x a name -/
theorem ev_m {TT : String} {i : Nat} {r : V → List V → Hp → VK → Prop} {g : List D → O → Option (D × O)} {p : O → Bool} {es : List Expr} {f : M (List D)} (ha : EvA X W T es f) (hp : ∀ t, PA X es t → PE X e (tBM X.K TT r (tVar i) t)) (hv : MtV X T r g)
    (ht : ∀ (σ : L2.St) (ρ : Env) (w : Wl) (o : O) (v : V), Cs X.K T σ ρ w → ρ[i]? = some (some o) → σ[i]? = some (some v) → p o = true → tyV X.K TT v w.H) : EvD X W T e (chkO p i >>= fun _ => f >>= fun ds => modM i (g ds)) := by
  refine ⟨PE.imp (hp _ ha.pa) fun σ H Q ⟨w, ρ, eH, c, co⟩ => ?_⟩
  subst eH
  obtain ⟨o0, e0, hp0, co⟩ := co.chkO
  obtain ⟨v, hv0, _⟩ := c.sl i o0 e0
  refine ⟨v, hv0, ht σ ρ w o0 v c e0 hv0 hp0, w, ρ, rfl, c, co.bind.mono fun ds ρ1 w1 l1 c1 k vs r1 => ?_⟩
  obtain ⟨o, d, o', e1, e2, k⟩ := k.modM
  exact hv σ ρ1 w1 i v o vs ds d o' Q c1 e1 hv0 r1 e2 fun w' l' c' u ru => k w' (l1.trans l') c' u ru
/-! ### lists -/
theorem Cs.wrL {K : PySem.W.Frag} {T : List (Addr × Str)} {σ : L2.St} {ρ : Env} {w : Wl} (c : Cs K T σ ρ w) {i : Nat} {ds : List D} {v : V} (e : ρ[i]? = some (some (.lst ds))) (hv : σ[i]? = some (some v)) :
    ∃ a xs, v = .ref a ∧ w.H a = some (.lst xs) ∧ RpA K w.F xs ds ∧ ∀ xs' ds', RpA K w.F xs' ds' → Cs K T σ (ρ.set i (some (.lst ds'))) (w.put a (.lst xs')) ∧ Lw w (w.put a (.lst xs')) := by
  obtain ⟨v', hv', r⟩ := c.sl i _ e
  obtain rfl : v' = v := Option.some.inj (Option.some.inj (hv'.symm.trans hv))
  generalize hfp : w.fp i = fp at r
  cases r with
  | @lst a xs _ h1 h2 h3 =>
    refine ⟨a, xs, rfl, h2, h3, fun xs' ds' r' => c.wr (v := .ref a) e hv (by rw [hfp]; exact List.mem_cons_self) trivial ?_⟩
    rw [hfp]
    exact .lst h1 upd_same r'
theorem Cs.wrD {K : PySem.W.Frag} {T : List (Addr × Str)} {σ : L2.St} {ρ : Env} {w : Wl} (c : Cs K T σ ρ w) {i : Nat} {ds : List (Key × D)} {v : V} (e : ρ[i]? = some (some (.dic ds))) (hv : σ[i]? = some (some v)) :
    ∃ a xs, v = .ref a ∧ w.H a = some (.dK xs) ∧ RpD K w.F xs ds ∧ ∀ xs' ds', RpD K w.F xs' ds' → Cs K T σ (ρ.set i (some (.dic ds'))) (w.put a (.dK xs')) ∧ Lw w (w.put a (.dK xs')) := by
  obtain ⟨v', hv', r⟩ := c.sl i _ e
  obtain rfl : v' = v := Option.some.inj (Option.some.inj (hv'.symm.trans hv))
  generalize hfp : w.fp i = fp at r
  cases r with
  | @dic a xs _ h1 h2 h3 =>
    refine ⟨a, xs, rfl, h2, h3, fun xs' ds' r' => c.wr (v := .ref a) e hv (by rw [hfp]; exact List.mem_cons_self) trivial ?_⟩
    rw [hfp]
    exact .dic h1 upd_same r'
def appG : List D → O → Option (D × O)
  | [d], .lst ds => if ds.length < sizeLine then some (.none, .lst (ds ++ [d])) else none
  | _, _ => none
theorem mv_append : MtV X T rAppend appG := by
  intro σ ρ w i v o xs ds d o' Q c e hv r hg k
  unfold appG at hg
  split at hg
  · split at hg
    · rename_i hz
      cases hg
      obtain ⟨a, ys, rfl, hH, ra, h⟩ := c.wrL e hv
      cases r with
      | @cons x xs _ _ rx rr =>
        cases rr
        obtain ⟨c', l'⟩ := h _ _ (ra.append (.cons rx .nil))
        exact ⟨a, ys, x, rfl, rfl, hH, by rw [ra.length]; exact hz, k _ l' c' .non .non⟩
    · cases hg
  · cases hg
def popG : List D → O → Option (D × O)
  | [], .lst ds => (ds[ds.length - 1]?).map fun d => (d, .lst ds.dropLast)
  | _, _ => none
theorem RpA.dropLast {K : PySem.W.Frag} {F : Hp} {vs : List V} {ds : List D} (h : RpA K F vs ds) : RpA K F vs.dropLast ds.dropLast := by
  rw [List.dropLast_eq_take, List.dropLast_eq_take, h.length]
  exact h.take _
theorem mv_pop : MtV X T rPop popG := by
  intro σ ρ w i v o xs ds d o' Q c e hv r hg k
  unfold popG at hg
  split at hg
  · rename_i ds
    obtain ⟨d', e1, e2⟩ := Option.map_eq_some_iff.mp hg
    cases e2
    obtain ⟨a, ys, rfl, hH, ra, h⟩ := c.wrL e hv
    cases r
    obtain ⟨y, hy, ry⟩ := ra.get e1
    obtain ⟨c', l'⟩ := h _ _ ra.dropLast
    exact ⟨a, ys, y, rfl, rfl, hH, by rw [ra.length]; exact hy, k _ l' c' y (Rp.mono' l'.le ry)⟩
  · cases hg
theorem list_extend_tup (l : Addr) (items : Array Value) (n : Nat) (b : Addr) (items2 : Array Value) (n2 : Nat) (dd : Option Addr) (sl : Array (Option Value)) (hs0 : ¬(!items.isEmpty && Builtin.List.listTooLong (items.size + items2.size)) = true) (hs1 : items.size ≤ sizeLine) (hs2 : items.size + items2.size ≤ sizeLine) :
    Meets (Builtin.«list.extend» ⟨[.ref l, .ref b], []⟩) (fun _ R s => s.heap.get? l = some { cls := .type "list", dict := none, data := .seq items n, slots := #[] } ∧ s.heap.get? b = some { cls := .type "tuple", dict := dd, data := .seq items2 n2, slots := sl } ∧ R (.ok (.ret Value.none)) { s with heap := s.heap.update l (Obj.mapSeq fun x => x ++ items2), toks := s.toks }) :=
  .of_wp fun prog w A R s h => by
    obtain ⟨hp, g, d, tk, os⟩ := s
    obtain ⟨hl, hb, h⟩ := h
    have f1 := AutoSeq1.idx_int
    have f2 := AutoSeq1.sub_tuple_tuple
    have f3 := AutoSeq1.sub_list_list
    have f4 := AutoSeq1.sub_tuple_list
    have f5 := AutoSeq1.sub_list_tuple
    have hz' : (items ++ items2).size ≤ sizeLine + 1 := by rw [Array.size_append]; omega
    wp_walk using (wpAny_updateSeq hl rfl (hz := hs1) (_hz' := hz')), wpAny_loadPart' hl, wpAny_loadPart' hb
    exact ⟨_, rfl, h⟩
def rExtT (K : PySem.W.Frag) : V → List V → Hp → VK → Prop := fun x vs H Q => ∃ l b xs zs, x = .ref l ∧ vs = [.ref b] ∧ H l = some (.lst xs) ∧ SqT K H b zs ∧ xs.length + zs.length ≤ sizeLine ∧ Q .non (upd H l (.lst (xs ++ zs)))
theorem mt_extT : MtM X "list.extend" (rExtT X.K) := by
  intro pins s σ H x vs v us Q I rx rv h
  obtain ⟨l, b, xs, zs, rfl, rfl, hH, hB, hz, q⟩ := h
  cases rx
  obtain ⟨u, rfl, ru⟩ := rv.one
  cases ru
  obtain ⟨z, its, n, r, hl, e⟩ := I.lstM hH
  obtain ⟨its2, r2, ⟨⟨cls, dd, data, sl⟩, ho, hc, n2, hd⟩, hs⟩ := I.tuple hB
  simp only at hc hd
  subst hc hd
  have hl2 := r2.length
  have hsz : its.toArray.size + its2.toArray.size ≤ sizeLine := by rw [List.size_toArray, List.size_toArray]; omega
  have hlong : ¬ (!its.toArray.isEmpty && Builtin.List.listTooLong (its.toArray.size + its2.toArray.size)) = true := by
    rw [notLongL hsz, Bool.and_false]
    exact Bool.false_ne_true
  refine call_meets F.slot_list_extend ⟨_, e, rfl⟩ F.entry_list_extend (F.args_list_extend_2 _ _)
    (list_extend_tup l its.toArray n b its2.toArray n2 dd sl hlong (by rw [List.size_toArray]; omega) hsz) ⟨e, ho, ?_⟩
  refine ⟨.non, _, I.lset (its' := its ++ its2) (t' := s.toks) hH e (by simp) (r.append r2) ?_, rfl, q⟩
  rw [List.length_append]
  omega
def extG : List D → O → Option (D × O)
  | [.list es], .lst ds => if ds.length + es.length ≤ sizeLine then some (.none, .lst (ds ++ es)) else none
  | [.tuple es], .lst ds => if ds.length + es.length ≤ sizeLine then some (.none, .lst (ds ++ es)) else none
  | _, _ => none
def rExtA (K : PySem.W.Frag) : V → List V → Hp → VK → Prop := fun x vs H Q => rExtend x vs H Q ∨ rExtT K x vs H Q
theorem mv_extend : MtV X T (rExtA X.K) extG := by
  intro σ ρ w i v o xs ds d o' Q c e hv r hg k
  unfold extG at hg
  split at hg
  · split at hg
    · rename_i hz
      cases hg
      obtain ⟨a, ys, rfl, hH, ra, h⟩ := c.wrL e hv
      cases r with
      | @cons x xs _ _ rx rr =>
        cases rr
        cases rx with
        | @lst b zs _ hb rb =>
          obtain ⟨c', l'⟩ := h _ _ (ra.append rb)
          exact .inl ⟨a, b, ys, zs, rfl, rfl, hH, c.lstH hb, by rw [ra.length, rb.length]; exact hz, k _ l' c' .non .non⟩
    · cases hg
  · split at hg
    · rename_i hz
      cases hg
      obtain ⟨a, ys, rfl, hH, ra, h⟩ := c.wrL e hv
      cases r with
      | @cons x xs _ _ rx rr =>
        cases rr
        cases rx with
        | @tup b zs _ hb rb =>
          obtain ⟨c', l'⟩ := h _ _ (ra.append rb)
          exact .inr ⟨a, b, ys, zs, rfl, rfl, hH, c.tupS hb, by rw [ra.length, rb.length]; exact hz, k _ l' c' .non .non⟩
    · cases hg
  · cases hg
end
end Sh
set_option Elab.async false
set_option linter.all false
set_option maxRecDepth 100000
set_option maxHeartbeats 2000000
/-! Sh, part O: methods, as they are written. -/
namespace Sh
open PySem PySem.Spec PyProof.Rows L2
section
variable {X : Cx} {W : WX} {T : List (Addr × Str)} {a b e : Expr} {es : List Expr} {n : Str} {i : Nat} {pos cpos apos q : Pos} {f : M (List D)}
theorem mt_extA : MtR X "list.extend" (rExtA X.K) := MtR.or mt_extend mt_extT
theorem ev_append (hn : PE X (.Name n q) (tVar i)) (ha : EvA X W T (e :: es) f)
    (hbase : attributeBase (.Name n q) "append" X.env (eval (.Name n q) X.env) = eval (.Name n q) X.env)
    (hfew : ((backTo cpos (starEach (e :: es) X.env)).all (fun x => !x.1) && (backToKw cpos (keywordEach [] X.env)).all (fun x => x.1.isSome)
      && decide ((e :: es).length + ([] : List Keyword).length + (if ([] : List Keyword).isEmpty then 0 else 1) < 30)) = true)
    (hline : (apos.endLine == cpos.line) = true) (hs : starEach (e :: es) X.env = (false, eval e X.env) :: starEach es X.env) (hplain : (backTo cpos (starEach es X.env)).any (·.1) = false) :
    EvD X W T (.Call (.Attribute (.Name n q) "append" apos) (e :: es) [] cpos) (chkO isLst i >>= fun _ => f >>= fun ds => modM i (appG ds)) :=
  ev_m ha (fun t ht => pe_bm F.plainAttrs_list F.slot_list_append F.type_list_append mt_append hn ht hbase hfew hline hs hplain) mv_append fun σ ρ w o v c e hv h => tyV_lst c e hv h
theorem ev_extend (hn : PE X (.Name n q) (tVar i)) (ha : EvA X W T (e :: es) f)
    (hbase : attributeBase (.Name n q) "extend" X.env (eval (.Name n q) X.env) = eval (.Name n q) X.env)
    (hfew : ((backTo cpos (starEach (e :: es) X.env)).all (fun x => !x.1) && (backToKw cpos (keywordEach [] X.env)).all (fun x => x.1.isSome)
      && decide ((e :: es).length + ([] : List Keyword).length + (if ([] : List Keyword).isEmpty then 0 else 1) < 30)) = true)
    (hline : (apos.endLine == cpos.line) = true) (hs : starEach (e :: es) X.env = (false, eval e X.env) :: starEach es X.env) (hplain : (backTo cpos (starEach es X.env)).any (·.1) = false) :
    EvD X W T (.Call (.Attribute (.Name n q) "extend" apos) (e :: es) [] cpos) (chkO isLst i >>= fun _ => f >>= fun ds => modM i (extG ds)) :=
  ev_m ha (fun t ht => pe_bm F.plainAttrs_list F.slot_list_extend F.type_list_extend mt_extA hn ht hbase hfew hline hs hplain) mv_extend fun σ ρ w o v c e hv h => tyV_lst c e hv h
theorem ev_pop (hn : PE X (.Name n q) (tVar i)) (hbase : attributeBase (.Name n q) "pop" X.env (eval (.Name n q) X.env) = eval (.Name n q) X.env) (hline : (apos.endLine == cpos.line) = true) :
    EvD X W T (.Call (.Attribute (.Name n q) "pop" apos) [] [] cpos) (chkO isLst i >>= fun _ => modM i (popG [])) :=
  ev_m0 (K0 := X.K) (pe_bm0 F.plainAttrs_list F.slot_list_pop F.type_list_pop mt_pop hn hbase hline) mv_pop fun σ ρ w o v c e hv h => tyV_lst c e hv h
/-! ### k in x, x a name -/
def inOG (d : D) (o : O) : Option Bool := match o with
  | .dic kds => (keyD d).map fun k => (dlook kds k).isSome
  | .dil _ => none
  | .scr _ => none
  | .lst es => inB d (.list es)
  | .dat e => inB d e
def inN (i : Nat) (f : M D) : M Bool := f >>= fun d => bor i >>= fun o => lift (inOG d o)
def notinN (i : Nat) (f : M D) : M Bool := f >>= fun d => bor i >>= fun o => lift (inOG d o) >>= fun b => Pure.pure (!b)
theorem inO_main {w : Wl} {σ : L2.St} {ρ : Env} {x y : V} {d : D} {o : O} {k : Bool} {fp : List Addr} (c : Cs X.K T σ ρ w) (h1 : Rp X.K w.F x d) (h2 : RpO X.K w.F w.H y o fp) (h3 : inOG d o = some k) :
    (∃ p xs, y = .ref p ∧ (SqL X.K w.H p xs ∨ SqT X.K w.H p xs) ∧ flatV x = true ∧ xs.all flatV = true ∧ k = inV x xs) ∨ (∃ a o, y = .ref a ∧ DGet w.H a x o ∧ k = o.isSome) ∨ ∃ (c : Nat) (z : Str), x = .str ⟨#[c]⟩ ∧ y = .str z ∧ k = decide (c ∈ z.cps.toList) := by
  cases h2 with
  | dat h2 => exact in_main c h1 h2 h3
  | scr _ => cases h3
  | dil _ _ _ _ => cases h3
  | @lst a xs ds hF hH ra =>
    unfold inOG inB at h3
    simp only at h3
    split at h3
    · rename_i hf
      cases h3
      exact .inl ⟨a, xs, rfl, .inl (SqL.of hH), by rw [flat_iff h1]; exact hf.1, by rw [flat_all ra]; exact hf.2, (inV_eq h1 hf.1 ra hf.2).symm⟩
    · cases h3
  | @dic a kvs kds hF hH ra =>
    unfold inOG at h3
    obtain ⟨q, e1, e2⟩ := Option.map_eq_some_iff.mp h3
    refine .inr (.inl ⟨a, valV kvs q, rfl, .inl ⟨kvs, q, .inl hH, keyD_v e1 h1, rfl⟩, ?_⟩)
    rw [← e2]
    obtain ⟨l1, l2⟩ := ra.look q
    cases e : dlook kds q with
    | none => rw [l2 e]; rfl
    | some d' =>
      obtain ⟨v, ev, _⟩ := l1 d' e
      rw [ev]
      rfl
theorem et_inN {g : M D} (hu : X.A.units + 1 < cLine) (ha : EvD X W T a g) (hn : PE X (.Name n q) (tVar i)) (hm : behindInMarks .In (.Name n q) = false) : EvT X W T (.Compare a [.In] [.Name n q] pos) (inN i g) := by
  refine ⟨PT.imp (pt_cmpR (op_inA hu) ha.pe hn hm) fun σ H Q ⟨w, ρ, eH, c, co⟩ => ?_⟩
  subst eH
  refine ⟨w, ρ, rfl, c, co.bind.mono fun d ρ1 w1 l1 c1 k v r => ?_⟩
  obtain ⟨o, eo, k⟩ := k.bor
  obtain ⟨bb, eb, k⟩ := k.lift
  obtain ⟨y, hy, ry⟩ := c1.sl i o eo
  refine ⟨y, hy, ?_⟩
  have q := k w1 l1 c1
  rcases inO_main c1 r ry eb with ⟨p, xs, e1, e2, e3, e4, e5⟩ | ⟨a, ov, e1, e2, e3⟩ | ⟨ch, z, e1, e2, e3⟩
  · exact .inl ⟨p, xs, e1, e2, e3, e4, by rw [if_neg Bool.false_ne_true, ← e5]; exact ⟨bb, rfl, q⟩⟩
  · exact .inr (.inl ⟨a, ov, e1, e2, by rw [← e3]; exact ⟨bb, rfl, q⟩⟩)
  · exact .inr (.inr ⟨ch, z, e1, e2, by rw [← e3]; exact ⟨bb, rfl, q⟩⟩)
theorem et_notinN {g : M D} (hu : X.A.units + 1 < cLine) (ha : EvD X W T a g) (hn : PE X (.Name n q) (tVar i)) (hm : behindInMarks .NotIn (.Name n q) = false) : EvT X W T (.Compare a [.NotIn] [.Name n q] pos) (notinN i g) := by
  refine ⟨PT.imp (pt_cmpR (op_notInA hu) ha.pe hn hm) fun σ H Q ⟨w, ρ, eH, c, co⟩ => ?_⟩
  subst eH
  refine ⟨w, ρ, rfl, c, co.bind.mono fun d ρ1 w1 l1 c1 k v r => ?_⟩
  obtain ⟨o, eo, k⟩ := k.bor
  obtain ⟨bb, eb, k⟩ := k.lift_bind'
  obtain ⟨y, hy, ry⟩ := c1.sl i o eo
  refine ⟨y, hy, ?_⟩
  have q := k.pure w1 l1 c1
  rcases inO_main c1 r ry eb with ⟨p, xs, e1, e2, e3, e4, e5⟩ | ⟨a, ov, e1, e2, e3⟩ | ⟨ch, z, e1, e2, e3⟩
  · exact .inl ⟨p, xs, e1, e2, e3, e4, by rw [if_pos rfl, ← e5]; exact ⟨!bb, rfl, q⟩⟩
  · exact .inr (.inl ⟨a, ov, e1, e2, by rw [← e3]; exact ⟨!bb, rfl, q⟩⟩)
  · exact .inr (.inr ⟨ch, z, e1, e2, by rw [← e3]; exact ⟨!bb, rfl, q⟩⟩)
/-! ### x[k].append(d), x a dict of owned lists -/
def lLook (kls : List (Key × List D)) (k : Key) : Option (List D) := (kls.find? fun p => decide (p.1 = k)).map (·.2)
def lSet (kls : List (Key × List D)) (k : Key) (ds : List D) : List (Key × List D) := kls.map fun p => if p.1 = k then (p.1, ds) else p
theorem RpL.look {K : PySem.W.Frag} {F H : Hp} {k : Key} : ∀ {kvs : List (Key × V)} {kls : List (Key × List D)} {fp : List Addr}, RpL K F H kvs kls fp → fp.Nodup → (kls.map (·.1)).Nodup → ∀ {ds : List D}, lLook kls k = some ds →
    ∃ b xs, valV kvs k = some (.ref b) ∧ b ∈ fp ∧ H b = some (.lst xs) ∧ RpA K F xs ds ∧ ∀ xs' ds', RpA K F xs' ds' → RpL K F (upd H b (.lst xs')) kvs (lSet kls k ds') fp
  | _, _, _, .nil, _, _, _, h => by cases h
  | _, _, _, @RpL.cons _ _ _ k' b xs ds vs s fp h1 h2 h3 t, hd, hk, ds', h => by
    obtain ⟨nb, hd'⟩ := List.nodup_cons.mp hd
    rw [List.map_cons] at hk
    obtain ⟨nk, hk'⟩ := List.nodup_cons.mp hk
    by_cases e : k' = k
    · have e' : ds = ds' := by
        unfold lLook at h
        rw [List.find?_cons, decide_eq_true e] at h
        exact Option.some.inj h
      subst e'
      refine ⟨b, xs, valV_pos e, List.mem_cons_self, h2, h3, fun xs' ds2 r => ?_⟩
      have es : lSet ((k', ds) :: s) k ds2 = (k', ds2) :: s := by
        unfold lSet
        rw [List.map_cons]
        congr 1
        · simp [e]
        · conv => rhs; rw [← List.map_id s]
          apply List.map_congr_left
          intro p hp
          have : ¬ p.1 = k := fun z => nk (by rw [e, ← z]; exact List.mem_map.mpr ⟨p, hp, rfl⟩)
          simp [this]
      rw [es]
      exact .cons h1 upd_same r (t.frame (fun _ _ e => e) fun a z => ⟨upd_ne fun q => nb (q ▸ z), (t.at a z).1⟩)
    · have h' : lLook s k = some ds' := by
        unfold lLook at h ⊢
        rw [List.find?_cons, decide_eq_false e] at h
        exact h
      obtain ⟨b', xs', q1, q2, q3, q4, q5⟩ := RpL.look t hd' hk' h'
      refine ⟨b', xs', by rw [valV_neg e]; exact q1, List.mem_cons_of_mem _ q2, q3, q4, fun x2 d2 r => ?_⟩
      have es : lSet ((k', ds) :: s) k d2 = (k', ds) :: lSet s k d2 := by
        unfold lSet
        rw [List.map_cons]
        simp [e]
      rw [es]
      have nbb : b ≠ b' := fun z => nb (z ▸ q2)
      exact .cons h1 (by rw [upd_ne nbb]; exact h2) h3 (q5 x2 d2 r)
end
end Sh
set_option Elab.async false
set_option linter.all false
set_option maxRecDepth 100000
set_option maxHeartbeats 2000000
/-! Sh, part P: x[k].append(d), x a dict of owned lists. -/
namespace Sh
open PySem PySem.Spec PyProof.Rows L2
theorem Lw.same {K : PySem.W.Frag} {w w' : Wl} (x : Lw w w') {v : V} {o : O} {fp : List Addr} (h : RpO K w.F w.H v o fp) (n : ∀ a ∈ fp, ¬ w.own a) : ∀ a ∈ fp, w'.H a = w.H a ∧ w'.F a = none ∧ ¬ w'.own a := by
  have hat := h.at
  intro a z
  obtain ⟨h1, h2⟩ := hat a z
  cases e : w.H a with
  | none => rw [e] at h2; exact h2.elim
  | some u =>
    refine ⟨x.keep a u e (n a z) (own1_tbl h2 u e), ?_, fun q => ?_⟩
    · cases q : w'.F a with
      | none => rfl
      | some u' =>
        rcases x.newF a (by rw [q]; simp) with y | y | y
        · exact absurd h1 y
        · exact absurd y (n a z)
        · exact (y.own1 h2).elim
    · rcases x.newO a q with y | y
      · exact n a z y
      · exact y.own1 h2
/-- the slot's object, taken out -/
def takeO (i : Nat) : M O := fun ρ => match ρ[i]? with
  | some (some o) => some (.ok o, ρ.set i none)
  | _ => none
def putO (i : Nat) (o : O) : M Unit := fun ρ => if i < ρ.length then some (.ok (), ρ.set i (some o)) else none
section
variable {X : Cx} {W : WX} {T : List (Addr × Str)}
theorem Co.take {β : Type} {i : Nat} {k : O → M β} {σ : L2.St} {w0 : Wl} {ρ : Env} {C : β → Env → Wl → Prop} (h : Co X W T (takeO i >>= k) σ w0 ρ C) : ∃ o, ρ[i]? = some (some o) ∧ Co X W T (k o) σ w0 (ρ.set i none) C := by
  obtain ⟨r, ρ', e, h⟩ := h
  rcases bind_inv e with ⟨a, ρ1, e1, e2⟩ | ⟨x, ρ1, e1, _⟩ <;> unfold takeO at e1 <;> split at e1
  · rename_i o q
    cases e1
    exact ⟨_, q, r, ρ', e2, h⟩
  · cases e1
  · cases e1
  · cases e1
theorem Co.put {β : Type} {i : Nat} {o : O} {k : Unit → M β} {σ : L2.St} {w0 : Wl} {ρ : Env} {C : β → Env → Wl → Prop} (h : Co X W T (putO i o >>= k) σ w0 ρ C) : i < ρ.length ∧ Co X W T (k ()) σ w0 (ρ.set i (some o)) C := by
  obtain ⟨r, ρ', e, h⟩ := h
  rcases bind_inv e with ⟨a, ρ1, e1, e2⟩ | ⟨x, ρ1, e1, _⟩ <;> unfold putO at e1 <;> split at e1
  · rename_i hi
    cases e1
    exact ⟨hi, r, ρ', e2, h⟩
  · cases e1
  · cases e1
  · cases e1
/-- the lists, the key, the list there -/
def dilKey (o : O) (k : D) : Option (List (Key × List D) × Key × List D) := match o with
  | .dil kls => if (kls.map (·.1)).Nodup then (keyD k).bind fun q => (lLook kls q).map fun ds => (kls, q, ds) else none
  | _ => none
def dilApp (i : Nat) (fk fd : M D) : M D := takeO i >>= fun o => fk >>= fun k => lift (dilKey o k) >>= fun r => fd >>= fun d => guardM (decide (r.2.2.length < sizeLine)) >>= fun _ => putO i (.dil (lSet r.1 r.2.1 (r.2.2 ++ [d]))) >>= fun _ => Pure.pure .none
theorem ev_dilApp {i : Nat} {nm : Expr} {b e : Expr} {pos apos cpos : Pos} {fk fd : M D} (hu : X.A.units + 1 < cLine) (hn : PE X nm (tVar i)) (hb : EvD X W T b fk) (hs : PlainIx b) (hd : EvD X W T e fd)
    (hbase : attributeBase (.Subscript nm b pos) "append" X.env (eval (.Subscript nm b pos) X.env) = eval (.Subscript nm b pos) X.env)
    (hfew : ((backTo cpos (starEach [e] X.env)).all (fun x => !x.1) && (backToKw cpos (keywordEach [] X.env)).all (fun x => x.1.isSome)
      && decide ([e].length + ([] : List Keyword).length + (if ([] : List Keyword).isEmpty then 0 else 1) < 30)) = true)
    (hline : (apos.endLine == cpos.line) = true) (hst : starEach [e] X.env = (false, eval e X.env) :: starEach [] X.env) :
    EvD X W T (.Call (.Attribute (.Subscript nm b pos) "append" apos) [e] [] cpos) (dilApp i fk fd) := by
  have hp := pe_bm F.plainAttrs_list F.slot_list_append F.type_list_append mt_append (pe_ix (pos := pos) (ix_any hu) hn hb.pe hs) (pa_cons hd.pe pa_nil hst) hbase hfew hline hst rfl
  refine ⟨PE.imp hp fun σ H Q ⟨w, ρ, eH, c, co⟩ => ?_⟩
  subst eH
  obtain ⟨o, eo, co⟩ := co.take
  obtain ⟨v, hv, ro, c0, ap, nw⟩ := c.out eo
  have hi : i < ρ.length := (List.getElem?_eq_some_iff.mp eo).1
  have l0 : Lw w (w.slot i []) := (Lw.refl w).slot (fun a z => by cases z)
  refine ⟨v, hv, w.slot i [], ρ.set i none, rfl, c0, (co.bind.base l0).mono fun k ρ1 w1 l1 c1 co u ru => ?_⟩
  obtain ⟨⟨kls, key, ds⟩, er, co2⟩ := co.lift_bind'
  have hsame1 := l1.same (K := X.K) (w := w.slot i []) ro ap
  generalize hfp : w.fp i = fp at ro ap nw hsame1
  unfold dilKey at er
  split at er
  · rename_i kls0
    split at er
    · rename_i hnd
      obtain ⟨key', ek, er⟩ := Option.bind_eq_some_iff.mp er
      obtain ⟨ds', el, er⟩ := Option.map_eq_some_iff.mp er
      cases er
      cases ro with
      | @dil a kvs _ fp' hF hH rl nd =>
        have ha : a ∈ a :: fp' := List.mem_cons_self
        have sub' : ∀ x, x ∈ fp' → x ∈ a :: fp' := fun x z => List.mem_cons_of_mem _ z
        have nd' := (List.nodup_cons.mp nd).2
        have rl1 : RpL X.K w1.F w1.H kvs kls fp' := rl.frame l1.le fun x z => ⟨(hsame1 x (sub' x z)).1, (hsame1 x (sub' x z)).2.1⟩
        obtain ⟨b0, xs, hval, hb0, hHb, rb, _⟩ := rl1.look nd' hnd el
        refine .inr ⟨a, .ref b0, rfl, .inl ⟨kvs, key, .inl ((hsame1 a ha).1.trans hH), keyD_v ek ru, hval.symm⟩, .inl ⟨rfl, xs, SqL.of hHb⟩, ?_⟩
        refine ⟨w1, ρ1, rfl, c1, (co2.bind.base (l0.trans l1)).mono fun d ρ2 w2 l2 c2 co3 y ry => ?_⟩
        have ap1 : ∀ x ∈ a :: fp', ¬ w1.own x := fun x z => (hsame1 x z).2.2
        have ro1 : RpO X.K w1.F w1.H (.ref a) (.dil kls) (a :: fp') := .dil (hsame1 a ha).2.1 ((hsame1 a ha).1.trans hH) rl1 nd
        have hsame2 := l2.same ro1 ap1
        have rl2 : RpL X.K w2.F w2.H kvs kls fp' := rl1.frame l2.le fun x z => ⟨(hsame2 x (sub' x z)).1, (hsame2 x (sub' x z)).2.1⟩
        have ro2 : RpO X.K w2.F w2.H (.ref a) (.dil kls) (a :: fp') := .dil (hsame2 a ha).2.1 ((hsame2 a ha).1.trans ((hsame1 a ha).1.trans hH)) rl2 nd
        have ap2 : Ap w2 (a :: fp') := fun x z => (hsame2 x z).2.2
        obtain ⟨hz, co4⟩ := co3.guard_bind' ((l0.trans l1).trans l2) c2
        obtain ⟨hi2, co5⟩ := co4.put
        have c3 := c2.back hi2 hv ro2 ap2
        have l3 : Lw w (w2.slot i (a :: fp')) := ((l0.trans l1).trans l2).slot nw
        obtain ⟨b2, xs2, hval2, hb2, hHb2, rb2, hset⟩ := rl2.look nd' hnd el
        have eb : b2 = b0 := by
          rw [hval] at hval2
          cases hval2
          rfl
        subst eb
        have nab : a ≠ b2 := fun z => (List.nodup_cons.mp nd).1 (z ▸ hb2)
        have hfpi : (w2.slot i (a :: fp')).fp i = a :: fp' := by
          show (if i = i then a :: fp' else w2.fp i) = _
          rw [if_pos rfl]
        have r4 : RpO X.K w2.F (upd w2.H b2 (.lst (xs2 ++ [y]))) (.ref a) (.dil (lSet kls key (ds ++ [d]))) (a :: fp') :=
          .dil (hsame2 a ha).2.1 (by rw [upd_ne nab]; exact (hsame2 a ha).1.trans ((hsame1 a ha).1.trans hH)) (hset _ _ (rb2.append (.cons ry .nil))) nd
        obtain ⟨c4, l4⟩ := c3.wr (i := i) (o' := .dil (lSet kls key (ds ++ [d]))) (v := .ref a) (a := b2) (u := .lst (xs2 ++ [y])) (List.getElem?_set_self hi2) hv (by rw [hfpi]; exact sub' b2 hb2) trivial (by rw [hfpi]; exact r4)
        rw [List.set_set] at c4
        refine ⟨b2, xs2, y, rfl, rfl, hHb2, by rw [rb2.length]; exact of_decide_eq_true hz, ?_⟩
        exact co5.pure _ (l3.trans l4) c4 .non .non
    · cases er
  · cases er
end
end Sh
set_option Elab.async false
set_option linter.all false
set_option maxRecDepth 100000
set_option maxHeartbeats 2000000
/-! Sh, part Q: dict(..), sorted, min. -/
namespace Sh
open PySem PySem.Spec PyProof.Rows L2
/-! ### keys put -/
def putD (kds : List (Key × D)) (k : Key) (d : D) : List (Key × D) := if (kds.any fun kv => decide (kv.1 = k)) = true then kds.map (fun kv => if kv.1 = k then (kv.1, d) else kv) else kds ++ [(k, d)]
def mergeD (kds more : List (Key × D)) : List (Key × D) := more.foldl (fun acc kv => putD acc kv.1 kv.2) kds
section
variable {K : PySem.W.Frag} {F : Hp}
theorem RpD.any {kvs : List (Key × V)} {kds : List (Key × D)} (h : RpD K F kvs kds) (p : Key → Bool) : (kvs.any fun kv => p kv.1) = kds.any fun kv => p kv.1 := by
  induction h with
  | nil => rfl
  | cons _ _ ih => rw [List.any_cons, List.any_cons, ih]
theorem RpD.append {a b : List (Key × V)} {c d : List (Key × D)} (h : RpD K F a c) (g : RpD K F b d) : RpD K F (a ++ b) (c ++ d) := by
  induction h with
  | nil => exact g
  | cons r _ ih => exact .cons r ih
theorem RpD.map {v : V} {d : D} (r : Rp K F v d) (k : Key) {kvs : List (Key × V)} {kds : List (Key × D)} (h : RpD K F kvs kds) : RpD K F (kvs.map fun kv => if kv.1 = k then (kv.1, v) else kv) (kds.map fun kv => if kv.1 = k then (kv.1, d) else kv) := by
  induction h with
  | nil => exact .nil
  | @cons k' v' vs d' ds r' _ ih =>
    rw [List.map_cons, List.map_cons]
    by_cases e : k' = k
    · simp only [if_pos e]
      exact .cons r ih
    · simp only [if_neg e]
      exact .cons r' ih
theorem RpD.put {v : V} {d : D} (r : Rp K F v d) (k : Key) {kvs : List (Key × V)} {kds : List (Key × D)} (h : RpD K F kvs kds) : RpD K F (putK kvs k v) (putD kds k d) := by
  unfold putK putD
  rw [h.any fun x => decide (x = k)]
  split
  · exact h.map r k
  · exact h.append (.cons r .nil)
theorem RpD.merge {more : List (Key × V)} {more' : List (Key × D)} (h : RpD K F more more') : ∀ {kvs : List (Key × V)} {kds : List (Key × D)}, RpD K F kvs kds → RpD K F (mergeK kvs more) (mergeD kds more') := by
  induction h with
  | nil => intro kvs kds g; exact g
  | cons r _ ih =>
    intro kvs kds g
    exact ih (g.put r _)
end
section
variable {X : Cx} {W : WX} {T : List (Addr × Str)}
/-! ### dict(..) of pairs -/
def rDictT (K : PySem.W.Frag) : List V → Hp → VK → Prop := fun xs H Q => ∃ (a : Addr) (o : Obj) (ps : List Addr) (kvs : List (Key × V)), xs = [.ref a] ∧ H a = some (.frz o (.tup (ps.map V.ref))) ∧ o.dict = none ∧ Paired (fun p kv => SqT K H p [kV kv.1, kv.2]) ps kvs ∧
  ∀ p, H p = none → Q (.ref p) (upd H p (.dK (mergeK [] kvs)))
theorem pairs_of2 {pins : List (Addr × Obj)} {σ : L2.St} {H : Hp} {s : Shared} (I : Inv X pins σ H s) : ∀ {ps : List Addr} {kvs : List (Key × V)}, Paired (fun p kv => SqT X.K H p [kV kv.1, kv.2]) ps kvs →
    ∃ (prs : List (Key × Value)) (qs : List (Value × Value)), KV kvs prs ∧ prs.length = ps.length ∧ qs.length = ps.length ∧ ∀ (j : Nat) (k v : Value), qs[j]? = some (k, v) → ∃ (b : Addr) (q : Key), ps[j]? = some b ∧ prs[j]? = some (q, v) ∧ IsTup s.heap b #[k, v] ∧ keyIs q k = true
  | _, _, .nil => ⟨[], [], .nil, rfl, rfl, fun j k v e => by simp at e⟩
  | _, _, .cons (a := p) (b := kv) h t => by
    obtain ⟨prs, qs, r, hl, hl2, hp⟩ := pairs_of2 I t
    obtain ⟨its, rv, ht, _⟩ := I.tuple h
    obtain ⟨u, y, ei, ru, ry⟩ := vals2 rv
    subst ei
    refine ⟨(kv.1, y) :: prs, (u, y) :: qs, .cons ⟨rfl, ry⟩ r, by rw [List.length_cons, List.length_cons, hl], by rw [List.length_cons, List.length_cons, hl2], fun j k v e => ?_⟩
    cases j with
    | zero =>
      have e' : (u, y) = (k, v) := Option.some.inj e
      cases e'
      exact ⟨p, kv.1, rfl, rfl, ht, kV_is (P := X.prog) (w := X.w) ru⟩
    | succ j =>
      obtain ⟨b, q, e1, e2, e3, e4⟩ := hp j k v (by simpa using e)
      exact ⟨b, q, by simpa using e1, by simpa using e2, e3, e4⟩
theorem call_dictT (hcalm : X.calm = true) : CallR X (.type "dict") (rDictT X.K) := by
  intro pins s σ H xs us Q I r q
  obtain ⟨a, o, ps, kvs, ex, hq, hdn, hp, q⟩ := q
  subst ex
  obtain ⟨u, eu, rx⟩ := vals1 r
  subst eu
  cases rx
  obtain ⟨ho, hz, its, rv, o2, ho2, hc, n, hd⟩ := (show ObjOk X.prog X.w H s.heap a (.frz o (.tup (ps.map V.ref))) from I.hok a _ hq)
  obtain rfl : o2 = o := Option.some.inj (ho2.symm.trans ho)
  have ei := refs_at rv
  subst ei
  rw [List.length_map] at hz
  obtain ⟨prs, qs, rel, hl, hl2, hpr⟩ := pairs_of2 I hp
  have ok : PySem.PlainSeq "tuple" s.heap a (ps.map Value.ref).toArray ∧ PySem.PairItems s.heap (ps.map Value.ref).toArray (fun j => ps.getD j 0) qs := by
    refine ⟨⟨_, n, ho, hc, hdn, hd⟩, by simp [hl2], fun j k v e => ?_⟩
    obtain ⟨b, q, e1, e2, e3, e4⟩ := hpr j k v e
    refine ⟨?_, .inl ?_⟩
    · simp [List.getD, e1]
    · simp only [List.getD, e1, Option.getD_some]
      exact e3
  refine PySem.call_dict_pairs (knd := mixKind X.prog X.w) (kvs := prs) (PySem.PairArg.tuple a (ps.map Value.ref).toArray (fun j => ps.getD j 0) qs) (I.ok.hd hcalm) ok ⟨by rw [hl, hl2], fun j k v e => ?_⟩ (by rw [hl2]; exact hz) fun h' tk hd' k => ?_
  · obtain ⟨b, q, e1, e2, e3, e4⟩ := hpr j k v e
    exact ⟨q, e2, e4⟩
  · have hm : (s.heap.objs.size == sysModules) = false := beq_eq_false_iff_ne.mpr (Nat.ne_of_gt I.big)
    have hlen : (mergeK [] kvs).length ≤ sizeLine := by
      refine Nat.le_trans (length_mergeK kvs []) ?_
      rw [List.length_nil, Nat.zero_add, rel.length, hl]
      exact hz
    exact ⟨.ref s.heap.objs.size, upd H s.heap.objs.size (.dK (mergeK [] kvs)), I.laid (t' := tk) (fun b o e => k b o (by simp) e) (Nat.le_refl _) (show ObjOk X.prog X.w _ _ _ (.dK (mergeK [] kvs)) from ⟨hlen, hm, merged [] prs, KV.merge rel .nil, hd'⟩), rfl, q _ (I.hok.fresh (Nat.le_refl _))⟩
def pairsD : List D → Option (List (Key × D))
  | [] => some []
  | .tuple [k, v] :: r => (keyD k).bind fun q => (pairsD r).map fun l => (q, v) :: l
  | _ => none
theorem pairsD_rp {σ : L2.St} {ρ : Env} {w : Wl} (c : Cs X.K T σ ρ w) : ∀ {vs : List V} {ds : List D} {kds : List (Key × D)}, RpA X.K w.F vs ds → pairsD ds = some kds → ∃ ps kvs, vs = ps.map V.ref ∧ Paired (fun p kv => SqT X.K w.H p [kV kv.1, kv.2]) ps kvs ∧ RpD X.K w.F kvs kds
  | _, [], _, r, h => by
    cases h
    cases r
    exact ⟨[], [], rfl, .nil, .nil⟩
  | _, d :: ds, kds, r, h => by
    unfold pairsD at h
    split at h
    · rename_i z1; cases z1
    · rename_i k v r0 z1
      cases z1
      obtain ⟨q, e1, h⟩ := Option.bind_eq_some_iff.mp h
      obtain ⟨l, e2, h⟩ := Option.map_eq_some_iff.mp h
      subst h
      cases r with
      | cons r1 r2 =>
        obtain ⟨ps, kvs, e3, p3, r3⟩ := pairsD_rp c r2 e2
        cases r1 with
        | @tup a xs _ ha ra =>
          cases ra with
          | cons rk ra =>
            cases ra with
            | cons rv ra =>
              cases ra
              have ek := keyD_v e1 rk
              subst ek e3
              exact ⟨a :: ps, (q, _) :: kvs, rfl, .cons (c.tupS ha) p3, .cons rv r3⟩
    · cases h
def rDictA (K : PySem.W.Frag) : List V → Hp → VK → Prop := fun xs H Q => (∃ (a : Addr) (ps : List Addr) (kvs : List (Key × V)), xs = [.ref a] ∧ SqL K H a (ps.map V.ref) ∧ Paired (fun p kv => SqT K H p [kV kv.1, kv.2]) ps kvs ∧
    ∀ p, H p = none → Q (.ref p) (upd H p (.dK (mergeK [] kvs)))) ∨ rDictT K xs H Q
theorem call_dictA (hcalm : X.calm = true) : CallR X (.type "dict") (rDictA X.K) := CallR.or (call_dictP hcalm) (call_dictT hcalm)
def dictG : List D → Option O
  | [.list ps] => (pairsD ps).map fun kds => .dic (mergeD [] kds)
  | [.tuple ps] => (pairsD ps).map fun kds => .dic (mergeD [] kds)
  | _ => none
theorem cv_dict : CallV X T (rDictA X.K) dictG := by
  intro σ ρ w xs ds o Q c r h k
  unfold dictG at h
  split at h
  · obtain ⟨kds, e, h⟩ := Option.map_eq_some_iff.mp h
    subst h
    cases r with
    | cons r r2 =>
      cases r2
      cases r with
      | @lst a xs _ ha ra =>
        obtain ⟨ps, kvs, e1, p, rd⟩ := pairsD_rp c ra e
        subst e1
        exact .inl ⟨a, ps, kvs, rfl, SqL.of (c.lstH ha), p, k.dic c (rd.merge .nil)⟩
  · obtain ⟨kds, e, h⟩ := Option.map_eq_some_iff.mp h
    subst h
    cases r with
    | cons r r2 =>
      cases r2
      cases r with
      | @tup a xs _ ha ra =>
        obtain ⟨ps, kvs, e1, p, rd⟩ := pairsD_rp c ra e
        subst e1
        obtain ⟨o, ho, hd⟩ := c.tupR ha
        exact .inr ⟨a, o, ps, kvs, rfl, ho, hd, p, k.dic c (rd.merge .nil)⟩
  · cases h
/-! ### sorted -/
def alikeB (ds : List D) : Bool := ds.all fun d => ds.all fun e => PySem.W.alike d e
def isTupN : D → Bool
  | .tuple (_ :: _) => true
  | _ => false
def isTup0 : D → Bool
  | .tuple _ => true
  | .none => true
  | _ => false
def sortB (ds : List D) : Bool := alikeB ds && (ds.all isTupN || ds.all fun d => !isTup0 d) && ds.all fun d => d.canLay0 && decide (d.depth ≤ 60)
def sortD (ds : List D) : List D := ds.mergeSort fun a b => !PySem.W.dataLt b a
theorem alike_of {ds : List D} (h : alikeB ds = true) : PySem.W.AllAlike ds := fun d hd d' hd' => by
  have h1 := List.all_eq_true.mp h d hd
  exact List.all_eq_true.mp h1 d' hd'
theorem sortable_of {ds : List D} (h : (ds.all isTupN || ds.all fun d => !isTup0 d) = true) : PySem.W.Sortable ds := by
  rw [Bool.or_eq_true] at h
  rcases h with h | h
  · refine .inl fun d hd => ?_
    have h1 := List.all_eq_true.mp h d hd
    unfold isTupN at h1
    split at h1
    · exact ⟨_, _, rfl⟩
    · cases h1
  · refine .inr fun d hd => ?_
    have h1 := List.all_eq_true.mp h d hd
    refine ⟨fun e => ?_, fun xs e => ?_⟩ <;> subst e <;> cases h1
def rSortD (K : PySem.W.Frag) : List V → Hp → VK → Prop := fun xs H Q => ∃ (a : Addr) (ps : List (V × D)), xs = [.ref a] ∧ SqL K H a (ps.map (·.1)) ∧ (∀ p ∈ ps, Dp K H p.1 p.2) ∧ sortB (ps.map (·.2)) = true ∧
  ∀ p, H p = none → Q (.ref p) (upd H p (.lst ((ps.mergeSort (PySem.W.dataLe false (·.2))).map (·.1))))
theorem call_sortZ (hu : X.A.units + 64 < cLine) : CallR X (.builtin "sorted") (rSortD X.K) := by
  intro pins s σ H xs us Q I r h
  obtain ⟨a, ps, rfl, hq, hp, hb, q⟩ := h
  obtain ⟨u, rfl, rx⟩ := vals1 r
  cases rx
  obtain ⟨its, rv, pl, hz⟩ := I.list hq
  rw [List.length_map] at hz
  simp only [sortB, Bool.and_eq_true] at hb
  obtain ⟨⟨h1, h2⟩, h3⟩ := hb
  have each : ∀ {qs : List (V × D)} {us : List Value}, (∀ p ∈ qs, Dp X.K H p.1 p.2) → Vals (qs.map (·.1)) us → PySem.W.EachIs (fun u (p : V × D) => RelV p.1 u) us qs ∧ PySem.W.EachIs (fun u (p : V × D) => ∃ as, Reads s.heap u p.2 as) us qs := by
    intro qs
    induction qs with
    | nil =>
      intro us _ r
      cases r
      exact ⟨.nil, .nil⟩
    | cons p qs ih =>
      intro us hq r
      rw [List.map_cons] at r
      cases r with
      | cons r1 r2 =>
        obtain ⟨i1, i2⟩ := ih (fun p z => hq p (List.mem_cons_of_mem _ z)) r2
        exact ⟨.cons r1 i1, .cons (Dp.reads I p.2 p.1 _ (hq p List.mem_cons_self) r1) i2⟩
  obtain ⟨e1, e2⟩ := each hp rv
  have back : ∀ {us : List Value} {qs : List (V × D)}, PySem.W.EachIs (fun u (p : V × D) => RelV p.1 u) us qs → Vals (qs.map (·.1)) us := by
    intro us qs h
    induction h with
    | nil => exact .nil
    | cons r _ ih => exact .cons r ih
  refine PySem.W.sorted_data (R := fun u (p : V × D) => RelV p.1 u) (enc := (·.2)) pl.isList e1 e2 (alike_of h1) (sortable_of h2) hz (fun p hm => ?_) fun out hlen he => ?_
  · have hm' : p.2 ∈ ps.map (·.2) := List.mem_map.mpr ⟨p, hm, rfl⟩
    have := List.all_eq_true.mp h3 _ hm'
    rw [Bool.and_eq_true] at this
    have := of_decide_eq_true this.2
    omega
  · obtain ⟨ep, he'⟩ := PyProof.Rows.sortedAll_at s.heap its out.toArray
    have hl2 : ((ps.mergeSort (PySem.W.dataLe false (·.2))).map (·.1)).length ≤ sizeLine := by rw [List.length_map, List.length_mergeSort]; exact hz
    exact ⟨.ref _, upd H (s.heap.objs.size + 1) (.lst ((ps.mergeSort (PySem.W.dataLe false (·.2))).map (·.1))), I.laid (t' := s.toks) (fun _ _ => PyProof.Rows.sortedAll_old) (Nat.le_succ _) ⟨hl2, out, ep, back he, he'⟩, rfl, q _ (I.hok.fresh (Nat.le_succ _))⟩
theorem RpA.zip {K : PySem.W.Frag} {F : Hp} : ∀ {vs : List V} {ds : List D}, RpA K F vs ds → ∃ ps : List (V × D), ps.map (·.1) = vs ∧ ps.map (·.2) = ds ∧ ∀ p ∈ ps, Rp K F p.1 p.2
  | _, _, .nil => ⟨[], rfl, rfl, fun p z => by cases z⟩
  | _, _, .cons r t => by
    obtain ⟨ps, e1, e2, h⟩ := t.zip
    refine ⟨(_, _) :: ps, by rw [List.map_cons, e1], by rw [List.map_cons, e2], fun p z => ?_⟩
    rcases List.mem_cons.mp z with rfl | z
    · exact r
    · exact h p z
theorem RpA.unzip {K : PySem.W.Frag} {F : Hp} : ∀ {ps : List (V × D)}, (∀ p ∈ ps, Rp K F p.1 p.2) → RpA K F (ps.map (·.1)) (ps.map (·.2))
  | [], _ => .nil
  | p :: ps, h => .cons (h p List.mem_cons_self) (RpA.unzip fun q z => h q (List.mem_cons_of_mem _ z))
theorem sort_zip (ps : List (V × D)) : (ps.mergeSort (PySem.W.dataLe false (·.2))).map (·.2) = sortD (ps.map (·.2)) := by
  unfold sortD
  exact List.map_mergeSort (fun a _ b _ => by rw [PySem.W.dataLe_eq]; rfl)
def rSortA (K : PySem.W.Frag) : List V → Hp → VK → Prop := fun xs H Q => rSortD K xs H Q ∨ (∃ (a : Addr) (kvs : List (Key × V)) (ks : List Int), xs = [.ref a] ∧ Rd H a (.dK kvs) ∧ kvs.map (·.1) = ks.map Sum.inl ∧ ks.length < 64 ∧
    ∀ (ys : List Int) (p : Addr), ys.Perm ks → ys.Pairwise (· ≤ ·) → H p = none → Q (.ref p) (upd H p (.lst (ys.map V.int))))
theorem call_sortA (hcalm : X.calm = true) (hu : X.A.units + 64 < cLine) : CallR X (.builtin "sorted") (rSortA X.K) := CallR.or (call_sortZ hu) (call_sortedDI hcalm)
def intKeys : List (D × D) → Option (List Int)
  | [] => some []
  | (.int i, _) :: r => (intKeys r).map (i :: ·)
  | _ => none
def sortedG : List D → Option O
  | [.list ds] => if sortB ds = true then some (.lst (sortD ds)) else none
  | [.dict kds] => (intKeys kds).bind fun ks => if ks.length < 64 then some (.lst ((ks.mergeSort fun a b => decide (a ≤ b)).map .int)) else none
  | _ => none
theorem intKeys_rp {K : PySem.W.Frag} {F : Hp} : ∀ {kvs : List (Key × V)} {kds : List (D × D)} {ks : List Int}, RpK K F kvs kds → intKeys kds = some ks → kvs.map (·.1) = ks.map Sum.inl
  | _, [], _, r, h => by
    cases h
    cases r
    rfl
  | _, (k, d) :: kds, ks, r, h => by
    cases r with
    | @cons q v vs _ _ r1 r2 =>
      cases q with
      | inr z => cases h
      | inl z =>
        have h' : (intKeys kds).map (z :: ·) = some ks := h
        obtain ⟨l, e1, e2⟩ := Option.map_eq_some_iff.mp h'
        subst e2
        rw [List.map_cons, List.map_cons, intKeys_rp r2 e1]
theorem int_sorted_uniq {a b : List Int} (p : a.Perm b) (h1 : a.Pairwise (· ≤ ·)) (h2 : b.Pairwise (· ≤ ·)) : a = b :=
  p.eq_of_pairwise (fun _ _ _ _ x y => Int.le_antisymm x y) h1 h2
theorem cv_sorted : CallV X T (rSortA X.K) sortedG := by
  intro σ ρ w xs ds o Q c r h k
  unfold sortedG at h
  split at h
  · split at h
    · rename_i hb
      cases h
      cases r with
      | cons r r2 =>
        cases r2
        cases r with
        | @lst a xs ds ha ra =>
          obtain ⟨ps, e1, e2, hp⟩ := ra.zip
          subst e1 e2
          refine .inl ⟨a, ps, rfl, SqL.of (c.lstH ha), fun p z => ?_, hb, ?_⟩
          · refine (hp p z).dp c p.2 p.1 ?_
            simp only [sortB, Bool.and_eq_true] at hb
            have := List.all_eq_true.mp hb.2 p.2 (List.mem_map.mpr ⟨p, z, rfl⟩)
            rw [Bool.and_eq_true] at this
            exact this.1
          · refine k.lst c ?_
            rw [← sort_zip]
            exact RpA.unzip fun p z => hp p (List.mem_mergeSort.mp z)
    · cases h
  · obtain ⟨ks, ek, h⟩ := Option.bind_eq_some_iff.mp h
    split at h
    · rename_i hl
      cases h
      cases r with
      | cons r r2 =>
        cases r2
        cases r with
        | @dic a kvs kds ha ra =>
          refine .inr ⟨a, kvs, ks, rfl, c.dicH ha, intKeys_rp ra ek, hl, fun ys p hp hs hn => ?_⟩
          have e : ys = ks.mergeSort fun a b => decide (a ≤ b) := by
            refine int_sorted_uniq (hp.trans (List.mergeSort_perm ..).symm) hs ?_
            have := List.pairwise_mergeSort (le := fun a b : Int => decide (a ≤ b)) (fun a b c h1 h2 => by simp at h1 h2 ⊢; omega) (fun a b => by simp; omega) ks
            exact this.imp (by simp)
          subst e
          exact k.lst c (RpA.of_ints _) p hn
    · cases h
  · cases h
end
end Sh
set_option Elab.async false
set_option linter.all false
set_option maxRecDepth 100000
set_option maxHeartbeats 2000000
/-! Sh, part R: min of a list of data. -/
namespace Sh
open PySem PySem.Spec PyProof.Rows L2
section
variable {prog : Program} {w : World} {A : Around} {R : Result → Shared → Prop} {I : Addr} {fp wr : List Addr} {n : Nat} {P : Nat → Value → Prop} {St : Nat → Heap → Prop} {s0 : Heap}
/-- compared wherever the old objects stand -/
def CmpK (prog : Program) (w : World) (A : Around) (s0 : Heap) (P : Nat → Value → Prop) (bt : Nat → Nat → Bool) : Prop :=
  ∀ i j vi vj (s : Shared) (Q : Value → Shared → Prop) (E : Value → Shared → Prop), P i vi → P j vj → (∀ b o, s0.get? b = some o → s.heap.get? b = some o) → Q (.bool (bt i j)) s → wpAny (model prog w) A (richCompare .Lt vi vj) Q E s
theorem min_loopK (W : Walks prog w A.in1 I fp wr n P St) (bt : Nat → Nat → Bool) (hcmp : CmpK prog w A.in1 s0 P bt) (S : Addr) (hSf : S ∉ fp) (hS0 : s0.get? S = none) (hw0 : ∀ b ∈ wr, s0.get? b = none) :
    ∀ (k j : Nat) (s : Shared) (vb : Value) (c : Nat), n - (j + 1) = k → j + 1 ≤ n → St (j + 1) s.heap → P (argBest bt j) vb → (∀ b o, s0.get? b = some o → s.heap.get? b = some o) →
    s.heap.get? S = some { cls := .type "list", dict := none, data := .seq #[vb, vb] c, slots := #[] } →
    (∀ v h' tk, P (argBest bt (n - 1)) v → (∀ b o, s0.get? b = some o → h'.get? b = some o) → R (.ok (.ret v)) { s with heap := h', toks := tk }) →
    codeAny (model prog w) A (.builtin "min.loop" ⟨[.ref I, .none, .ref S], []⟩) R s := by
  have hSw : S ∉ wr := fun h => hSf (W.sub _ h)
  have nS : ∀ b o, s0.get? b = some o → b ≠ S := fun b o e z => by rw [z, hS0] at e; cases e
  have nw : ∀ b o, s0.get? b = some o → b ∉ wr := fun b o e z => by rw [hw0 b z] at e; cases e
  have hname : (toString "min" ++ toString ".loop" : String) = "min.loop" := by decide
  intro k
  induction k with
  | zero =>
    intro j s vb c hk hj hst hPb h0 hS hR
    have hin : j + 1 = n := by omega
    refine codeAny_builtin F.entry_min_loop ?_
    rw [Around.under_plainId F.plain_min_loop _]
    show wpAny _ A.in1 (seqItems? (.ref S) >>= _) _ _ s
    refine wpAny_bind (wpAny_seqItems hS rfl ?_)
    show wpAny _ A.in1 (tryCatch (pyNext (.ref I)) _ >>= _) _ _ s
    refine wpAny_bind (wpAny_tryCatch (W.done s _ _ (hin ▸ hst) fun h' tk hk' => ?_))
    have hS' := hk' S _ hSw hS
    show wpAny _ A.in1 (updateSeq S (fun _ => #[]) >>= _) _ _ _
    refine wpAny_bind ?_
    refine wpAny_updateSeq hS' rfl (wpAny_bind (wpAny_letGo (wpAny_pure ?_)))
    exact hR vb _ tk (by rw [← hin]; exact hPb) fun b o e => (Heap.get?_update_other _ _ (Ne.symm (nS b o e))).trans (hk' b o (nw b o e) (h0 b o e))
  | succ k ih =>
    intro j s vb c hk hj hst hPb h0 hS hR
    have hlt : j + 1 < n := by omega
    refine codeAny_builtin F.entry_min_loop ?_
    rw [Around.under_plainId F.plain_min_loop _]
    show wpAny _ A.in1 (seqItems? (.ref S) >>= _) _ _ s
    refine wpAny_bind (wpAny_seqItems hS rfl ?_)
    show wpAny _ A.in1 (tryCatch (pyNext (.ref I)) _ >>= _) _ _ s
    refine wpAny_bind (wpAny_tryCatch (W.item (j + 1) s _ _ hlt hst fun v h' tk hP hst' hk' => ?_))
    have hS' := hk' S _ hSw hS
    have h1 : ∀ b o, s0.get? b = some o → h'.get? b = some o := fun b o e => hk' b o (nw b o e) (h0 b o e)
    show wpAny _ A.in1 (tryCatch (holding [v, v] (richCompare .Lt v vb >>= _)) _ >>= _) _ _ _
    refine wpAny_bind (wpAny_tryCatch (wpAny_holding (wpAny_bind (hcmp (j + 1) (argBest bt j) v vb _ _ _ hP hPb h1 ?_))))
    refine wpAny_bind (wpAny_holding (wpAny_truthy_bool ?_))
    refine wpAny_bind (wpAny_letGo (wpAny_pure ?_))
    cases hb : bt (j + 1) (argBest bt j) with
    | true =>
      simp only [if_true]
      refine wpAny_bind ?_
      refine wpAny_updateSeq hS' rfl (wpAny_bind (wpAny_letGo ?_))
      rw [hname]
      refine wpAny_pure ⟨plainId_quiet F.plain_min_loop _, ih (j + 1) _ v _ (by omega) hlt (W.frame _ _ _ hst' fun b hbf o e => ?_) (by simp only [argBest, hb, if_true]; exact hP) (fun b o e => (Heap.get?_update_other _ _ (Ne.symm (nS b o e))).trans (h1 b o e)) (Heap.get?_update_self _ hS' rfl) hR⟩
      exact (Heap.get?_update_other _ _ (fun h : S = b => hSf (by rw [h]; exact hbf))).trans e
    | false =>
      simp only [Bool.false_eq_true, if_false]
      refine wpAny_bind (wpAny_letGo ?_)
      rw [hname]
      exact wpAny_pure ⟨plainId_quiet F.plain_min_loop _, ih (j + 1) _ vb c (by omega) hlt hst' (by simp only [argBest, hb, Bool.false_eq_true, if_false]; exact hPb) h1 hS' hR⟩
theorem min_firstK (W : Walks prog w A.in1 I fp wr n P St) (bt : Nat → Nat → Bool) (hcmp : CmpK prog w A.in1 s0 P bt) (S : Addr) (hSf : S ∉ fp) (hS0 : s0.get? S = none) (hw0 : ∀ b ∈ wr, s0.get? b = none) (hn : 0 < n) {s : Shared} {c : Nat} (hst : St 0 s.heap)
    (h0 : ∀ b o, s0.get? b = some o → s.heap.get? b = some o) (hS : s.heap.get? S = some { cls := .type "list", dict := none, data := .seq #[] c, slots := #[] })
    (hR : ∀ v h' tk, P (argBest bt (n - 1)) v → (∀ b o, s0.get? b = some o → h'.get? b = some o) → R (.ok (.ret v)) { s with heap := h', toks := tk }) :
    codeAny (model prog w) A (.builtin "min.loop" ⟨[.ref I, .none, .ref S], []⟩) R s := by
  have hSw : S ∉ wr := fun h => hSf (W.sub _ h)
  have nS : ∀ b o, s0.get? b = some o → b ≠ S := fun b o e z => by rw [z, hS0] at e; cases e
  have nw : ∀ b o, s0.get? b = some o → b ∉ wr := fun b o e z => by rw [hw0 b z] at e; cases e
  have hname : (toString "min" ++ toString ".loop" : String) = "min.loop" := by decide
  refine codeAny_builtin F.entry_min_loop ?_
  rw [Around.under_plainId F.plain_min_loop _]
  show wpAny _ A.in1 (seqItems? (.ref S) >>= _) _ _ s
  refine wpAny_bind (wpAny_seqItems hS rfl ?_)
  show wpAny _ A.in1 (tryCatch (pyNext (.ref I)) _ >>= _) _ _ s
  refine wpAny_bind (wpAny_tryCatch (W.item 0 s _ _ hn hst fun v h' tk hP hst' hk' => ?_))
  have hS' := hk' S _ hSw hS
  show wpAny _ A.in1 (updateSeq S (fun _ => #[v, v]) >>= _) _ _ _
  refine wpAny_bind ?_
  refine wpAny_updateSeq hS' rfl ?_
  rw [hname]
  refine wpAny_pure ⟨plainId_quiet F.plain_min_loop _, min_loopK W bt hcmp S hSf hS0 hw0 _ 0 _ v _ rfl hn (W.frame _ _ _ hst' fun b hbf o e => ?_) hP (fun b o e => (Heap.get?_update_other _ _ (Ne.symm (nS b o e))).trans (hk' b o (nw b o e) (h0 b o e))) (Heap.get?_update_self _ hS' rfl) hR⟩
  exact (Heap.get?_update_other _ _ (fun h : S = b => hSf (by rw [h]; exact hbf))).trans e
end
section
variable {prog : Program} {w : World} {A : Around} {E : Value → Shared → Prop} {s : Shared}
theorem call_minK {l : Addr} {its : Array Value} {bt : Nat → Nat → Bool} {Q : Value → Shared → Prop} (hh : A.handled = none) (hl : s.heap.IsList l its) (hn : 0 < its.size) (hcmp : CmpK prog w A.in1 s.heap (fun i v => its[i]? = some v) bt)
    (h : ∀ v h' tk, its[argBest bt (its.size - 1)]? = some v → (∀ b o, s.heap.get? b = some o → h'.get? b = some o) → Q v { s with heap := h', toks := tk }) : wpAny (model prog w) A (call (.builtin "min") [.ref l]) Q E s := by
  have hname : (toString "min" ++ toString ".loop" : String) = "min.loop" := by decide
  have hlt : l < s.heap.objs.size := by obtain ⟨_, e, _⟩ := hl; exact Heap.lt_size e
  refine call_function_tree F.kind_min F.plain_min F.entry_min (F.args_min1 _) ?_
  show wpAny _ A.in1 (Builtin.Builtins.bindParams "min" ["key", "default"] 0 ⟨[], []⟩ >>= _) _ _ s
  refine wpAny_bind (wpAny_of_eq (show Builtin.Builtins.bindParams "min" ["key", "default"] 0 ⟨[], []⟩ = pure [none, none] from rfl) ?_)
  refine wpAny_bind (wpAny_pure ?_)
  refine wpAny_bind (iter_any hl fun s₂ e2 st hne => ?_)
  subst e2
  refine wpAny_bind (wpAny_newObj_type ?_)
  have z1 : (s.heap.push { cls := .type "list_iterator", data := .fields #[.ref l, .int 0 0] }).objs.size = s.heap.objs.size + 1 := Heap.size_push ..
  have hSf : (s.heap.push { cls := .type "list_iterator", data := .fields #[.ref l, .int 0 0] }).objs.size ∉ [s.heap.objs.size, l] := fun hm => by
    rw [z1] at hm
    rcases List.mem_cons.mp hm with e | hm
    · exact absurd e (Nat.succ_ne_self _)
    · rw [List.mem_singleton] at hm
      exact absurd hlt (by rw [← hm]; exact Nat.not_lt.mpr (Nat.le_succ _))
  rw [hname]
  refine wpAny_pure ⟨plainId_quiet F.plain_min_loop _, min_firstK (A := A) (s0 := s.heap) (Walks.list (A := A.in1) hh _ l hne its) bt hcmp _ hSf (Heap.get?_none_of_le (by rw [z1]; exact Nat.le_succ _)) (fun b hb => ?_) hn
    ⟨st.1.at fun o e => Heap.get?_push_of_some _ e, st.2.at fun o e => Heap.get?_push_of_some _ e⟩ (fun b o e => Heap.get?_push_of_some _ (Heap.get?_push_of_some _ e)) (Heap.get?_push_size _ rfl) fun v h' tk hP hk => h v h' tk hP hk⟩
  rw [List.mem_singleton.mp hb]
  exact Heap.get?_none_of_le (Nat.le_refl _)
end
section
variable {X : Cx} {W : WX} {T : List (Addr × Str)}
def ltAt (ds : List D) (i j : Nat) : Bool := PySem.W.dataLt (ds.getD i .none) (ds.getD j .none)
/-- the first of the least -/
def minD (ds : List D) : Option D := ds[argBest (ltAt ds) (ds.length - 1)]?
def rMinZ (K : PySem.W.Frag) : List V → Hp → VK → Prop := fun xs H Q => ∃ (a : Addr) (vs : List V) (ds : List D), xs = [.ref a] ∧ SqL K H a vs ∧ DpAll K H vs ds ∧ 0 < ds.length ∧ alikeB ds = true ∧ (ds.all fun d => !isNone d && decide (d.depth ≤ 60)) = true ∧ ∀ v, vs[argBest (ltAt ds) (ds.length - 1)]? = some v → Q v H
theorem reads_at {h : Heap} : ∀ {us : List Value} {ds : List D} {as : List Addr} (i : Nat) {u : Value}, ReadsAll h us ds as → us[i]? = some u → ∃ d bs, ds[i]? = some d ∧ Reads h u d bs
  | _, _, _, i, u, .nil, e => by simp at e
  | _, _, _, 0, u, .cons r _, e => by simp at e; subst e; exact ⟨_, _, rfl, r⟩
  | _, _, _, i + 1, u, .cons _ t, e => by
    obtain ⟨d, bs, h1, h2⟩ := reads_at i t (by simpa using e)
    exact ⟨d, bs, by simpa using h1, h2⟩
theorem DpAll.length {K : PySem.W.Frag} {H : Hp} : ∀ {vs : List V} {ds : List D}, DpAll K H vs ds → vs.length = ds.length
  | _, _, .nil => rfl
  | _, _, .cons _ t => by rw [List.length_cons, List.length_cons, DpAll.length t]
theorem call_minZ (hc : X.calm = true) (hu : X.A.units + 64 < cLine) : CallR X (.builtin "min") (rMinZ X.K) := by
  intro pins s σ H xs us Q I r h
  obtain ⟨a, vs, ds, rfl, hq, hd, hne, hal, hall, q⟩ := h
  obtain ⟨u, rfl, rx⟩ := vals1 r
  cases rx
  obtain ⟨its, rv, pl, hz⟩ := I.list hq
  have hlv : its.length = ds.length := by rw [← rv.length, DpAll.length hd]
  obtain ⟨as, rds⟩ := Dp.readsAll I ds vs its hd rv
  refine call_minK (bt := ltAt ds) (I.ok.hd hc) pl.isList (by rw [List.size_toArray, hlv]; exact hne) (fun i j vi vj s' Q' E' hi hj hk hQ => ?_) fun v h' tk hv hk => ?_
  · have hi : its[i]? = some vi := by simpa using hi
    have hj : its[j]? = some vj := by simpa using hj
    obtain ⟨di, bi, e1, r1⟩ := reads_at i rds hi
    obtain ⟨dj, bj, e2, r2⟩ := reads_at j rds hj
    have m1 := List.mem_of_getElem? e1
    have m2 := List.mem_of_getElem? e2
    have h1 := List.all_eq_true.mp hall di m1
    rw [Bool.and_eq_true] at h1
    have hz := of_decide_eq_true h1.2
    have g1 : ds.getD i .none = di := by rw [List.getD_eq_getElem?_getD, e1]; rfl
    have g2 : ds.getD j .none = dj := by rw [List.getD_eq_getElem?_getD, e2]; rfl
    have hQ : Q' (.bool (PySem.W.dataLt (ds.getD i .none) (ds.getD j .none))) s' := hQ
    rw [g1, g2] at hQ
    exact PySem.W.rcLt_alike di dj X.A.in1 s' vi vj _ _ (PyProof.Rows.Reads.keeps hk r1) (PyProof.Rows.Reads.keeps hk r2) (alike_of hal di m1 dj m2) (isNone_ne (by simpa using h1.1)) (by
      have h3 : min di.depth dj.depth ≤ di.depth := Nat.min_le_left _ _
      have h4 : X.A.in1.units ≤ X.A.units + 1 := by exact Nat.le_refl _
      omega) X.prog X.w E' Q' hQ
  · have hv : its[argBest (ltAt ds) (its.length - 1)]? = some v := by simpa using hv
    rw [hlv] at hv
    have hlen : argBest (ltAt ds) (ds.length - 1) < vs.length := by
      rw [rv.length]
      exact (List.getElem?_eq_some_iff.mp hv).1
    obtain ⟨u', hu', ru'⟩ := rv.get (List.getElem?_eq_getElem hlen)
    obtain rfl : u' = v := Option.some.inj (hu'.symm.trans hv)
    exact ⟨_, H, I.kept hk, ru', q _ (List.getElem?_eq_getElem hlen)⟩
def minG : List D → Option D
  | [.list ds] => if 0 < ds.length ∧ alikeB ds = true ∧ (ds.all fun d => !isNone d && decide (d.depth ≤ 60)) = true ∧ PyData.canLayAll0 ds = true then minD ds else none
  | _ => none
theorem cv_min : CallV X T (rMinZ X.K) (datO minG) := by
  intro σ ρ w xs ds o Q c r h k
  obtain ⟨d', h9, e9⟩ := datO_inv h
  subst e9
  clear h
  unfold minG at h9
  split at h9
  · split at h9
    · rename_i ds hh
      obtain ⟨h1, h2, h3, h4⟩ := hh
      cases r with
      | cons r r2 =>
        cases r2
        cases r with
        | @lst a xs _ ha ra =>
          refine ⟨a, xs, ds, rfl, SqL.of (c.lstH ha), RpA.dp c ds xs h4 ra, h1, h2, h3, fun v hv => ?_⟩
          obtain ⟨d2, e2, r2⟩ := ra.getV hv
          obtain rfl : d2 = d' := Option.some.inj (e2.symm.trans h9)
          exact k.dat c r2
    · cases h9
  · cases h9
end
end Sh
set_option Elab.async false
set_option linter.all false
set_option maxRecDepth 100000
set_option maxHeartbeats 2000000
/-! Sh, part S: what is walked; targets. -/
namespace Sh
open PySem PySem.Spec PyProof.Rows L2
section
variable (K : PySem.W.Frag) (T : List (Addr × Str))
/-- an iterator that hands out ds, from the world w0 on -/
def ItOk (J : It) (w0 : Wl) (ds : List D) : Prop := ∀ (i : Nat) (w : Wl) (σ : L2.St) (ρ : Env), Lw w0 w → Cs K T σ ρ w → (i = ds.length → J.stop i w.H) ∧
  ∀ d, ds[i]? = some d → J.go i w.H ∧ ∀ x H', J.yld i w.H x H' → ∃ w', w'.H = H' ∧ Lw w w' ∧ Cs K T σ ρ w' ∧ Rp K w'.F x d
end
section
variable (X : Cx) (W : WX) (T : List (Addr × Str))
def tI (f : M (List D)) : TI := fun σ H R => ∃ w ρ, w.H = H ∧ Cs X.K T σ ρ w ∧ Co X W T f σ w ρ fun ds _ w' => ∀ J, ItOk X.K T J w' ds → R J w'.H
structure EvI (tg iter : Expr) (f : M (List D)) : Prop where
  pi : PI X tg iter (tI X W T f)
end
theorem PI.imp {X : Cx} {tg iter : Expr} {t t' : TI} (h : PI X tg iter t) (k : ∀ σ H R, t' σ H R → t σ H R) : PI X tg iter t' := ⟨fun pins s σ H R I q => h.run pins s σ H R I (k σ H R q)⟩
section
variable {X : Cx} {W : WX} {T : List (Addr × Str)} {tg e a b c : Expr} {p pos : Pos}
/-! ### lists, tuples, texts -/
def iSeqA (K : PySem.W.Frag) (te : TE) : TI := fun σ H R => te σ H fun x H1 => (∃ a, x = .ref a ∧ (∃ xs, SqL K H1 a xs) ∧ R (Itl K a) H1) ∨ (∃ a, x = .ref a ∧ (∃ xs, SqT K H1 a xs) ∧ R (Itt K a) H1) ∨ ∃ z, x = .str z ∧ R (Its z) H1
theorem pi_seqA {te : TE} (he : PE X e te) : PI X tg e (iSeqA X.K te) := by
  refine ⟨fun pins s σ H R I h => ?_⟩
  refine thn (he.run pins s σ H _ I h) fun v s1 ⟨x, H1, I1, r1, q1⟩ => ?_
  rcases q1 with ⟨a, e, ⟨xs, hq⟩, q⟩ | ⟨a, e, ⟨xs, hq⟩, q⟩ | ⟨z, e, q⟩
  · subst e
    cases r1
    obtain ⟨its, rv, p, hz⟩ := I1.list hq
    exact wpAny_pyIter_list p.isList (pi_one (tk := s1.toks) I1 _ (turn_list a _) ⟨_, Heap.get?_push_size _ rfl, rfl, rfl⟩ q)
  · subst e
    cases r1
    obtain ⟨its, rv, p, hz⟩ := I1.tuple hq
    exact wpAny_pyIter_tuple (show s1.heap.IsTuple a its.toArray from p) (pi_one (tk := s1.toks) I1 _ (turn_tuple a _) ⟨_, Heap.get?_push_size _ rfl, rfl, rfl⟩ q)
  · subst e
    obtain ⟨t, rfl⟩ := r1
    cases ha : z.cps.all (· < 128)
    · exact wpAny_pyIter_wide ha (pi_one (tk := s1.toks) I1 _ (turn_str _ z t "str_iterator" (.inr rfl)) ⟨_, Heap.get?_push_size _ rfl, rfl, rfl⟩ q)
    · exact wpAny_pyIter_ascii ha (pi_one (tk := s1.toks) I1 _ (turn_str _ z t "str_ascii_iterator" (.inl rfl)) ⟨_, Heap.get?_push_size _ rfl, rfl, rfl⟩ q)
def seqD : D → Option (List D)
  | .list xs => some xs
  | .tuple xs => some xs
  | .str z => some (z.cps.toList.map fun c => .str ⟨#[c]⟩)
  | _ => none
theorem it_list {K : PySem.W.Frag} {w0 : Wl} {a : Addr} {xs : List V} {ds : List D} (ha : w0.F a = some (.lst xs)) (ra : RpA K w0.F xs ds) : ItOk K T (Itl K a) w0 ds := by
  intro i w σ ρ l c
  have hF := l.le _ _ ha
  have hS : SqL K w.H a xs := SqL.of (c.lstH hF)
  refine ⟨fun e => ⟨xs, hS, by rw [ra.length, e]; exact Nat.le_refl _⟩, fun d e => ?_⟩
  obtain ⟨v, hv, rv⟩ := ra.get e
  refine ⟨⟨xs, v, hS, hv⟩, fun x H' y => ?_⟩
  obtain ⟨e1, e2⟩ := y
  have e3 := e2 xs hS
  rw [hv] at e3
  obtain rfl := Option.some.inj e3
  exact ⟨w, e1.symm, Lw.refl w, c, Rp.mono' l.le rv⟩
theorem it_tup {K : PySem.W.Frag} {w0 : Wl} {a : Addr} {xs : List V} {ds : List D} (ha : TupF w0.F a xs) (ra : RpA K w0.F xs ds) : ItOk K T (Itt K a) w0 ds := by
  intro i w σ ρ l c
  obtain ⟨o, ho, hd⟩ := ha
  have hF : TupF w.F a xs := ⟨o, l.le _ _ ho, hd⟩
  have hS : SqT K w.H a xs := c.tupS hF
  refine ⟨fun e => ⟨xs, hS, by rw [ra.length, e]; exact Nat.le_refl _⟩, fun d e => ?_⟩
  obtain ⟨v, hv, rv⟩ := ra.get e
  refine ⟨⟨xs, v, hS, hv⟩, fun x H' y => ?_⟩
  obtain ⟨e1, e2⟩ := y
  have e3 := e2 xs hS
  rw [hv] at e3
  obtain rfl := Option.some.inj e3
  exact ⟨w, e1.symm, Lw.refl w, c, Rp.mono' l.le rv⟩
theorem it_str {K : PySem.W.Frag} {w0 : Wl} {z : Str} : ItOk K T (Its z) w0 (z.cps.toList.map fun c => .str ⟨#[c]⟩) := by
  intro i w σ ρ l c
  refine ⟨fun e => ?_, fun d e => ?_⟩
  · show z.cps.size ≤ i
    rw [e]
    simp
  · rw [List.getElem?_map] at e
    obtain ⟨ch, e1, e2⟩ := Option.map_eq_some_iff.mp e
    have hlt : i < z.cps.size := by
      have := (List.getElem?_eq_some_iff.mp e1).1
      simpa using this
    refine ⟨hlt, fun x H' y => ?_⟩
    obtain ⟨y1, ch', y2, y3⟩ := y
    have e3 : ch' = ch := by
      have : z.cps[i]? = some ch := by rw [← Array.getElem?_toList]; exact e1
      rw [y2] at this
      exact Option.some.inj this
    subst e2
    subst e3
    subst y3
    exact ⟨w, y1.symm, Lw.refl w, c, .str _⟩
theorem ei_seq {f : M D} (he : EvD X W T e f) : EvI X W T tg e (f >>= fun d => lift (seqD d)) := by
  refine ⟨PI.imp (pi_seqA he.pe) fun σ H R ⟨w, ρ, eH, c, co⟩ => ?_⟩
  subst eH
  refine ⟨w, ρ, rfl, c, co.bind.mono fun d ρ1 w1 l1 c1 k v r => ?_⟩
  obtain ⟨ds, ed, k⟩ := k.lift
  have q := k w1 l1 c1
  unfold seqD at ed
  split at ed
  · cases ed
    cases r with
    | @lst a xs _ ha ra => exact .inl ⟨a, rfl, ⟨xs, SqL.of (c1.lstH ha)⟩, q _ (it_list ha ra)⟩
  · cases ed
    cases r with
    | @tup a xs _ ha ra => exact .inr (.inl ⟨a, rfl, ⟨xs, c1.tupS ha⟩, q _ (it_tup ha ra)⟩)
  · cases ed
    cases r
    exact .inr (.inr ⟨_, rfl, q _ it_str⟩)
  · cases ed
/-! ### ranges -/
def rgD (lo : Int) (n : Nat) : List D := (List.range n).map fun i => .int (lo + (i : Nat))
def rgCD (lo c : Int) (n : Nat) : List D := (List.range n).map fun i => .int (lo + (i : Nat) * c)
theorem it_rng {K : PySem.W.Frag} {w0 : Wl} {lo : Int} {n : Nat} : ItOk K T (Itr lo n) w0 (rgD lo n) := by
  intro i w σ ρ l c
  refine ⟨fun e => ?_, fun d e => ?_⟩
  · show n ≤ i
    rw [e]
    simp [rgD]
  · unfold rgD at e
    rw [List.getElem?_map] at e
    obtain ⟨j, e1, e2⟩ := Option.map_eq_some_iff.mp e
    obtain ⟨h1, h2⟩ := List.getElem?_eq_some_iff.mp e1
    rw [List.getElem_range] at h2
    rw [List.length_range] at h1
    subst h2
    refine ⟨h1, fun x H' y => ?_⟩
    obtain ⟨y1, y2⟩ := y
    subst y2 e2
    exact ⟨w, y1.symm, Lw.refl w, c, .int _⟩
theorem it_rngC {K : PySem.W.Frag} {w0 : Wl} {lo k : Int} {n : Nat} : ItOk K T (Itc lo k n) w0 (rgCD lo k n) := by
  intro i w σ ρ l c
  refine ⟨fun e => ?_, fun d e => ?_⟩
  · show n ≤ i
    rw [e]
    simp [rgCD]
  · unfold rgCD at e
    rw [List.getElem?_map] at e
    obtain ⟨j, e1, e2⟩ := Option.map_eq_some_iff.mp e
    obtain ⟨h1, h2⟩ := List.getElem?_eq_some_iff.mp e1
    rw [List.getElem_range] at h2
    rw [List.length_range] at h1
    subst h2
    refine ⟨h1, fun x H' y => ?_⟩
    obtain ⟨y1, y2⟩ := y
    subst y2 e2
    exact ⟨w, y1.symm, Lw.refl w, c, .int _⟩
/-- small enough for a range -/
def smI (i : Int) : Bool := decide (-(2 ^ 62) ≤ i) && decide (i < 2 ^ 62)
theorem smI_of {i : Int} (h : smI i = true) : -(2 ^ 62) ≤ i ∧ i < 2 ^ 62 := by
  unfold smI at h
  rw [Bool.and_eq_true] at h
  exact ⟨of_decide_eq_true h.1, of_decide_eq_true h.2⟩
def rng1 : List D → Option (List D)
  | [.int j] => if smI j = true then some (rgD 0 j.toNat) else none
  | _ => none
def rng2 : List D → Option (List D)
  | [.int i, .int j] => if smI i = true ∧ smI j = true then some (rgD i (j - i).toNat) else none
  | _ => none
/-- range(i, j, -1) -/
def rng3 : List D → Option (List D)
  | [.int i, .int j, .int k] => if smI i = true ∧ smI j = true ∧ k = -1 then some (rgCD i (-1) (i - j).toNat) else none
  | _ => none
theorem ei_rng1 {f : M (List D)} (hg : Gl X "range") (hm : X.mg "range" = none) (ha : EvA X W T [a] f) (hs : starEach [a] X.env = [(false, eval a X.env)]) : EvI X W T tg (.Call (.Name "range" p) [a] [] pos) (f >>= fun ds => lift (rng1 ds)) := by
  refine ⟨PI.imp (pi_range1 hg hm ha.pa hs) fun σ H R ⟨w, ρ, eH, c, co⟩ => ?_⟩
  subst eH
  refine ⟨w, ρ, rfl, c, co.bind.mono fun ds ρ1 w1 l1 c1 k vs r => ?_⟩
  obtain ⟨xs, ex, k⟩ := k.lift
  unfold rng1 at ex
  split at ex
  · split at ex
    · rename_i hj
      cases ex
      cases r with
      | cons r rr =>
        cases rr
        cases r
        exact ⟨_, rfl, (smI_of hj).1, (smI_of hj).2, k w1 l1 c1 _ it_rng⟩
    · cases ex
  · cases ex
theorem ei_rng2 {f : M (List D)} (hg : Gl X "range") (hm : X.mg "range" = none) (ha : EvA X W T [a, b] f) (hs : starEach [a, b] X.env = [(false, eval a X.env), (false, eval b X.env)]) (hs2 : starEach [b] X.env = [(false, eval b X.env)]) :
    EvI X W T tg (.Call (.Name "range" p) [a, b] [] pos) (f >>= fun ds => lift (rng2 ds)) := by
  refine ⟨PI.imp (pi_range2 hg hm ha.pa hs hs2) fun σ H R ⟨w, ρ, eH, c, co⟩ => ?_⟩
  subst eH
  refine ⟨w, ρ, rfl, c, co.bind.mono fun ds ρ1 w1 l1 c1 k vs r => ?_⟩
  obtain ⟨xs, ex, k⟩ := k.lift
  unfold rng2 at ex
  split at ex
  · split at ex
    · rename_i hj
      cases ex
      cases r with
      | cons r rr =>
        cases rr with
        | cons r' rr =>
          cases rr
          cases r
          cases r'
          exact ⟨_, _, rfl, ⟨(smI_of hj.1).1, (smI_of hj.1).2, (smI_of hj.2).1, (smI_of hj.2).2⟩, k w1 l1 c1 _ it_rng⟩
    · cases ex
  · cases ex
theorem ei_rng3 {f : M (List D)} (hg : Gl X "range") (hm : X.mg "range" = none) (ha : EvA X W T [a, b, c] f) (hs : starEach [a, b, c] X.env = (false, eval a X.env) :: starEach [b, c] X.env) (hpl : (backTo pos (starEach [b, c] X.env)).any (·.1) = false) :
    EvI X W T tg (.Call (.Name "range" p) [a, b, c] [] pos) (f >>= fun ds => lift (rng3 ds)) := by
  refine ⟨PI.imp (pi_range3 hg hm ha.pa hs hpl) fun σ H R ⟨w, ρ, eH, c, co⟩ => ?_⟩
  subst eH
  refine ⟨w, ρ, rfl, c, co.bind.mono fun ds ρ1 w1 l1 c1 k vs r => ?_⟩
  obtain ⟨xs, ex, k⟩ := k.lift
  unfold rng3 at ex
  split at ex
  · split at ex
    · rename_i hj
      obtain ⟨h1, h2, rfl⟩ := hj
      cases ex
      cases r with
      | cons r rr =>
        cases rr with
        | cons r' rr =>
          cases rr with
          | cons r'' rr =>
            cases rr
            cases r
            cases r'
            cases r''
            exact ⟨_, _, _, _, rfl, RgC.neg (smI_of h1).1 (smI_of h1).2 (smI_of h2).1 (smI_of h2).2, k w1 l1 c1 _ it_rngC⟩
    · cases ex
  · cases ex
/-! ### targets -/
abbrev G := D → Env → Option Env
/-- the slots outside ts stay -/
def Kp (ts : List Nat) (σ σ' : L2.St) : Prop := σ'.length = σ.length ∧ ∀ j, j ∉ ts → σ'[j]? = σ[j]?
def tG (X : Cx) (T : List (Addr × Str)) (ts : List Nat) (g : G) : TG := fun v σ H Q => ∃ w ρ d ρ', w.H = H ∧ Cs X.K T σ ρ w ∧ Rp X.K w.F v d ∧ g d ρ = some ρ' ∧ ∀ w' σ', w'.H = H → w'.F = w.F → Lw w w' → Cs X.K T σ' ρ' w' → Kp ts σ σ' → Q σ' w'.H
structure EvG (X : Cx) (T : List (Addr × Str)) (tg : Expr) (ts : List Nat) (g : G) : Prop where
  pg : PG X tg (tG X T ts g)
theorem PG.imp {X : Cx} {tg : Expr} {t t' : TG} (h : PG X tg t) (k : ∀ v σ H Q, t' v σ H Q → t v σ H Q) : PG X tg t' := ⟨fun pins s σ H v u Q I r q => h.run pins s σ H v u Q I r (k v σ H Q q)⟩
end
end Sh
set_option Elab.async false
set_option linter.all false
set_option maxRecDepth 100000
set_option maxHeartbeats 2000000
/-! Sh, part U: targets, list comprehensions. -/
namespace Sh
open PySem PySem.Spec PyProof.Rows L2
theorem kp_set {σ : L2.St} {i : Nat} {v : Option V} : Kp [i] σ (σ.set i v) := ⟨List.length_set, fun j h => by
  rw [List.getElem?_set_ne]
  intro e
  exact h (by rw [e]; exact List.mem_cons_self)⟩
theorem Kp.mono {a b : List Nat} {σ σ' : L2.St} (h : Kp a σ σ') (s : ∀ x ∈ a, x ∈ b) : Kp b σ σ' := ⟨h.1, fun j n => h.2 j fun z => n (s j z)⟩
theorem Kp.trans {a : List Nat} {σ σ' σ'' : L2.St} (h : Kp a σ σ') (g : Kp a σ' σ'') : Kp a σ σ'' := ⟨g.1.trans h.1, fun j n => (g.2 j n).trans (h.2 j n)⟩
theorem Kp.refl {a : List Nat} (σ : L2.St) : Kp a σ σ := ⟨rfl, fun _ _ => rfl⟩
section
variable {X : Cx} {W : WX} {T : List (Addr × Str)} {pos : Pos}
def gNm (i : Nat) : G := fun d ρ => if i < ρ.length then some (ρ.set i (some (.dat d))) else none
theorem eg_name {i : Nat} {x : Str} (hN : X.N.Nodup) (hi : X.N[i]? = some x) (hx : Loc X.env.scope x) (hf : X.fn x = true ∨ X.env.scope.names.lookup x = some .local) : EvG X T (.Name x pos) [i] (gNm i) := by
  refine ⟨PG.imp (pg_name hN hi hx hf) fun v σ H Q ⟨w, ρ, d, ρ', eH, c, r, e, k⟩ => ?_⟩
  subst eH
  unfold gNm at e
  split at e
  · rename_i hi'
    cases e
    have c' := c.set (o := .dat d) (fp := []) hi' (.dat r) (fun a z => by cases z)
    exact k (w.slot i []) _ rfl rfl ((Lw.refl w).slot (fun a z => by cases z)) c' kp_set
  · cases e
abbrev Gs := List D → Env → Option Env
def tGs (X : Cx) (T : List (Addr × Str)) (ts : List Nat) (g : Gs) : TGs := fun vs σ H Q => ∃ w ρ ds ρ', w.H = H ∧ Cs X.K T σ ρ w ∧ RpA X.K w.F vs ds ∧ g ds ρ = some ρ' ∧ ∀ w' σ', w'.H = H → w'.F = w.F → Lw w w' → Cs X.K T σ' ρ' w' → Kp ts σ σ' → Q σ' w'.H
structure EvGs (X : Cx) (T : List (Addr × Str)) (tg : List Expr) (ts : List Nat) (g : Gs) : Prop where
  pgs : PGs X tg (tGs X T ts g)
theorem PGs.imp {X : Cx} {tg : List Expr} {t t' : TGs} (h : PGs X tg t) (k : ∀ v σ H Q, t' v σ H Q → t v σ H Q) : PGs X tg t' := ⟨fun pins s σ H v u Q I r q => h.run pins s σ H v u Q I r (k v σ H Q q)⟩
def gsNil : Gs := fun ds ρ => match ds with
  | [] => some ρ
  | _ => none
def gsCons (g : G) (gs : Gs) : Gs := fun ds ρ => match ds with
  | d :: r => (g d ρ).bind fun ρ' => gs r ρ'
  | _ => none
theorem egs_nil : EvGs X T [] [] gsNil := by
  refine ⟨PGs.imp pgs_nil fun vs σ H Q ⟨w, ρ, ds, ρ', eH, c, r, e, k⟩ => ?_⟩
  subst eH
  unfold gsNil at e
  split at e
  · cases e
    cases r
    exact ⟨rfl, k w σ rfl rfl (Lw.refl w) c (Kp.refl σ)⟩
  · cases e
theorem egs_cons {e : Expr} {es : List Expr} {ts us : List Nat} {g : G} {gs : Gs} (h1 : EvG X T e ts g) (h2 : EvGs X T es us gs) (hs : (assignEach (e :: es) X.env).map (·.2) = assign e X.env :: (assignEach es X.env).map (·.2)) : EvGs X T (e :: es) (ts ++ us) (gsCons g gs) := by
  refine ⟨PGs.imp (pgs_cons h1.pg h2.pgs hs) fun vs σ H Q ⟨w, ρ, ds, ρ', eH, c, r, e, k⟩ => ?_⟩
  subst eH
  unfold gsCons at e
  split at e
  · rename_i d r0
    obtain ⟨ρ1, e1, e2⟩ := Option.bind_eq_some_iff.mp e
    cases r with
    | @cons v vs _ _ r1 r2 =>
      refine ⟨v, vs, rfl, w, ρ, d, ρ1, rfl, c, r1, e1, fun w1 σ1 eH eF l1 c1 k1 => ?_⟩
      refine ⟨w1, ρ1, r0, ρ', rfl, c1, by rw [eF]; exact r2, e2, fun w2 σ2 eH2 eF2 l2 c2 k2 => ?_⟩
      exact k w2 σ2 (eH2.trans eH) (eF2.trans eF) (l1.trans l2) c2 ((k1.mono fun x z => List.mem_append_left _ z).trans (k2.mono fun x z => List.mem_append_right _ z))
  · cases e
def gTp (n : Nat) (gs : Gs) : G := fun d ρ => match d with
  | .tuple ds => if ds.length = n then gs ds ρ else none
  | _ => none
theorem eg_tup {es : List Expr} {kk n : Nat} {ts : List Nat} {gs : Gs} (hc : X.calm = true) (h : EvGs X T es ts gs) (hp : ∀ t, PGs X es t → PG X (.Tuple es kk pos) (gTup X.K n t)) : EvG X T (.Tuple es kk pos) ts (gTp n gs) := by
  refine ⟨PG.imp (hp _ h.pgs) fun v σ H Q ⟨w, ρ, d, ρ', eH, c, r, e, k⟩ => ?_⟩
  subst eH
  unfold gTp at e
  split at e
  · rename_i ds0
    split at e
    · rename_i hn
      cases r with
      | @tup a xs _ ha ra => exact ⟨a, xs, rfl, c.tupS ha, by rw [ra.length]; exact hn, w, ρ, ds0, ρ', rfl, c, ra, e, k⟩
    · cases e
  · cases e
/-! ### blocks -/
def wipeE (ρ : Env) : List Nat → Env
  | [] => ρ
  | v :: vs => (wipeE ρ vs).set v none
theorem wipeE_length (ρ : Env) : ∀ vs : List Nat, (wipeE ρ vs).length = ρ.length
  | [] => rfl
  | v :: vs => by unfold wipeE; rw [List.length_set, wipeE_length ρ vs]
theorem wipeE_out {ρ : Env} {i : Nat} : ∀ {vs : List Nat}, i ∉ vs → (wipeE ρ vs)[i]? = ρ[i]?
  | [], _ => rfl
  | v :: vs, h => by
    unfold wipeE
    rw [List.getElem?_set_ne (fun e => h (by rw [e]; exact List.mem_cons_self))]
    exact wipeE_out fun z => h (List.mem_cons_of_mem _ z)
theorem wipeE_in {ρ : Env} {i : Nat} {o : O} : ∀ {vs : List Nat}, i ∈ vs → (wipeE ρ vs)[i]? ≠ some (some o)
  | v :: vs, h => by
    unfold wipeE
    intro e
    rcases set_get e with ⟨_, e⟩ | ⟨q, e⟩
    · cases e
    · rcases List.mem_cons.mp h with z | z
      · exact q z
      · exact wipeE_in z e
def Wl.wipe (w : Wl) (vs : List Nat) : Wl := ⟨w.F, w.H, fun j => if j ∈ vs then [] else w.fp j⟩
theorem Lw.wipe {w0 w : Wl} (l : Lw w0 w) (vs : List Nat) : Lw w0 (w.wipe vs) := by
  refine ⟨l.keep, l.frz, l.alive, l.le, l.newF, fun b ⟨j, h⟩ => l.newO b ⟨j, ?_⟩⟩
  have h : b ∈ (if j ∈ vs then [] else w.fp j) := h
  by_cases q : j ∈ vs
  · rw [if_pos q] at h; cases h
  · rw [if_neg q] at h; exact h
theorem wipe_eq {σ σ' : L2.St} : ∀ {vs : List Nat}, Kp vs σ σ' → wipe σ' vs = wipe σ vs := fun {vs} hh => by
  obtain ⟨hl', h⟩ := hh
  have hl := hl'.symm
  apply List.ext_getElem?
  intro j
  by_cases q : j ∈ vs
  · cases e1 : (wipe σ' vs)[j]? with
    | none =>
      have h1 := List.getElem?_eq_none_iff.mp e1
      rw [wipe_length] at h1
      rw [List.getElem?_eq_none (by rw [wipe_length, hl]; exact h1)]
    | some x =>
      have h1 := (List.getElem?_eq_some_iff.mp e1).1
      rw [wipe_length] at h1
      cases x with
      | some v => exact absurd q (wipe_some e1).2
      | none =>
        have h2 : j < (wipe σ vs).length := by rw [wipe_length, hl]; exact h1
        cases e2 : (wipe σ vs)[j]? with
        | none => exact absurd h2 (Nat.not_lt.mpr (List.getElem?_eq_none_iff.mp e2))
        | some y =>
          cases y with
          | none => rfl
          | some v => exact absurd q (wipe_some e2).2
  · rw [wipe_out q, wipe_out q]
    exact h j q
/-- the block's own names forgotten -/
theorem Cs.wipe {K : PySem.W.Frag} {σ σ' : L2.St} {ρ : Env} {w : Wl} (c : Cs K T σ ρ w) (vs : List Nat) (hl : σ'.length = σ.length) (h : ∀ j, j ∉ vs → σ'[j]? = σ[j]?) : Cs K T σ' (wipeE ρ vs) (w.wipe vs) := by
  refine ⟨by rw [hl, wipeE_length]; exact c.len, fun j o e => ?_, fun j e => ?_, fun i j a h1 h2 => ?_, c.le, c.tb⟩
  · have q : j ∉ vs := fun z => wipeE_in z e
    rw [wipeE_out q] at e
    obtain ⟨v, h1, h2⟩ := c.sl j o e
    refine ⟨v, by rw [h j q]; exact h1, ?_⟩
    show RpO K w.F w.H v o (if j ∈ vs then [] else w.fp j)
    rw [if_neg q]
    exact h2
  · show (if j ∈ vs then [] else w.fp j) = []
    by_cases q : j ∈ vs
    · rw [if_pos q]
    · rw [if_neg q]
      exact c.no j fun o z => e o (by rw [wipeE_out q]; exact z)
  · have h1 : a ∈ (if i ∈ vs then [] else w.fp i) := h1
    have h2 : a ∈ (if j ∈ vs then [] else w.fp j) := h2
    by_cases q1 : i ∈ vs
    · rw [if_pos q1] at h1; cases h1
    · by_cases q2 : j ∈ vs
      · rw [if_pos q2] at h2; cases h2
      · rw [if_neg q1] at h1
        rw [if_neg q2] at h2
        exact c.sep i j a h1 h2
/-- data, or nothing -/
def okSlot : Option (Option O) → Bool
  | some (some (.dat _)) => true
  | some none => true
  | _ => false
def restE (ρ1 ρ2 : Env) (vs : List Nat) : Env := ρ2.zipIdx.map fun p => if p.2 ∈ vs then (ρ1[p.2]?).join else p.1
theorem restE_length (ρ1 ρ2 : Env) (vs : List Nat) : (restE ρ1 ρ2 vs).length = ρ2.length := by
  unfold restE
  rw [List.length_map, List.length_zipIdx]
theorem restE_get {ρ1 ρ2 : Env} {vs : List Nat} {j : Nat} (hj : j < ρ2.length) : (restE ρ1 ρ2 vs)[j]? = some (if j ∈ vs then (ρ1[j]?).join else ρ2[j]) := by
  unfold restE
  rw [List.getElem?_map, List.getElem?_zipIdx, List.getElem?_eq_getElem hj]
  simp
/-- behind the block: what the block's own names had hidden -/
theorem Cs.rest {K : PySem.W.Frag} {σ : L2.St} {ρ1 ρ2 : Env} {w1 w2 : Wl} {vs : List Nat} (c1 : Cs K T σ ρ1 w1) (l : Sub w1.F w2.F) (hv : ∀ v ∈ vs, okSlot ρ1[v]? = true) (hw : ∀ j ∈ vs, ∀ o, ρ2[j]? ≠ some (some o)) (c2 : Cs K T (L2.wipe σ vs) ρ2 w2) : Cs K T σ (restE ρ1 ρ2 vs) w2 := by
  have hl : ρ2.length = σ.length := by rw [← c2.len, wipe_length]
  have hl1 := c1.len
  refine ⟨by rw [restE_length, hl], fun j o e => ?_, fun j e => ?_, c2.sep, c2.le, c2.tb⟩
  · have hj : j < ρ2.length := by
      have := (List.getElem?_eq_some_iff.mp e).1
      rw [restE_length] at this
      exact this
    rw [restE_get hj] at e
    by_cases q : j ∈ vs
    · rw [if_pos q] at e
      have e1 : ρ1[j]? = some (some o) := by
        have e := Option.some.inj e
        cases h : ρ1[j]? with
        | none => rw [h] at e; cases e
        | some x => rw [h] at e; rw [← e]; rfl
      have ok := hv j q
      rw [e1] at ok
      cases o with
      | dat d =>
        obtain ⟨v, h1, h2⟩ := c1.sl j _ e1
        refine ⟨v, h1, ?_⟩
        rw [c2.no j (hw j q)]
        generalize w1.fp j = fp at h2
        cases h2 with
        | dat r => exact .dat (Rp.mono' l r)
      | _ => cases ok
    · rw [if_neg q] at e
      have e := Option.some.inj e
      obtain ⟨v, h1, h2⟩ := c2.sl j o (by rw [List.getElem?_eq_getElem hj, e])
      rw [wipe_out q] at h1
      exact ⟨v, h1, h2⟩
  · refine c2.no j fun o z => ?_
    have hj : j < ρ2.length := (List.getElem?_eq_some_iff.mp z).1
    by_cases q : j ∈ vs
    · exact hw j q o z
    · refine e o ?_
      rw [restE_get hj, if_neg q]
      rw [List.getElem?_eq_getElem hj] at z
      exact z
/-- the loop of a list comprehension -/
def lcLoop (vs : List Nat) (g : G) (ft : M Bool) (fe : M D) : List D → List D → Env → Option (List D × Env)
  | [], acc, ρ => some (acc, ρ)
  | d :: ds, acc, ρ => match g d ρ with
    | none => none
    | some ρ1 => match ft ρ1 with
      | some (.ok true, ρ2) => (match fe ρ2 with
        | some (.ok y, ρ3) => if acc.length < sizeLine then lcLoop vs g ft fe ds (acc ++ [y]) (wipeE ρ3 vs) else none
        | _ => none)
      | some (.ok false, ρ2) => lcLoop vs g ft fe ds acc (wipeE ρ2 vs)
      | _ => none
def lcM (vs : List Nat) (fi : M (List D)) (g : G) (ft : M Bool) (fe : M D) : M O := fi >>= fun ds => fun ρ1 =>
  if vs.all (fun v => okSlot ρ1[v]?) = true then (match lcLoop vs g ft fe ds [] (wipeE ρ1 vs) with
    | some (ys, ρ2) => some (.ok (.lst ys), restE ρ1 ρ2 vs)
    | none => none) else none
abbrev W0 : WX := fun _ _ _ _ => False
/-- the tests of a comprehension -/
structure EvTs (X : Cx) (W : WX) (T : List (Addr × Str)) (ifs : List Expr) (f : M Bool) : Prop where
  pts : PTs X ifs (tT X W T f)
theorem ets_nil : EvTs X W T [] (Pure.pure true) := ⟨⟨fun pins s σ H Q I ⟨w, ρ, eH, c, co⟩ => by
  subst eH
  exact pts_nil.run pins s σ w.H Q I (co.pure w (Lw.refl w) c)⟩⟩
theorem ets_one {c : Expr} {f : M Bool} (h : EvT X W T c f) : EvTs X W T [c] f := ⟨pts_one h.pt⟩
theorem Lw.apart {w w' : Wl} (l : Lw w w') {D : Addr} {xs : List V} (hH : w.H D = some (.lst xs)) (hF : w.F D = none) (hO : ¬ w.own D) : w'.H D = some (.lst xs) ∧ w'.F D = none ∧ ¬ w'.own D := by
  refine ⟨l.keep D _ hH hO (fun ps z => by cases z), ?_, fun q => ?_⟩
  · cases q : w'.F D with
    | none => rfl
    | some u =>
      rcases l.newF D (by rw [q]; simp) with y | y | y
      · exact absurd hF y
      · exact absurd y hO
      · exact (y.no hH fun ps z => by cases z).elim
  · rcases l.newO D q with y | y
    · exact hO y
    · exact y.no hH fun ps z => by cases z
/-- an object that nobody owns is written -/
theorem Cs.put0 {K : PySem.W.Frag} {σ : L2.St} {ρ : Env} {w : Wl} (c : Cs K T σ ρ w) {a : Addr} {u : HO} (hF : w.F a = none) (hO : ¬ w.own a) (h1 : Own1 (w.H a)) : Cs K T σ ρ (w.put a u) := by
  have nfz : ∀ b o u', w.H b = some (.frz o u') → b ≠ a := fun b o u' e z => by
    rw [← z, e] at h1
    exact h1
  refine ⟨c.len, fun j p e' => ?_, c.no, c.sep, fun b x r => ?_, tabs_upd c.tb h1⟩
  · obtain ⟨x, q1, q2⟩ := c.sl j p e'
    refine ⟨x, q1, q2.frame (fun _ _ e => e) (fun b o x e => ?_) fun b z => ⟨?_, (q2.at b z).1⟩⟩
    · show upd w.H a u b = _
      rw [upd_ne (nfz b o x e)]
      exact e
    · show upd w.H a u b = _
      exact upd_ne fun q => hO (q ▸ ⟨j, z⟩)
  · have q : b ≠ a := fun z => by
      have r : w.F b = some x := r
      rw [z, hF] at r
      cases r
    show (upd w.H a u b = some x ∧ ∀ ps, x ≠ .tbl ps) ∨ ∃ o kvs, x = .dK kvs ∧ upd w.H a u b = some (.frz o x)
    rw [upd_ne q]
    exact c.le b x r
theorem Lw.put0 {w0 w : Wl} (l : Lw w0 w) {a : Addr} {u : HO} (hn : w0.H a = none) : Lw w0 (w.put a u) := by
  have ne : ∀ b, w0.H b ≠ none → b ≠ a := fun b h z => h (by rw [z]; exact hn)
  refine ⟨fun b x e n t => ?_, fun b o x e => ?_, fun b h => ?_, l.le, l.newF, l.newO⟩
  · show upd w.H a u b = _
    rw [upd_ne (ne b (by rw [e]; simp))]
    exact l.keep b x e n t
  · show upd w.H a u b = _
    rw [upd_ne (ne b (by rw [e]; simp))]
    exact l.frz b o x e
  · have h : Voi (upd w.H a u b) := h
    by_cases q : b = a
    · rw [q]
      exact .inl hn
    · rw [upd_ne q] at h
      exact l.alive b h
theorem lcLoop_wiped {vs : List Nat} {g : G} {ft : M Bool} {fe : M D} : ∀ {ds acc : List D} {ρ : Env} {ys : List D} {ρ2 : Env}, (∀ j ∈ vs, ∀ o, ρ[j]? ≠ some (some o)) → lcLoop vs g ft fe ds acc ρ = some (ys, ρ2) → ∀ j ∈ vs, ∀ o, ρ2[j]? ≠ some (some o)
  | [], acc, ρ, ys, ρ2, h, e => by
    cases e
    exact h
  | d :: ds, acc, ρ, ys, ρ2, h, e => by
    unfold lcLoop at e
    split at e
    · cases e
    · split at e
      · split at e
        · split at e
          · exact lcLoop_wiped (fun j hj o => wipeE_in hj) e
          · cases e
        · cases e
      · exact lcLoop_wiped (fun j hj o => wipeE_in hj) e
      · cases e
theorem Co.of {α : Type} {f : M α} {σ : L2.St} {w : Wl} {ρ : Env} {C : α → Env → Wl → Prop} {a : α} {ρ' : Env} (e : f ρ = some (.ok a, ρ')) (h : ∀ w', Lw w w' → Cs X.K T σ ρ' w' → C a ρ' w') : Co X W T f σ w ρ C := ⟨.ok a, ρ', e, h⟩
theorem lc_main {vs ts : List Nat} {fi : M (List D)} {g : G} {ft : M Bool} {fe : M D} (hts : ∀ x ∈ ts, x ∈ vs) {σ : L2.St} {H : Hp} {Q : VK} (h : tO X W T (lcM vs fi g ft fe) σ H Q) :
    tLc (tI X W T fi) (tG X T ts g) (tT X W0 T ft) (tD X W0 T fe) vs σ H Q := by
  obtain ⟨w, ρ, eH, c, co⟩ := h
  subst eH
  unfold lcM at co
  refine ⟨w, ρ, rfl, c, co.bind.mono fun ds ρ1 w1 l1 c1 k J hJ D hD => ?_⟩
  obtain ⟨r, ρf, ef, kf⟩ := k
  dsimp only at ef
  split at ef
  · rename_i hok
    split at ef
    · rename_i ys ρ2 eloop
      cases ef
      have hokv : ∀ v ∈ vs, okSlot ρ1[v]? = true := List.all_eq_true.mp hok
      have ca := c1.wipe (σ' := wipe σ vs) vs (wipe_length σ vs) (fun j q => wipe_out q)
      have la : Lw w1 (w1.wipe vs) := (Lw.refl w1).wipe vs
      obtain ⟨cb, lb⟩ := ca.al0 (p := D) (u := .lst []) hD
      refine ⟨fun i m H => m = ds.length - i ∧ i ≤ ds.length ∧ ∃ w2 ρa xs acc, w2.H = H ∧ Lw w1 w2 ∧ Cs X.K T (wipe σ vs) ρa w2 ∧ (∀ j ∈ vs, ∀ o, ρa[j]? ≠ some (some o)) ∧ w2.H D = some (.lst xs) ∧ w2.F D = none ∧ ¬ w2.own D ∧ RpA X.K w2.F xs acc ∧ lcLoop vs g ft fe (ds.drop i) acc ρa = some (ys, ρ2),
        ⟨ds.length, by simp, Nat.zero_le _, (w1.wipe vs).al0 D (.lst []), wipeE ρ1 vs, [], [], rfl, la.trans lb, cb, fun j hj o => wipeE_in hj, upd_same, (ca.fresh hD).1, (ca.fresh hD).2, .nil, by simpa using eloop⟩, ?_⟩
      rintro i m H ⟨rfl, hle, w2, ρa, xs, acc, eH, l2, c2, hwp, hDx, hDF, hDO, rx, el⟩
      subst eH
      obtain ⟨hstop, hgo⟩ := hJ i w2 _ _ l2 c2
      by_cases hlt : i < ds.length
      · refine .inr ?_
        obtain ⟨d, ed⟩ : ∃ d, ds[i]? = some d := ⟨ds[i], List.getElem?_eq_getElem hlt⟩
        obtain ⟨go, yld⟩ := hgo d ed
        have edrop : ds.drop i = d :: ds.drop (i + 1) := by
          rw [List.drop_eq_getElem_cons hlt]
          rw [List.getElem?_eq_getElem hlt] at ed
          rw [Option.some.inj ed]
        rw [edrop] at el
        unfold lcLoop at el
        refine ⟨go, fun H' => ∃ w2 ρa xs acc, w2.H = H' ∧ Lw w1 w2 ∧ Cs X.K T (wipe σ vs) ρa w2 ∧ (∀ j ∈ vs, ∀ o, ρa[j]? ≠ some (some o)) ∧ w2.H D = some (.lst xs) ∧ w2.F D = none ∧ ¬ w2.own D ∧ RpA X.K w2.F xs acc ∧ lcLoop vs g ft fe (ds.drop (i + 1)) acc ρa = some (ys, ρ2), fun H' q => ⟨ds.length - (i + 1), by omega, rfl, hlt, q⟩, fun x H' y => ?_⟩
        obtain ⟨w3, eH3, l3, c3, r3⟩ := yld x H' y
        subst eH3
        obtain ⟨d1, d2, d3⟩ := l3.apart hDx hDF hDO
        split at el
        · cases el
        · rename_i ρb eg
          refine ⟨w3, ρa, d, ρb, rfl, c3, r3, eg, fun w4 σ4 eH4 eF4 l4 c4 k4 => ?_⟩
          obtain ⟨f1, f2, f3⟩ := l4.apart d1 d2 d3
          have rx4 : RpA X.K w4.F xs acc := (rx.mono' l3.le).mono' l4.le
          have kk : Kp vs σ σ4 := ⟨k4.1.trans (wipe_length σ vs), fun j q => (k4.2 j fun z => q (hts j z)).trans (wipe_out q)⟩
          have back : ∀ j, j ∉ vs → (wipe σ vs)[j]? = σ4[j]? := fun j q => (wipe_out q).trans (kk.2 j q).symm
          have hlen : (wipe σ vs).length = σ4.length := by rw [wipe_length]; exact kk.1.symm
          refine ⟨wipe_eq kk, w4, ρb, rfl, c4, ?_⟩
          split at el
          · rename_i ρc eft
            split at el
            · rename_i y' ρd efe
              split at el
              · rename_i hz
                refine Co.of eft fun w5 l5 c5 => ?_
                refine iteT ?_
                refine ⟨w5, ρc, rfl, c5, Co.of efe fun w6 l6 c6 v rv => ?_⟩
                obtain ⟨g1, g2, g3⟩ := l5.apart f1 f2 f3
                obtain ⟨h1, h2, h3⟩ := l6.apart g1 g2 g3
                have rx6 : RpA X.K w6.F xs acc := (rx4.mono' l5.le).mono' l6.le
                refine ⟨xs, h1, by rw [rx6.length]; exact hz, ?_⟩
                have cp := c6.put0 (u := .lst (xs ++ [v])) h2 h3 (by rw [h1]; trivial)
                have cw := cp.wipe (σ' := wipe σ vs) vs hlen back
                have lp : Lw w1 (w6.put D (.lst (xs ++ [v]))) := ((((l2.trans l3).trans l4).trans l5).trans l6).put0 hD
                refine ⟨(w6.put D (.lst (xs ++ [v]))).wipe vs, wipeE ρd vs, xs ++ [v], acc ++ [y'], rfl, lp.wipe vs, cw, fun j hj o => wipeE_in hj, upd_same, h2, fun ⟨j, hj⟩ => ?_, rx6.append (.cons rv .nil), el⟩
                have hj : D ∈ (if j ∈ vs then [] else w6.fp j) := hj
                by_cases q : j ∈ vs
                · rw [if_pos q] at hj; cases hj
                · rw [if_neg q] at hj; exact h3 ⟨j, hj⟩
              · cases el
            · cases el
          · rename_i ρc eft
            refine Co.of eft fun w5 l5 c5 => ?_
            refine iteF ?_
            obtain ⟨g1, g2, g3⟩ := l5.apart f1 f2 f3
            have cw := c5.wipe (σ' := wipe σ vs) vs hlen back
            refine ⟨w5.wipe vs, wipeE ρc vs, xs, acc, rfl, (((l2.trans l3).trans l4).trans l5).wipe vs, cw, fun j hj o => wipeE_in hj, g1, g2, fun ⟨j, hj⟩ => ?_, rx4.mono' l5.le, el⟩
            have hj : D ∈ (if j ∈ vs then [] else w5.fp j) := hj
            by_cases q : j ∈ vs
            · rw [if_pos q] at hj; cases hj
            · rw [if_neg q] at hj; exact g3 ⟨j, hj⟩
          · cases el
      · have e : i = ds.length := by omega
        refine .inl ⟨hstop e, ?_⟩
        subst e
        rw [List.drop_length] at el
        have el' : some (acc, ρa) = some (ys, ρ2) := el
        cases el'
        have cr : Cs X.K T σ (restE ρ1 ρ2 vs) w2 := c1.rest l2.le hokv hwp c2
        refine kf w2 (l1.trans l2) cr (.ref D) [D] (.lst hDF hDx rx) (fun a z => ?_) (fun a z => ?_)
        · rw [List.mem_singleton.mp z]; exact hDO
        · rw [List.mem_singleton.mp z]
          exact .inr (l1.alive D (.inl hD))
    · cases ef
  · cases ef
theorem eo_lc {elt tg iter : Expr} {ifs : List Expr} {scope : Scope} {own : List (Str × Nat)} {ts : List Nat} {fi : M (List D)} {g : G} {ft : M Bool} {fe : M D} (hc : X.calm = true) (hN : X.N.Nodup) (hi : EvI X W T tg iter fi) (ok : BlkOk X.N X.env.scope scope own)
    (hts : ∀ x ∈ ts, x ∈ own.map (·.2))
    (hg : ∀ (s : Shared) (H : Hp) (C : Addr) (cl : List (Str × Addr)) (fp : List Addr), EvG (X.blk s H scope (compEnvC scope cl C X.env) fp) T tg ts g)
    (ht : ∀ (s : Shared) (H : Hp) (C : Addr) (cl : List (Str × Addr)) (fp : List Addr), EvTs (X.blk s H scope (compEnvC scope cl C X.env) fp) W0 T ifs ft)
    (he : ∀ (s : Shared) (H : Hp) (C : Addr) (cl : List (Str × Addr)) (fp : List Addr), EvD (X.blk s H scope (compEnvC scope cl C X.env) fp) W0 T elt fe)
    (hs : ∀ x, foldedSetIterable iter X.env x = pure x) : EvO X W T (.ListComp elt [⟨tg, iter, ifs, 0⟩] scope pos) (lcM (own.map (·.2)) fi g ft fe) :=
  ⟨PE.imp (pe_lc (g := tG X T ts g) (tt := tT X W0 T ft) (te := tD X W0 T fe) hc hN hi.pi ok (fun s H C cl fp => (hg s H C cl fp).pg) (fun s H C cl fp => (ht s H C cl fp).pts) (fun s H C cl fp => (he s H C cl fp).pe) hs) fun σ H Q h => lc_main hts h⟩
end
end Sh
set_option Elab.async false
set_option linter.all false
set_option maxRecDepth 100000
set_option maxHeartbeats 2000000
/-! Sh, part V: statements. -/
namespace Sh
open PySem PySem.Spec PyProof.Rows L2
inductive Fl where
  | nx
  | rt (o : O)
  | bk
  | ct
/-- the slots io stay -/
def KpI (io : List Nat) (σ σ' : L2.St) : Prop := σ'.length = σ.length ∧ ∀ j ∈ io, σ'[j]? = σ[j]?
theorem KpI.refl {io : List Nat} (σ : L2.St) : KpI io σ σ := ⟨rfl, fun _ _ => rfl⟩
theorem KpI.trans {io : List Nat} {σ σ' σ'' : L2.St} (h : KpI io σ σ') (g : KpI io σ' σ'') : KpI io σ σ'' := ⟨g.1.trans h.1, fun j n => (g.2 j n).trans (h.2 j n)⟩
theorem Kp.io {io ts : List Nat} {σ σ' : L2.St} (h : Kp ts σ σ') (d : ∀ x ∈ ts, x ∉ io) : KpI io σ σ' := ⟨h.1, fun j q => h.2 j fun z => d j z q⟩
section
variable (X : Cx) (W : WX) (T : List (Addr × Str)) (io : List Nat)
def CoS (f : M Fl) (σ : L2.St) (w : Wl) (ρ : Env) (D : Ends) : Prop := ∃ r ρ', f ρ = some (r, ρ') ∧ match r with
  | .ex x => ∀ w' σ' c dd, Lw w w' → Cs X.K T σ' ρ' w' → KpI io σ σ' → ExOk X.K w' c dd x → W c dd σ' w'.H
  | .ok .nx => ∀ w' σ', Lw w w' → Cs X.K T σ' ρ' w' → KpI io σ σ' → D.nx σ' w'.H
  | .ok .bk => ∀ w' σ', Lw w w' → Cs X.K T σ' ρ' w' → KpI io σ σ' → D.bk σ' w'.H
  | .ok .ct => ∀ w' σ', Lw w w' → Cs X.K T σ' ρ' w' → KpI io σ σ' → D.ct σ' w'.H
  | .ok (.rt o) => ∀ w' σ' v fp, Lw w w' → Cs X.K T σ' ρ' w' → KpI io σ σ' → RpO X.K w'.F w'.H v o fp → Ap w' fp → Nw w fp → D.rt v w'.H
def tS (f : M Fl) : TS := fun D σ H => ∃ w ρ, w.H = H ∧ Cs X.K T σ ρ w ∧ CoS X W T io f σ w ρ D
structure EvS (st : Stmt) (f : M Fl) : Prop where
  ps : PS X st (tS X W T io f)
structure EvSs (st : List Stmt) (f : M Fl) : Prop where
  pss : PSs X st (tS X W T io f)
end
section
variable {X : Cx} {W : WX} {T : List (Addr × Str)} {io : List Nat} {pos : Pos} {e : Expr}
theorem CoS.base {f : M Fl} {σ0 σ1 : L2.St} {w0 w1 : Wl} {ρ : Env} {D : Ends} (l : Lw w0 w1) (k : KpI io σ0 σ1) (h : CoS X W T io f σ0 w0 ρ D) : CoS X W T io f σ1 w1 ρ D := by
  obtain ⟨r, ρ', e, h⟩ := h
  refine ⟨r, ρ', e, ?_⟩
  cases r with
  | ex x => exact fun w' σ' c dd l' c' k' x' => h w' σ' c dd (l.trans l') c' (k.trans k') x'
  | ok fl =>
    cases fl with
    | nx => exact fun w' σ' l' c' k' => h w' σ' (l.trans l') c' (k.trans k')
    | bk => exact fun w' σ' l' c' k' => h w' σ' (l.trans l') c' (k.trans k')
    | ct => exact fun w' σ' l' c' k' => h w' σ' (l.trans l') c' (k.trans k')
    | rt o => exact fun w' σ' v fp l' c' k' r ap nw => h w' σ' v fp (l.trans l') c' (k.trans k') r ap (l.nw nw)
/-- what an expression asks, the statement going on -/
theorem CoS.bindE {α : Type} {f : M α} {k : α → M Fl} {σ : L2.St} {w : Wl} {ρ : Env} {D : Ends} (h : CoS X W T io (f >>= k) σ w ρ D) : Co X W T f σ w ρ fun a ρ1 _ => CoS X W T io (k a) σ w ρ1 D := by
  obtain ⟨r, ρ', e, h⟩ := h
  rcases bind_inv e with ⟨a, ρ1, e1, e2⟩ | ⟨x, ρ1, e1, e2⟩
  · exact ⟨.ok a, ρ1, e1, fun w1 l1 c1 => ⟨r, ρ', e2, h⟩⟩
  · cases e2
    exact ⟨.ex x, ρ', e1, fun w' c dd l c' x' => h w' σ c dd l c' (KpI.refl σ) x'⟩
theorem CoS.nx {σ : L2.St} {w : Wl} {ρ : Env} {D : Ends} (h : CoS X W T io (Pure.pure .nx) σ w ρ D) {w' : Wl} {σ' : L2.St} (l : Lw w w') (c : Cs X.K T σ' ρ w') (k : KpI io σ σ') : D.nx σ' w'.H := by
  obtain ⟨r, ρ', e, h⟩ := h
  have e : M.pure Fl.nx ρ = some (r, ρ') := e
  cases e
  exact h w' σ' l c k
theorem CoS.rt {o : O} {σ : L2.St} {w : Wl} {ρ : Env} {D : Ends} (h : CoS X W T io (Pure.pure (.rt o)) σ w ρ D) {w' : Wl} {σ' : L2.St} {v : V} {fp : List Addr} (l : Lw w w') (c : Cs X.K T σ' ρ w') (k : KpI io σ σ') (r : RpO X.K w'.F w'.H v o fp) (ap : Ap w' fp) (nw : Nw w fp) : D.rt v w'.H := by
  obtain ⟨r, ρ', e, h⟩ := h
  have e : M.pure (Fl.rt o) ρ = some (r, ρ') := e
  cases e
  exact h w' σ' v fp l c k ‹_› ap nw
/-! ### one behind the other -/
def seqM (f g : M Fl) : M Fl := f >>= fun fl => match fl with
  | .nx => g
  | .rt o => Pure.pure (.rt o)
  | .bk => Pure.pure .bk
  | .ct => Pure.pure .ct
theorem CoS.seq {f g : M Fl} {σ : L2.St} {w : Wl} {ρ : Env} {D : Ends} (h : CoS X W T io (seqM f g) σ w ρ D) : CoS X W T io f σ w ρ { D with nx := fun σ' H' => tS X W T io g D σ' H' } := by
  obtain ⟨r, ρ', e, h⟩ := h
  rcases bind_inv e with ⟨a, ρ1, e1, e2⟩ | ⟨x, ρ1, e1, e2⟩
  · refine ⟨.ok a, ρ1, e1, ?_⟩
    cases a with
    | nx => exact fun w' σ' l c k => ⟨w', ρ1, rfl, c, CoS.base l k ⟨r, ρ', e2, h⟩⟩
    | rt o =>
      have e2 : M.pure (Fl.rt o) ρ1 = some (r, ρ') := e2
      cases e2
      exact h
    | bk =>
      have e2 : M.pure Fl.bk ρ1 = some (r, ρ') := e2
      cases e2
      exact h
    | ct =>
      have e2 : M.pure Fl.ct ρ1 = some (r, ρ') := e2
      cases e2
      exact h
  · cases e2
    exact ⟨.ex x, ρ', e1, h⟩
theorem ess_nil : EvSs X W T io [] (Pure.pure .nx) := by
  refine ⟨PSs.imp pss_nil fun D σ H ⟨w, ρ, eH, c, co⟩ => ?_⟩
  subst eH
  exact co.nx (Lw.refl w) c (KpI.refl σ)
theorem ess_cons {st : Stmt} {rest : List Stmt} {f g : M Fl} (h1 : EvS X W T io st f) (h2 : EvSs X W T io rest g) : EvSs X W T io (st :: rest) (seqM f g) := by
  refine ⟨PSs.imp (pss_cons h1.ps h2.pss) fun D σ H ⟨w, ρ, eH, c, co⟩ => ?_⟩
  exact ⟨w, ρ, eH, c, co.seq⟩
theorem ess_one {st : Stmt} {f : M Fl} (h1 : EvS X W T io st f) : EvSs X W T io [st] f := ⟨pss_one h1.ps⟩
/-! ### single statements -/
theorem es_pass : EvS X W T io (.Pass pos) (Pure.pure .nx) := by
  refine ⟨PS.imp ps_pass fun D σ H ⟨w, ρ, eH, c, co⟩ => ?_⟩
  subst eH
  exact co.nx (Lw.refl w) c (KpI.refl σ)
theorem es_doc {x : Str} {j : Nat} {pos' : Pos} : EvS X W T io (.Expr (.Constant (.str x) j pos) pos') (Pure.pure .nx) := by
  refine ⟨PS.imp ps_doc fun D σ H ⟨w, ρ, eH, c, co⟩ => ?_⟩
  subst eH
  exact co.nx (Lw.refl w) c (KpI.refl σ)
theorem es_break : EvS X W T io (.Break pos) (Pure.pure .bk) := by
  refine ⟨PS.imp ps_break fun D σ H ⟨w, ρ, eH, c, r, ρ', e, co⟩ => ?_⟩
  subst eH
  have e : M.pure Fl.bk ρ = some (r, ρ') := e
  cases e
  exact co w σ (Lw.refl w) c (KpI.refl σ)
theorem es_cont : EvS X W T io (.Continue pos) (Pure.pure .ct) := by
  refine ⟨PS.imp ps_continue fun D σ H ⟨w, ρ, eH, c, r, ρ', e, co⟩ => ?_⟩
  subst eH
  have e : M.pure Fl.ct ρ = some (r, ρ') := e
  cases e
  exact co w σ (Lw.refl w) c (KpI.refl σ)
theorem es_expr {f : M D} (he : EvD X W T e f) (hs : swapsWith e none pos.line X.env = pure false) : EvS X W T io (.Expr e pos) (f >>= fun _ => Pure.pure .nx) := by
  refine ⟨PS.imp (ps_expr he.pe hs) fun D σ H ⟨w, ρ, eH, c, co⟩ => ?_⟩
  subst eH
  refine ⟨w, ρ, rfl, c, co.bindE.mono fun d ρ1 w1 l1 c1 k v r => ?_⟩
  exact k.nx l1 c1 (KpI.refl σ)
/-- an expression whose value is dropped -/
theorem es_exprO {f : M O} (he : EvO X W T e f) (hs : swapsWith e none pos.line X.env = pure false) : EvS X W T io (.Expr e pos) (f >>= fun _ => Pure.pure .nx) := by
  refine ⟨PS.imp (ps_expr he.pe hs) fun D σ H ⟨w, ρ, eH, c, co⟩ => ?_⟩
  subst eH
  refine ⟨w, ρ, rfl, c, co.bindE.mono fun d ρ1 w1 l1 c1 k v fp r ap nw => ?_⟩
  exact k.nx l1 c1 (KpI.refl σ)
theorem es_ret {f : M O} (he : EvO X W T e f) : EvS X W T io (.Return (some e) pos) (f >>= fun o => Pure.pure (.rt o)) := by
  refine ⟨PS.imp (ps_ret he.pe) fun D σ H ⟨w, ρ, eH, c, co⟩ => ?_⟩
  subst eH
  refine ⟨w, ρ, rfl, c, co.bindE.mono fun o ρ1 w1 l1 c1 k v fp r ap nw => ?_⟩
  exact k.rt l1 c1 (KpI.refl σ) r ap nw
theorem es_retD {f : M D} (he : EvD X W T e f) : EvS X W T io (.Return (some e) pos) (f >>= fun d => Pure.pure (.rt (.dat d))) := by
  refine ⟨PS.imp (ps_ret he.pe) fun D σ H ⟨w, ρ, eH, c, co⟩ => ?_⟩
  subst eH
  refine ⟨w, ρ, rfl, c, co.bindE.mono fun d ρ1 w1 l1 c1 k v r => ?_⟩
  exact k.rt l1 c1 (KpI.refl σ) (.dat r) (fun a z => by cases z) (fun a z => by cases z)
theorem es_retN : EvS X W T io (.Return none pos) (Pure.pure (.rt (.dat .none))) := by
  refine ⟨PS.imp ps_retN fun D σ H ⟨w, ρ, eH, c, co⟩ => ?_⟩
  subst eH
  exact co.rt (Lw.refl w) c (KpI.refl σ) (.dat .non) (fun a z => by cases z) (fun a z => by cases z)
/-- return x: what x owns goes out -/
theorem es_retV {i : Nat} (hn : PE X e (tVar i)) : EvS X W T io (.Return (some e) pos) (takeO i >>= fun o => Pure.pure (.rt o)) := by
  refine ⟨PS.imp (ps_ret hn) fun D σ H ⟨w, ρ, eH, c, co⟩ => ?_⟩
  subst eH
  obtain ⟨r, ρ', e, co⟩ := co
  rcases bind_inv e with ⟨o, ρ1, e1, e2⟩ | ⟨x, ρ1, e1, _⟩ <;> unfold takeO at e1 <;> split at e1
  · rename_i o' q
    cases e1
    have e2 : M.pure (Fl.rt o) _ = some (r, ρ') := e2
    cases e2
    obtain ⟨v, hv, ro, c0, ap, nw⟩ := c.out q
    exact ⟨v, hv, co (w.slot i []) σ v _ ((Lw.refl w).slot (fun a z => by cases z)) c0 (KpI.refl σ) ro ap nw⟩
  · cases e1
  · cases e1
  · cases e1
/-! ### names set -/
def setM (i : Nat) (o : O) : M Fl := fun ρ => if i < ρ.length then some (.ok .nx, ρ.set i (some o)) else none
theorem CoS.set {i : Nat} {o : O} {σ : L2.St} {w0 w : Wl} {ρ : Env} {D : Ends} {v : V} {fp : List Addr} (hio : i ∉ io) (h : CoS X W T io (setM i o) σ w0 ρ D) (l : Lw w0 w) (c : Cs X.K T σ ρ w) (r : RpO X.K w.F w.H v o fp) (ap : Ap w fp) (nw : Nw w0 fp) : D.nx (σ.set i (some v)) w.H := by
  obtain ⟨r', ρ', e, h⟩ := h
  unfold setM at e
  split at e
  · rename_i hi
    cases e
    exact h (w.slot i fp) (σ.set i (some v)) (l.slot nw) (c.set hi r ap) (kp_set.io fun x z => by rw [List.mem_singleton.mp z]; exact hio)
  · cases e
theorem es_set {i : Nat} {x : Str} {f : M O} {pos' : Pos} (hio : i ∉ io) (hN : X.N.Nodup) (hi : X.N[i]? = some x) (hx : Loc X.env.scope x) (he : EvO X W T e f) (hs : swapsWith e (some (.Name x pos')) pos.line X.env = pure false) (hf : X.fn x = true ∨ X.env.scope.names.lookup x = some .local) :
    EvS X W T io (.Assign [.Name x pos'] e pos) (f >>= fun o => setM i o) := by
  refine ⟨PS.imp (ps_set hN hi hx he.pe hs hf) fun D σ H ⟨w, ρ, eH, c, co⟩ => ?_⟩
  subst eH
  refine ⟨w, ρ, rfl, c, co.bindE.mono fun o ρ1 w1 l1 c1 k v fp r ap nw => ?_⟩
  exact k.set hio l1 c1 r ap nw
theorem es_setD {i : Nat} {x : Str} {f : M D} {pos' : Pos} (hio : i ∉ io) (hN : X.N.Nodup) (hi : X.N[i]? = some x) (hx : Loc X.env.scope x) (he : EvD X W T e f) (hs : swapsWith e (some (.Name x pos')) pos.line X.env = pure false) (hf : X.fn x = true ∨ X.env.scope.names.lookup x = some .local) :
    EvS X W T io (.Assign [.Name x pos'] e pos) (f >>= fun d => setM i (.dat d)) := by
  refine ⟨PS.imp (ps_set hN hi hx he.pe hs hf) fun D σ H ⟨w, ρ, eH, c, co⟩ => ?_⟩
  subst eH
  refine ⟨w, ρ, rfl, c, co.bindE.mono fun o ρ1 w1 l1 c1 k v r => ?_⟩
  exact k.set hio l1 c1 (.dat r) (fun a z => by cases z) (fun a z => by cases z)
/-- x = [..] on one line -/
theorem es_setLc {i : Nat} {y : Str} {py spos : Pos} {elt tg iter : Expr} {ifs : List Expr} {scope : Scope} {own : List (Str × Nat)} {ts : List Nat} {fi : M (List D)} {g : G} {ft : M Bool} {fe : M D} (hio : i ∉ io) (hc : X.calm = true) (hN : X.N.Nodup) (hy : X.N[i]? = some y) (hyl : X.env.scope.names.lookup y = some .local)
    (hsw : swapsWith (.ListComp elt [⟨tg, iter, ifs, 0⟩] scope pos) (some (.Name y py)) spos.line X.env = pure true) (hi : EvI X W T tg iter fi) (ok : BlkOk X.N X.env.scope scope own) (hts : ∀ x ∈ ts, x ∈ own.map (·.2))
    (hg : ∀ (s : Shared) (H : Hp) (C : Addr) (cl : List (Str × Addr)) (fp : List Addr), EvG (X.blk s H scope (compEnvC scope cl C X.env) fp) T tg ts g)
    (ht : ∀ (s : Shared) (H : Hp) (C : Addr) (cl : List (Str × Addr)) (fp : List Addr), EvTs (X.blk s H scope (compEnvC scope cl C X.env) fp) W0 T ifs ft)
    (he : ∀ (s : Shared) (H : Hp) (C : Addr) (cl : List (Str × Addr)) (fp : List Addr), EvD (X.blk s H scope (compEnvC scope cl C X.env) fp) W0 T elt fe)
    (hs : ∀ x, foldedSetIterable iter X.env x = pure x) : EvS X W T io (.Assign [.Name y py] (.ListComp elt [⟨tg, iter, ifs, 0⟩] scope pos) spos) (lcM (own.map (·.2)) fi g ft fe >>= fun o => setM i o) := by
  refine ⟨PS.imp (ps_setLc (g := tG X T ts g) (tt := tT X W0 T ft) (te := tD X W0 T fe) hc hN hy hyl hsw hi.pi ok (fun s H C cl fp => (hg s H C cl fp).pg) (fun s H C cl fp => (ht s H C cl fp).pts) (fun s H C cl fp => (he s H C cl fp).pe) hs) fun D σ H ⟨w, ρ, eH, c, co⟩ => ?_⟩
  subst eH
  refine lc_main hts ⟨w, ρ, rfl, c, co.bindE.mono fun o ρ1 w1 l1 c1 k v fp r ap nw => ?_⟩
  exact k.set hio l1 c1 r ap nw
/-- a, b = x, x a datum -/
def asgM (g : G) (d : D) : M Fl := fun ρ => (g d ρ).map fun ρ' => (.ok .nx, ρ')
theorem es_asg {tg : Expr} {ts : List Nat} {g : G} {f : M D} (hio : ∀ x ∈ ts, x ∉ io) (he : EvD X W T e f) (hg : EvG X T tg ts g) (hs : swapsWithSole [tg] e pos.line X.env = pure false) (hw : swappedStores [tg] e X.env = pure none)
    (h1 : (assignEach [tg] X.env).map (·.2) = [assign tg X.env]) :
    EvS X W T io (.Assign [tg] e pos) (f >>= fun d => asgM g d) := by
  refine ⟨PS.imp (ps_asg he.pe hg.pg hs hw h1) fun D σ H ⟨w, ρ, eH, c, co⟩ => ?_⟩
  subst eH
  refine ⟨w, ρ, rfl, c, co.bindE.mono fun d ρ1 w1 l1 c1 k v r => ?_⟩
  obtain ⟨r', ρ', e, h⟩ := k
  obtain ⟨ρ2, e1, e2⟩ := Option.map_eq_some_iff.mp e
  cases e2
  exact ⟨w1, ρ1, d, ρ', rfl, c1, r, e1, fun w2 σ2 eH eF l2 c2 k2 => h w2 σ2 (l1.trans l2) c2 (k2.io hio)⟩
/-- x += e, ints -/
def augM (op : Int → Int → Int) (i : Nat) (f : M D) : M Fl := bor i >>= fun o => f >>= fun d => lift (match o, d with
  | .dat (.int a), .int b => some (.int (op a b))
  | _, _ => none) >>= fun z => setM i (.dat z)
theorem es_aug {i : Nat} {x : Str} {f : M D} {op : Operator} {h : Int → Int → Int} {pos' : Pos} (hio : i ∉ io) (hN : X.N.Nodup) (hi : X.N[i]? = some x) (hx : Loc X.env.scope x) (he : EvD X W T e f) (ho : PIp X op (ipI h)) (hf : X.fn x = true ∨ X.env.scope.names.lookup x = some .local)
    (hp : ∀ te, PE X e te → PS X (.AugAssign (.Name x pos') op e pos) (tAug i te (ipI h))) : EvS X W T io (.AugAssign (.Name x pos') op e pos) (augM h i f) := by
  refine ⟨PS.imp (hp _ he.pe) fun D σ H ⟨w, ρ, eH, c, co⟩ => ?_⟩
  subst eH
  obtain ⟨r, ρ', e, co⟩ := co
  rcases bind_inv e with ⟨o, ρ1, e1, e2⟩ | ⟨x, ρ1, e1, _⟩
  · obtain ⟨o', q, e3⟩ := bor_inv e1
    cases e3
    obtain ⟨v, hv, ro⟩ := c.sl i o q
    refine ⟨v, hv, w, ρ, rfl, c, (CoS.bindE (io := io) (D := D) ⟨r, ρ', e2, co⟩).mono fun d ρ1 w1 l1 c1 k y ry => ?_⟩
    obtain ⟨r2, ρ2, e4, k⟩ := k
    rcases bind_inv e4 with ⟨z, ρ3, e5, e6⟩ | ⟨x, ρ3, e5, _⟩
    · unfold Sh.lift at e5
      split at e5
      · cases e5
      · rename_i z' hz
        cases e5
        split at hz
        · cases hz
          cases ry
          generalize w.fp i = fp at ro
          cases ro with
          | dat ro =>
            cases ro
            exact ⟨_, _, rfl, rfl, CoS.set hio ⟨r2, ρ2, e6, k⟩ l1 c1 (.dat (.int _)) (fun a z => by cases z) (fun a z => by cases z)⟩
        · cases hz
    · unfold Sh.lift at e5
      split at e5 <;> cases e5
  · obtain ⟨o', q, e3⟩ := bor_inv e1
    cases e3
/-! ### x[k] = v -/
def stoG (k d : D) (o : O) : Option (D × O) := match o, k with
  | .lst ds, .int i => (ixN ds.length i).map fun j => (.none, .lst (ds.set j d))
  | .dic kds, k => if kds.length < sizeLine then (keyD k).map fun q => (.none, .dic (putD kds q d)) else none
  | _, _ => none
def rSto : TSet := fun o i v H Q => rSetL o i v H Q ∨ rSetD o i v H Q
theorem set_sto (hu : X.A.units + 1 < cLine) : PSet X rSto := by
  intro pins s σ H o i v ov iv u Q I ro ri rv h
  rcases h with h | h
  · exact set_list pins s σ H o i v ov iv u Q I ro ri rv h
  · exact set_dict hu pins s σ H o i v ov iv u Q I ro ri rv h
theorem sto_main {σ : L2.St} {ρ : Env} {w : Wl} {i : Nat} {v y x : V} {o o' : O} {k d z : D} {Q : Hp → Prop} (c : Cs X.K T σ ρ w) (e : ρ[i]? = some (some o)) (hv : σ[i]? = some (some v)) (rk : Rp X.K w.F y k) (rd : Rp X.K w.F x d) (hg : stoG k d o = some (z, o'))
    (q : ∀ w', Lw w w' → Cs X.K T σ (ρ.set i (some o')) w' → Q w'.H) : rSto v y x w.H Q := by
  unfold stoG at hg
  split at hg
  · obtain ⟨j, ej, e2⟩ := Option.map_eq_some_iff.mp hg
    cases e2
    obtain ⟨a, xs, rfl, hH, ra, h⟩ := c.wrL e hv
    cases rk
    obtain ⟨c', l'⟩ := h _ _ (ra.set rd j)
    exact .inl ⟨a, xs, _, j, rfl, rfl, hH, by rw [ra.length]; exact ej, q _ l' c'⟩
  · split at hg
    · rename_i hz
      obtain ⟨key, ek, e2⟩ := Option.map_eq_some_iff.mp hg
      cases e2
      obtain ⟨a, xs, rfl, hH, ra, h⟩ := c.wrD e hv
      obtain ⟨c', l'⟩ := h _ _ (ra.put rd key)
      exact .inr ⟨a, _, rfl, .inl ⟨xs, key, hH, keyD_v ek rk, by rw [ra.length]; exact hz, rfl⟩, q _ l' c'⟩
    · cases hg
  · cases hg
def stoM (i : Nat) (fv fk : M D) : M Fl := fv >>= fun d => chkN i >>= fun _ => fk >>= fun k => modM i (stoG k d) >>= fun _ => Pure.pure .nx
theorem es_sto {i : Nat} {nm b : Expr} {fv fk : M D} {pos' : Pos} (hu : X.A.units + 1 < cLine) (hv : EvD X W T e fv) (hn : PE X nm (tVar i)) (hk : EvD X W T b fk) (hs : swapsWithSole [.Subscript nm b pos'] e pos.line X.env = pure false) (hw : swappedStores [.Subscript nm b pos'] e X.env = pure none)
    (hp : PG X (.Subscript nm b pos') (gSub (tVar i) (tD X W T fk) rSto) ) :
    EvS X W T io (.Assign [.Subscript nm b pos'] e pos) (stoM i fv fk) := by
  refine ⟨PS.imp (ps_asg hv.pe hp hs hw) fun D σ H ⟨w, ρ, eH, c, co⟩ => ?_⟩
  subst eH
  refine ⟨w, ρ, rfl, c, co.bindE.mono fun d ρ1 w1 l1 c1 k v r => ?_⟩
  obtain ⟨r1, ρa, ea, k⟩ := k
  rcases bind_inv ea with ⟨_, ρb, eb, ec⟩ | ⟨x, ρb, eb, _⟩
  · obtain ⟨o, q, e3⟩ := chk_inv eb
    cases e3
    obtain ⟨y, hy, ro⟩ := c1.sl i o q
    refine ⟨y, hy, w1, ρ1, rfl, c1, ((CoS.bindE (io := io) (D := D) ⟨r1, ρa, ec, k⟩).base l1).mono fun key ρ2 w2 l2 c2 k u ru => ?_⟩
    obtain ⟨o2, z, o', e4, e5, k⟩ := k.bindE.modM
    exact sto_main c2 e4 hy ru (Rp.mono' l2.le r) e5 fun w' l' c' => (k w' ((l1.trans l2).trans l') c').nx ((l1.trans l2).trans l') c' (KpI.refl σ)
  · obtain ⟨o, q, e3⟩ := chk_inv eb
    cases e3
/-! ### if, while, for -/
theorem es_if {c : Expr} {a b : List Stmt} {ft : M Bool} {f g : M Fl} (hc : EvT X W T c ft) (ha : EvSs X W T io a f) (hb : EvSs X W T io b g) : EvS X W T io (.If c a b pos) (iteM ft f g) := by
  refine ⟨PS.imp (ps_if hc.pt ha.pss hb.pss) fun D σ H ⟨w, ρ, eH, c, co⟩ => ?_⟩
  subst eH
  refine ⟨w, ρ, rfl, c, co.bindE.mono fun x ρ1 w1 l1 c1 k => ?_⟩
  cases x with
  | true => exact iteT ⟨w1, ρ1, rfl, c1, k.base l1 (KpI.refl σ)⟩
  | false => exact iteF ⟨w1, ρ1, rfl, c1, k.base l1 (KpI.refl σ)⟩
def whileM (ft : M Bool) (fb : M Fl) : Nat → M Fl
  | 0 => fun _ => none
  | n + 1 => ft >>= fun b => if b = true then (fb >>= fun fl => match fl with
    | .nx => whileM ft fb n
    | .ct => whileM ft fb n
    | .bk => Pure.pure .nx
    | .rt o => Pure.pure (.rt o)) else Pure.pure .nx
open Classical in
/-- as long as it takes -/
noncomputable def whileU (ft : M Bool) (fb : M Fl) : M Fl := fun ρ => if h : ∃ n r, whileM ft fb n ρ = some r then some h.choose_spec.choose else none
theorem whileU_inv {ft : M Bool} {fb : M Fl} {ρ : Env} {r : Ret Fl × Env} (h : whileU ft fb ρ = some r) : ∃ n, whileM ft fb n ρ = some r := by
  unfold whileU at h
  split at h
  · rename_i q
    exact ⟨q.choose, by rw [q.choose_spec.choose_spec]; exact h⟩
  · cases h
theorem whileM_mono {ft : M Bool} {fb : M Fl} : ∀ {n : Nat} {ρ : Env} {r : Ret Fl × Env}, whileM ft fb n ρ = some r → whileM ft fb (n + 1) ρ = some r
  | 0, _, _, h => by cases h
  | n + 1, ρ, r, h => by
    unfold whileM at h ⊢
    rcases bind_inv h with ⟨b, ρ1, e1, e2⟩ | ⟨x, ρ1, e1, e2⟩
    · show M.bind ft _ ρ = some r
      unfold M.bind
      rw [e1]
      show (if b = true then _ else _ : M Fl) ρ1 = some r
      cases b with
      | false => exact e2
      | true =>
        have e2 : (fb >>= _ : M Fl) ρ1 = some r := e2
        rcases bind_inv e2 with ⟨fl, ρ2, e3, e4⟩ | ⟨x, ρ2, e3, e4⟩
        · show M.bind fb _ ρ1 = some r
          unfold M.bind
          rw [e3]
          cases fl with
          | nx => exact whileM_mono e4
          | ct => exact whileM_mono e4
          | bk => exact e4
          | rt o => exact e4
        · show M.bind fb _ ρ1 = some r
          unfold M.bind
          rw [e3, e4]
    · show M.bind ft _ ρ = some r
      unfold M.bind
      rw [e1, e2]
theorem whileM_le {ft : M Bool} {fb : M Fl} {n m : Nat} {ρ : Env} {r : Ret Fl × Env} (h : whileM ft fb n ρ = some r) (l : n ≤ m) : whileM ft fb m ρ = some r := by
  obtain ⟨k, rfl⟩ := Nat.le.dest l
  induction k with
  | zero => exact h
  | succ k ih => exact whileM_mono (ih (Nat.le_add_right _ _))
theorem whileU_eq {ft : M Bool} {fb : M Fl} {n : Nat} {ρ : Env} {r : Ret Fl × Env} (h : whileM ft fb n ρ = some r) : whileU ft fb ρ = some r := by
  have q : ∃ n r, whileM ft fb n ρ = some r := ⟨n, r, h⟩
  have e : whileU ft fb ρ = some q.choose_spec.choose := by
    unfold whileU
    rw [dif_pos q]
  have h1 := q.choose_spec.choose_spec
  have a := whileM_le h1 (Nat.le_max_left q.choose n)
  have b := whileM_le h (Nat.le_max_right q.choose n)
  rw [e, ← a, b]
theorem es_while {c : Expr} {body : List Stmt} {ft : M Bool} {fb : M Fl} (hp : PassesOwn (model X.prog X.w) X.A X.env X.xe) (hc : EvT X W T c ft) (hb : EvSs X W T io body fb) : EvS X W T io (.While c body [] pos) (whileU ft fb) := by
  refine ⟨PS.imp (ps_while hp hc.pt hb.pss) fun D σ0 H ⟨w0, ρ0, eH, c0, r, ρ', e, co⟩ => ?_⟩
  subst eH
  obtain ⟨n, e⟩ := whileU_inv e
  refine ⟨fun m σ H => ∃ w ρ, w.H = H ∧ Cs X.K T σ ρ w ∧ CoS X W T io (whileM ft fb m) σ w ρ D, ⟨n, w0, ρ0, rfl, c0, r, ρ', e, co⟩, ?_⟩
  rintro m σ H ⟨w, ρ, eH, c, co⟩
  subst eH
  cases m with
  | zero =>
    obtain ⟨_, _, e, _⟩ := co
    cases e
  | succ m =>
    refine ⟨w, ρ, rfl, c, co.bindE.mono fun b ρ1 w1 l1 c1 k => ?_⟩
    cases b with
    | false => exact iteF (CoS.nx k l1 c1 (KpI.refl σ))
    | true =>
      refine iteT ⟨fun σ' H' => ∃ w ρ, w.H = H' ∧ Cs X.K T σ' ρ w ∧ CoS X W T io (whileM ft fb m) σ' w ρ D, fun σ' H' q => ⟨m, Nat.lt_succ_self m, q⟩, w1, ρ1, rfl, c1, ?_⟩
      have k : CoS X W T io (fb >>= _) σ w ρ1 D := k
      obtain ⟨r2, ρ2, e2, k⟩ := k
      rcases bind_inv e2 with ⟨fl, ρ3, e3, e4⟩ | ⟨x, ρ3, e3, e4⟩
      · refine ⟨.ok fl, ρ3, e3, ?_⟩
        cases fl with
        | nx => exact fun w' σ' l c k' => ⟨w', ρ3, rfl, c, CoS.base (l1.trans l) k' ⟨r2, ρ2, e4, k⟩⟩
        | ct => exact fun w' σ' l c k' => ⟨w', ρ3, rfl, c, CoS.base (l1.trans l) k' ⟨r2, ρ2, e4, k⟩⟩
        | bk => exact fun w' σ' l c k' => CoS.nx ⟨r2, ρ2, e4, k⟩ (l1.trans l) c k'
        | rt o => exact fun w' σ' v fp l c k' r ap nw => CoS.rt ⟨r2, ρ2, e4, k⟩ (l1.trans l) c k' r ap (l1.nw nw)
      · cases e4
        exact ⟨.ex x, _, e3, fun w' σ' c dd l c' k' x' => k w' σ' c dd (l1.trans l) c' k' x'⟩
def forL (g : G) (fb : M Fl) : List D → M Fl
  | [] => Pure.pure .nx
  | d :: ds => fun ρ => match g d ρ with
    | none => none
    | some ρ1 => (fb >>= fun fl => match fl with
      | .nx => forL g fb ds
      | .ct => forL g fb ds
      | .bk => Pure.pure .nx
      | .rt o => Pure.pure (.rt o) : M Fl) ρ1
theorem es_for {tg iter : Expr} {body : List Stmt} {ts : List Nat} {fi : M (List D)} {g : G} {fb : M Fl} (hp : PassesOwn (model X.prog X.w) X.A X.env X.xe) (hc : X.calm = true) (hio : ∀ x ∈ ts, x ∉ io) (hi : EvI X W T tg iter fi) (hg : EvG X T tg ts g) (hb : EvSs X W T io body fb)
    (hs : ∀ x, foldedSetIterable iter X.env x = pure x) : EvS X W T io (.For tg iter body [] pos) (fi >>= fun ds => forL g fb ds) := by
  refine ⟨PS.imp (ps_for hp hc hi.pi hg.pg hb.pss hs) fun D σ H ⟨w, ρ, eH, c, co⟩ => ?_⟩
  subst eH
  refine ⟨w, ρ, rfl, c, co.bindE.mono fun ds ρ1 w1 l1 c1 k J hJ => ?_⟩
  refine ⟨fun i m σ2 H => m = ds.length - i ∧ i ≤ ds.length ∧ ∃ w2 ρ2, w2.H = H ∧ Lw w1 w2 ∧ Cs X.K T σ2 ρ2 w2 ∧ CoS X W T io (forL g fb (ds.drop i)) σ2 w2 ρ2 D, ⟨ds.length, by simp, Nat.zero_le _, w1, ρ1, rfl, Lw.refl w1, c1, by rw [List.drop_zero]; exact k.base l1 (KpI.refl σ)⟩, ?_⟩
  rintro i m σ2 H ⟨rfl, hle, w2, ρ2, eH, l2, c2, k⟩
  subst eH
  obtain ⟨hstop, hgo⟩ := hJ i w2 σ2 ρ2 l2 c2
  by_cases hlt : i < ds.length
  · obtain ⟨d, ed⟩ : ∃ d, ds[i]? = some d := ⟨ds[i], List.getElem?_eq_getElem hlt⟩
    obtain ⟨go, yld⟩ := hgo d ed
    have edrop : ds.drop i = d :: ds.drop (i + 1) := by
      rw [List.drop_eq_getElem_cons hlt]
      rw [List.getElem?_eq_getElem hlt] at ed
      rw [Option.some.inj ed]
    rw [edrop] at k
    refine .inr ⟨go, fun σ' H' => ∃ w2 ρ2, w2.H = H' ∧ Lw w1 w2 ∧ Cs X.K T σ' ρ2 w2 ∧ CoS X W T io (forL g fb (ds.drop (i + 1))) σ' w2 ρ2 D, fun σ' H' q => ⟨ds.length - (i + 1), by omega, rfl, hlt, q⟩, fun x H' y => ?_⟩
    obtain ⟨w3, eH3, l3, c3, r3⟩ := yld x H' y
    subst eH3
    obtain ⟨r, ρ', e, k⟩ := k
    unfold forL at e
    split at e
    · cases e
    · rename_i ρb eg
      refine ⟨w3, ρ2, d, ρb, rfl, c3, r3, eg, fun w4 σ4 eH4 eF4 l4 c4 k4 => ?_⟩
      refine ⟨w4, ρb, rfl, c4, ?_⟩
      have kk : KpI io σ2 σ4 := k4.io hio
      have ll : Lw w2 w4 := l3.trans l4
      rcases bind_inv e with ⟨fl, ρ3, e3, e4⟩ | ⟨x, ρ3, e3, e4⟩
      · refine ⟨.ok fl, ρ3, e3, ?_⟩
        cases fl with
        | nx => exact fun w' σ' l c k' => ⟨w', ρ3, rfl, (l2.trans ll).trans l, c, CoS.base (ll.trans l) (kk.trans k') ⟨r, ρ', e4, k⟩⟩
        | ct => exact fun w' σ' l c k' => ⟨w', ρ3, rfl, (l2.trans ll).trans l, c, CoS.base (ll.trans l) (kk.trans k') ⟨r, ρ', e4, k⟩⟩
        | bk => exact fun w' σ' l c k' => CoS.nx ⟨r, ρ', e4, k⟩ (ll.trans l) c (kk.trans k')
        | rt o => exact fun w' σ' v fp l c k' rr ap nw => CoS.rt ⟨r, ρ', e4, k⟩ (ll.trans l) c (kk.trans k') rr ap (ll.nw nw)
      · cases e4
        exact ⟨.ex x, _, e3, fun w' σ' c dd l c' k' x' => k w' σ' c dd (ll.trans l) c' (kk.trans k') x'⟩
  · have e : i = ds.length := by omega
    refine .inl ⟨hstop e, ?_⟩
    subst e
    rw [List.drop_length] at k
    exact CoS.nx k (Lw.refl w2) c2 (KpI.refl σ2)
/-! ### raise -/
def raiseM (cls : Str) : M Fl := fun ρ => some (.ex ⟨cls, none⟩, ρ)
theorem es_raise {cls : Str} (hc : X.calm = true) (tk : Takes X W) (he : PMk X e (fun _ H Q => Q (.ref (He.ga X.K cls)) none H)) : EvS X W T io (.Raise (some e) none pos) (raiseM cls) := by
  refine ⟨PS.imp (ps_raise hc tk he) fun D σ H ⟨w, ρ, eH, c, r, ρ', e, co⟩ => ?_⟩
  subst eH
  cases e
  exact co w σ (.ref (He.ga X.K cls)) none (Lw.refl w) c (KpI.refl σ) ⟨rfl, rfl⟩
end
end Sh
set_option Elab.async false
set_option linter.all false
set_option maxRecDepth 100000
set_option maxHeartbeats 2000000
/-! Sh, part W: defs and calls. -/
namespace Sh
open PySem PySem.Spec PyProof.Rows L2
/-- what a def does: the objects it gets; what comes, and its slots behind it -/
abbrev Fn := List O → Option (Ret O × Env)
def outE (n : Nat) (io : List Nat) (ρ : Env) : Env := (List.range n).map fun j => if j ∈ io then (ρ[j]?).join else none
theorem outE_len {n : Nat} {io : List Nat} {ρ : Env} : (outE n io ρ).length = n := by
  unfold outE
  rw [List.length_map, List.length_range]
theorem outE_get {n : Nat} {io : List Nat} {ρ : Env} {j : Nat} (h : j < n) : (outE n io ρ)[j]? = some (if j ∈ io then (ρ[j]?).join else none) := by
  unfold outE
  rw [List.getElem?_map, List.getElem?_range h]
  rfl
theorem outE_some {n : Nat} {io : List Nat} {ρ : Env} {j : Nat} {o : O} (h : (outE n io ρ)[j]? = some (some o)) : j < n ∧ j ∈ io ∧ ρ[j]? = some (some o) := by
  have hj : j < n := by
    have := (List.getElem?_eq_some_iff.mp h).1
    rw [outE_len] at this
    exact this
  rw [outE_get hj] at h
  have h := Option.some.inj h
  by_cases q : j ∈ io
  · rw [if_pos q] at h
    refine ⟨hj, q, ?_⟩
    cases e : ρ[j]? with
    | none => rw [e] at h; cases h
    | some x => rw [e] at h; rw [← h]; rfl
  · rw [if_neg q] at h
    cases h
/-- the promise of a def that does g -/
def SpG (K : PySem.W.Frag) (T : List (Addr × Str)) (io : List Nat) (n : Nat) (g : Fn) : Sp := fun vs H Q E => vs.length = n ∧ ∃ w os, w.H = H ∧ Cs K T (vs.map some) (os.map some) w ∧ ∃ r ρ', g os = some (r, ρ') ∧ match r with
  | .ok o => ∀ w' v fp, Lw w w' → Cs K T (vs.map some) (outE n io ρ') w' → RpO K w'.F w'.H v o fp → Ap w' fp → Nw w fp → Q v w'.H
  | .ex x => ∀ w' c dd, Lw w w' → Cs K T (vs.map some) (outE n io ρ') w' → ExOk K w' c dd x → E c dd w'.H
/-- a body run -/
def runM (f : M Fl) (N : Nat) : Fn := fun os => match f (os.map some ++ List.replicate (N - os.length) none) with
  | some (.ok (.rt o), ρ') => some (.ok o, ρ')
  | some (.ok .nx, ρ') => some (.ok (.dat .none), ρ')
  | some (.ex x, ρ') => some (.ex x, ρ')
  | _ => none
theorem Cs.pad {K : PySem.W.Frag} {T : List (Addr × Str)} {vs : List V} {os : List O} {w : Wl} {m m' : Nat} (c : Cs K T (vs.map some) (os.map some) w) (e : m = m') : Cs K T (vs.map some ++ List.replicate m none) (os.map some ++ List.replicate m' none) w := by
  subst e
  have hl : vs.length = os.length := by have := c.len; rwa [List.length_map, List.length_map] at this
  refine ⟨by simp [hl], fun i o e => ?_, fun i h => ?_, c.sep, c.le, c.tb⟩
  · by_cases q : i < os.length
    · rw [List.getElem?_append_left (by rw [List.length_map]; exact q)] at e
      obtain ⟨v, h1, h2⟩ := c.sl i o e
      exact ⟨v, by rw [List.getElem?_append_left (by rw [List.length_map, hl]; exact q)]; exact h1, h2⟩
    · rw [List.getElem?_append_right (by rw [List.length_map]; omega), List.getElem?_replicate] at e
      split at e <;> cases e
  · refine c.no i fun o e => h o ?_
    have q : i < (os.map some).length := (List.getElem?_eq_some_iff.mp e).1
    rw [List.getElem?_append_left q]
    exact e
/-- the slots behind a body, those that are told -/
def Wl.keep (w : Wl) (n : Nat) (io : List Nat) : Wl := ⟨w.F, w.H, fun j => if j < n ∧ j ∈ io then w.fp j else []⟩
theorem Cs.keepIo {K : PySem.W.Frag} {T : List (Addr × Str)} {vs : List V} {σ' : L2.St} {ρ' : Env} {w : Wl} {m n : Nat} {io : List Nat} (hn : vs.length = n) (c : Cs K T σ' ρ' w) (k : KpI io (vs.map some ++ List.replicate m none) σ') : Cs K T (vs.map some) (outE n io ρ') (w.keep n io) := by
  refine ⟨by rw [outE_len, List.length_map, hn], fun j o e => ?_, fun j h => ?_, fun i j a h1 h2 => ?_, c.le, c.tb⟩
  · obtain ⟨hj, hio, e1⟩ := outE_some e
    obtain ⟨v, h1, h2⟩ := c.sl j o e1
    refine ⟨v, ?_, ?_⟩
    · rw [k.2 j hio, List.getElem?_append_left (by rw [List.length_map, hn]; exact hj)] at h1
      exact h1
    · show RpO K w.F w.H v o (if j < n ∧ j ∈ io then w.fp j else [])
      rw [if_pos ⟨hj, hio⟩]
      exact h2
  · show (if j < n ∧ j ∈ io then w.fp j else []) = []
    by_cases q : j < n ∧ j ∈ io
    · rw [if_pos q]
      refine c.no j fun o e => h o ?_
      rw [outE_get q.1, if_pos q.2, e]
      rfl
    · rw [if_neg q]
  · have h1 : a ∈ (if i < n ∧ i ∈ io then w.fp i else []) := h1
    have h2 : a ∈ (if j < n ∧ j ∈ io then w.fp j else []) := h2
    by_cases q1 : i < n ∧ i ∈ io
    · by_cases q2 : j < n ∧ j ∈ io
      · rw [if_pos q1] at h1
        rw [if_pos q2] at h2
        exact c.sep i j a h1 h2
      · rw [if_neg q2] at h2; cases h2
    · rw [if_neg q1] at h1; cases h1
theorem keep_own {w : Wl} {n : Nat} {io : List Nat} {b : Addr} (h : (w.keep n io).own b) : w.own b := by
  obtain ⟨j, h⟩ := h
  have h : b ∈ (if j < n ∧ j ∈ io then w.fp j else []) := h
  by_cases q : j < n ∧ j ∈ io
  · rw [if_pos q] at h; exact ⟨j, h⟩
  · rw [if_neg q] at h; cases h
theorem Lw.keepIo {w0 w : Wl} (l : Lw w0 w) (n : Nat) (io : List Nat) : Lw w0 (w.keep n io) := ⟨l.keep, l.frz, l.alive, l.le, l.newF, fun b h => l.newO b (keep_own h)⟩
/-- a def does what its body does -/
theorem fnG {P : Program} {w : World} {K : PySem.W.Frag} {mg : Str → Option Value} {base : Heap} {k : Nat} {f : Addr} {name qual : Str} {params : Arguments} {body : List Stmt} {scope : Scope} {dV kV doc pm cdv ct oc : Value} {an od : Option Addr}
    {osl : Array (Option Value)} {N ps : List Str} {T : List (Addr × Str)} {io : List Nat} {fb : M Fl} (lk : K.lookup f = some ⟨oc, od, .func (PySem.W.fnOf name qual params body scope dV kV doc pm an cdv ct), osl⟩) (hcd : PySem.W.codeIn K cdv qual = true) (S : FnScope N ps scope)
    (hbody : ∀ (A : Around) (outer : List PySem.Env) (s : Shared) (H : Hp) (E : XK), Room k (A.deeper (envOfC qual scope s.heap.objs.size f cdv)) →
      Takes (cxOf (L2.CX P w) P w K mg base N qual scope f cdv A outer s H E) (fun c d _ H => E c d H) → EvSs (cxOf (L2.CX P w) P w K mg base N qual scope f cdv A outer s H E) (fun c d _ H => E c d H) T io body fb) :
    FnOk P w K mg base (L2.CX P w) (k + 1) f (PySem.W.fnOf name qual params body scope dV kV doc pm an cdv ct) ps (SpG K T io ps.length (runM fb N.length)) := by
  refine fn_of lk hcd S (fun vs H Q E h => h.1) fun A outer s H vs Q E hr hsp => ?_
  refine ⟨_, (hbody A outer s H E hr (takes_of rfl rfl rfl rfl)).pss, ?_⟩
  obtain ⟨hn, w0, os, eH, c, r, ρ', e, h⟩ := hsp
  subst eH
  have hl : vs.length = os.length := by have := c.len; rwa [List.length_map, List.length_map] at this
  have cp : Cs K T (L2.start N vs) (os.map some ++ List.replicate (N.length - os.length) none) w0 := c.pad (by rw [hl])
  refine ⟨w0, _, rfl, cp, ?_⟩
  unfold runM at e
  split at e
  · rename_i o ρ2 ef
    cases e
    refine ⟨.ok (.rt o), ρ', ef, fun w' σ' v fp l c' k' ro ap nw => ?_⟩
    exact h (w'.keep ps.length io) v fp (l.keepIo _ _) (c'.keepIo hn k') ro (fun a z q => ap a z (keep_own q)) nw
  · rename_i ρ2 ef
    cases e
    refine ⟨.ok .nx, ρ', ef, fun w' σ' l c' k' => ?_⟩
    exact h (w'.keep ps.length io) .non [] (l.keepIo _ _) (c'.keepIo hn k') (.dat .non) (fun a z => by cases z) (fun a z => by cases z)
  · rename_i x ρ2 ef
    cases e
    refine ⟨.ex x, ρ', ef, fun w' σ' cc dd l c' k' hx => ?_⟩
    refine h (w'.keep ps.length io) cc dd (l.keepIo _ _) (c'.keepIo hn k') ⟨hx.1, ?_⟩
    have hx2 := hx.2
    cases hp : x.pay with
    | none => rw [hp] at hx2; exact hx2
    | some p =>
      rw [hp] at hx2
      obtain ⟨a, v, h1, h2, h3, h4⟩ := hx2
      exact ⟨a, v, h1, h2, h3, fun z => h4 (keep_own z)⟩
  · cases e
section
variable {X : Cx} {W : WX} {T : List (Addr × Str)} {io : List Nat} {e : Expr} {es : List Expr} {x : Str} {p pos : Pos}
/-- a def of the program, as it is called -/
structure Def (X : Cx) (T : List (Addr × Str)) (x : Str) (k : Nat) (io : List Nat) (n : Nat) (g : Fn) : Prop where
  call : ∀ {W : WX} {e : Expr} {es : List Expr} {p pos : Pos} {t : TA}, Takes X W → PA X (e :: es) t → starEach (e :: es) X.env = (false, eval e X.env) :: starEach es X.env → (backTo pos (starEach es X.env)).any (·.1) = false →
    PE X (.Call (.Name x p) (e :: es) [] pos) (fun σ H Q => t σ H fun vs H1 => SpG X.K T io n g vs H1 Q fun c d H' => W c d σ H')
  call0 : ∀ {W : WX} {p pos : Pos}, Takes X W → PE X (.Call (.Name x p) [] [] pos) (fun σ H Q => SpG X.K T io n g [] H Q fun c d H' => W c d σ H')
theorem run_fnσ {k : Nat} {f : Addr} {fd : FuncData} {ps : List Str} {sp : Sp} {pins : List (Addr × Obj)} {σ : L2.St} {H : Hp} {s : Shared} {Q : VK} {us : List Value} {vs : List V} (F : FnOk X.prog X.w X.K X.mg X.base (L2.CX X.prog X.w) k f fd ps sp) (hr : Room k X.A) (hb : L2.Binds X.K fd ps []) (tk : Takes X W)
    (I : Inv X pins σ H s) (r : Vals vs us) (h : sp vs H Q fun c d H' => W c d σ H') : wpAny (model X.prog X.w) X.A (call (.ref f) us) (EP X pins σ Q) X.xe s := by
  have hl : (us ++ []).length = ps.length := by rw [List.append_nil, ← r.length]; exact F.len _ _ _ _ h
  have hb2 := hb s us I.kIn hl
  rw [List.append_nil] at hb2
  refine wpAny_call (codeAny_mono (F.run X.A X.stack s H ⟨us, []⟩ us vs Q _ hr I.env0 hb2 r h) fun r s' hq => ?_)
  cases r with
  | error e => exact tk e s' (XE.of_call I (fun cls d H' h => h) hq)
  | ok fl =>
    cases fl with
    | ret u => exact I.after hq
    | next => exact False.elim hq
    | brk => exact False.elim hq
    | cont => exact False.elim hq
theorem def_of {k : Nat} {f : Addr} {fd : FuncData} {ps : List Str} {n : Nat} {g : Fn} (F : FnOk X.prog X.w X.K X.mg X.base (L2.CX X.prog X.w) k f fd ps (SpG X.K T io n g)) (hr : Room k X.A) (hg : Gl X x) (hm : X.mg x = some (.ref f)) (hk : PySem.W.keepIn X.K (.ref f) = true) (hb : L2.Binds X.K fd ps [])
    (hdb : (x == ("__debug__" : Str)) = false) : Def X T x k io n g where
  call := fun {W e es p pos t} tk ha he hpl => by
    refine ⟨fun pins s σ H Q I h => ?_⟩
    refine wpAny_Call_Name_kw (ld_glob I hg hm ?_ hdb)
    refine PySem.W.callWith_K (h₀ := X.base) I.ok.mod.kin hk (thn (ha.run pos pins s σ H _ I h) fun us s1 ⟨vs, H1, I1, r, q⟩ => ⟨I1.kIn, ?_⟩) he hpl
    exact run_fnσ F hr hb tk I1 r q
  call0 := fun {W p pos} tk => by
    refine ⟨fun pins s σ H Q I h => ?_⟩
    refine wpAny_Call_Name_kw (ld_glob I hg hm ?_ hdb)
    exact PySem.W.callWith_K0 I.kIn hk (run_fnσ (us := []) F hr hb tk I .nil h)
/-- called with data -/
def callM (g : Fn) (n : Nat) (f : M (List D)) : M O := f >>= fun ds => fun ρ => if ds.length = n then match g (ds.map .dat) with
  | none => none
  | some (.ok o, _) => some (.ok o, ρ)
  | some (.ex x, _) => some (.ex x, ρ) else none
theorem RpA.args {K : PySem.W.Frag} {F : Hp} {H : Hp} {vs : List V} {ds : List D} (r : RpA K F vs ds) {i : Nat} {o : O} (e : ((ds.map O.dat).map some)[i]? = some (some o)) : ∃ v, (vs.map some)[i]? = some (some v) ∧ RpO K F H v o [] := by
  rw [List.map_map, List.getElem?_map] at e
  obtain ⟨d, e1, e2⟩ := Option.map_eq_some_iff.mp e
  obtain ⟨v, h1, h2⟩ := r.get e1
  have e2 := Option.some.inj e2
  subst e2
  exact ⟨v, by rw [List.getElem?_map, h1]; rfl, .dat h2⟩
theorem callM_main {g : Fn} {n : Nat} {σ : L2.St} {ρ : Env} {w w0 : Wl} {vs : List V} {ds : List D} {Q : VK} (c : Cs X.K T σ ρ w) (l0 : Lw w0 w) (r : RpA X.K w.F vs ds) (hn : ds.length = n) {rr : Ret O} {ρ' : Env} (eg : g (ds.map .dat) = some (rr, ρ'))
    (h : match rr with
      | .ok o => ∀ w', Lw w0 w' → Cs X.K T σ ρ w' → ∀ v fp, RpO X.K w'.F w'.H v o fp → Ap w' fp → Nw w0 fp → Q v w'.H
      | .ex x => ∀ w' cc dd, Lw w0 w' → Cs X.K T σ ρ w' → ExOk X.K w' cc dd x → W cc dd σ w'.H) : SpG X.K T io n g vs w.H Q fun c d H' => W c d σ H' := by
  have wA : Cs X.K T (vs.map some) ((ds.map O.dat).map some) ⟨w.F, w.H, fun _ => []⟩ := by
    refine ⟨by simp [r.length], fun i o e => r.args e, fun _ _ => rfl, fun i j a h1 _ => absurd h1 (by simp), c.le, c.tb⟩
  have nA : ∀ b, ¬ (Wl.own ⟨w.F, w.H, fun _ => []⟩ b) := fun b ⟨j, z⟩ => by cases z
  have back : ∀ w' outs, Lw ⟨w.F, w.H, fun _ => []⟩ w' → Cs X.K T (vs.map some) outs w' → Cs X.K T σ ρ ⟨w'.F, w'.H, w.fp⟩ ∧ Lw w0 ⟨w'.F, w'.H, w.fp⟩ := by
    intro w' outs l c'
    refine ⟨⟨c.len, fun i o e => ?_, c.no, c.sep, c'.le, c'.tb⟩, l0.trans ⟨fun b u e n t => l.keep b u e (nA b) t, l.frz, l.alive, l.le, fun b e => ?_, fun b e => .inl e⟩⟩
    · obtain ⟨v, h1, h2⟩ := c.sl i o e
      exact ⟨v, h1, (l.out (K := X.K) (w := ⟨w.F, w.H, fun _ => []⟩) h2 fun a _ => nA a).1⟩
    · rcases l.newF b e with z | z | z
      · exact .inl z
      · exact absurd z (nA b)
      · exact .inr (.inr z)
  refine ⟨by rw [r.length, hn], ⟨w.F, w.H, fun _ => []⟩, ds.map O.dat, rfl, wA, rr, ρ', eg, ?_⟩
  cases rr with
  | ok o =>
    intro w' v fp l c' ro ap nw
    obtain ⟨cb, lb⟩ := back w' _ l c'
    have fr : ∀ a ∈ fp, Voi (w.H a) := fun a z => (nw a z).elim (fun q => absurd q (nA a)) id
    refine h ⟨w'.F, w'.H, w.fp⟩ lb cb v fp ro (fun a z q => ?_) (l0.nw fun a z => .inr (fr a z))
    exact (fr a z).own1 (c.own_at (p := a) q).2
  | ex xx =>
    intro w' cc dd l c' hx
    obtain ⟨cb, lb⟩ := back w' _ l c'
    refine h ⟨w'.F, w'.H, w.fp⟩ cc dd lb cb ⟨hx.1, ?_⟩
    have hx2 := hx.2
    cases hp : xx.pay with
    | none => rw [hp] at hx2; exact hx2
    | some p =>
      rw [hp] at hx2
      obtain ⟨a, v, h1, h2, h3, h4⟩ := hx2
      refine ⟨a, v, h1, h2, h3, fun z => ?_⟩
      have := (cb.own_at (p := a) z).2
      have h2' : (⟨w'.F, w'.H, w.fp⟩ : Wl).H a = some (.xd [(p.1, v)]) := h2
      rw [h2'] at this
      exact this
theorem eo_call {g : Fn} {n k : Nat} {f : M (List D)} (hd : Def X T x k io n g) (tk : Takes X W) (ha : EvA X W T (e :: es) f) (he : starEach (e :: es) X.env = (false, eval e X.env) :: starEach es X.env) (hpl : (backTo pos (starEach es X.env)).any (·.1) = false) :
    EvO X W T (.Call (.Name x p) (e :: es) [] pos) (callM g n f) := by
  refine ⟨PE.imp (hd.call tk ha.pa he hpl) fun σ H Q ⟨w, ρ, eH, c, r, ρ', er, co⟩ => ?_⟩
  subst eH
  rcases bind_inv er with ⟨ds, ρ1, e1, e2⟩ | ⟨xx, ρ1, e1, e2⟩
  · refine ⟨w, ρ, rfl, c, Co.of e1 fun w1 l1 c1 vs rv => ?_⟩
    split at e2
    · rename_i hl
      split at e2
      · cases e2
      · rename_i o outs eg
        cases e2
        exact callM_main c1 l1 rv hl eg fun w' l c' v fp ro ap nw => co w' l c' v fp ro ap nw
      · rename_i xx outs eg
        cases e2
        exact callM_main c1 l1 rv hl eg fun w' cc dd l c' hx => co w' cc dd l c' hx
    · cases e2
  · cases e2
    exact ⟨w, ρ, rfl, c, .ex xx, _, e1, co⟩
/-- .. the value taken as data -/
theorem ev_call {g : Fn} {n k : Nat} {f : M (List D)} (hd : Def X T x k io n g) (tk : Takes X W) (ha : EvA X W T (e :: es) f) (he : starEach (e :: es) X.env = (false, eval e X.env) :: starEach es X.env) (hpl : (backTo pos (starEach es X.env)).any (·.1) = false) :
    EvD X W T (.Call (.Name x p) (e :: es) [] pos) (callM g n f >>= fun o => guardM (!o.isScr) >>= fun _ => Pure.pure o.view) := (eo_call hd tk ha he hpl).d
/-! ### an object lent -/
def ins {α : Type} (p : Nat) (a : α) (xs : List α) : List α := xs.take p ++ a :: xs.drop p
theorem ins_zero {α : Type} {a : α} {xs : List α} : ins 0 a xs = a :: xs := by simp [ins]
theorem ins_succ {α : Type} {p : Nat} {a x : α} {xs : List α} : ins (p + 1) a (x :: xs) = x :: ins p a xs := by simp [ins]
theorem ins_at {α : Type} {p : Nat} {a : α} {xs : List α} (h : p ≤ xs.length) : (ins p a xs)[p]? = some a := by
  unfold ins
  rw [List.getElem?_append_right (by rw [List.length_take]; omega), List.length_take, Nat.min_eq_left h, Nat.sub_self]
  rfl
theorem ins_map {α β : Type} (f : α → β) (p : Nat) (a : α) (xs : List α) : (ins p a xs).map f = ins p (f a) (xs.map f) := by
  unfold ins
  rw [List.map_append, List.map_cons, List.map_take, List.map_drop]
theorem ins_len {α : Type} {p : Nat} {a : α} {xs : List α} : (ins p a xs).length = xs.length + 1 := by
  unfold ins
  rw [List.length_append, List.length_cons, List.length_take, List.length_drop]
  omega
/-- arguments: the slot i lent at the place p, else data -/
def tL (X : Cx) (W : WX) (T : List (Addr × Str)) (p i : Nat) (f : M (List D)) : TA := fun σ H Q => ∃ w ρ, w.H = H ∧ Cs X.K T σ ρ w ∧ Co X W T f σ w ρ fun ds _ w' => ∀ v vs, σ[i]? = some (some v) → RpA X.K w'.F vs ds → Q (ins p v vs) w'.H
structure EvL (X : Cx) (W : WX) (T : List (Addr × Str)) (es : List Expr) (p i : Nat) (f : M (List D)) : Prop where
  pa : PA X es (tL X W T p i f)
theorem el_here {i : Nat} {f : M (List D)} (hn : PE X e (tVar i)) (hr : EvA X W T es f) (hs : starEach (e :: es) X.env = (false, eval e X.env) :: starEach es X.env) : EvL X W T (e :: es) 0 i (chkN i >>= fun _ => f) := by
  refine ⟨PA.imp (pa_cons hn hr.pa hs) fun σ H Q ⟨w, ρ, eH, c, co⟩ => ?_⟩
  subst eH
  obtain ⟨o, eo, co⟩ := co.chk
  obtain ⟨v, hv, _⟩ := c.sl i o eo
  refine ⟨v, hv, w, ρ, rfl, c, co.mono fun ds ρ1 w1 l1 c1 k vs r => ?_⟩
  have := k v vs hv r
  rwa [ins_zero] at this
theorem el_skip {i q : Nat} {f : M D} {g : M (List D)} (ha : EvD X W T e f) (hr : EvL X W T es q i g) (hs : starEach (e :: es) X.env = (false, eval e X.env) :: starEach es X.env) : EvL X W T (e :: es) (q + 1) i (consM f g) := by
  refine ⟨PA.imp (pa_cons ha.pe hr.pa hs) fun σ H Q ⟨w, ρ, eH, c, co⟩ => ?_⟩
  subst eH
  refine ⟨w, ρ, rfl, c, co.bind.mono fun d ρ1 w1 l1 c1 k v r => ?_⟩
  refine ⟨w1, ρ1, rfl, c1, (k.base l1).bind.mono fun ds ρ2 w2 l2 c2 k u vs hv rs => ?_⟩
  have := k.pure w2 l2 c2 u (v :: vs) hv (.cons (Rp.mono' l2.le r) rs)
  rwa [ins_succ] at this
/-- called with the object of slot i at the place p -/
def callN (g : Fn) (n p i : Nat) (f : M (List D)) : M O := f >>= fun ds => fun ρ => match ρ[i]? with
  | some (some o) => if ds.length + 1 = n ∧ p ≤ ds.length then match g (ins p o (ds.map .dat)) with
    | none => none
    | some (r, outs) => some (r, ρ.set i (outs[p]?).join) else none
  | _ => none
theorem eo_callN {g : Fn} {n k p0 i : Nat} {f : M (List D)} (hd : Def X T x k [p0] n g) (tk : Takes X W) (ha : EvL X W T (e :: es) p0 i f) (he : starEach (e :: es) X.env = (false, eval e X.env) :: starEach es X.env) (hpl : (backTo pos (starEach es X.env)).any (·.1) = false) :
    EvO X W T (.Call (.Name x p) (e :: es) [] pos) (callN g n p0 i f) := by
  refine ⟨PE.imp (hd.call tk ha.pa he hpl) fun σ H Q ⟨w0, ρ, eH, c0, r, ρ', er, co⟩ => ?_⟩
  subst eH
  rcases bind_inv er with ⟨ds, ρ1, e1, e2⟩ | ⟨xx, ρ1, e1, e2⟩
  · refine ⟨w0, ρ, rfl, c0, Co.of e1 fun w l0 c v vs hv rv => ?_⟩
    split at e2
    · rename_i o eo
      split at e2
      · rename_i hl
        split at e2
        · cases e2
        · rename_i rr outs eg
          cases e2
          obtain ⟨hn, hp⟩ := hl
          have hi : i < ρ1.length := (List.getElem?_eq_some_iff.mp eo).1
          obtain ⟨v', hv', ro⟩ := c.sl i o eo
          obtain rfl : v' = v := Option.some.inj (Option.some.inj (hv'.symm.trans hv))
          have hvl := rv.length
          have hpn : p0 < n := by omega
          have wA : Cs X.K T ((ins p0 v' vs).map some) ((ins p0 o (ds.map O.dat)).map some) ⟨w.F, w.H, fun j => if j = p0 then w.fp i else []⟩ := by
            refine ⟨by rw [List.length_map, List.length_map, ins_len, ins_len, List.length_map, hvl], fun j q ej => ?_, fun j h => ?_, fun a b z h1 h2 => ?_, c.le, c.tb⟩
            · by_cases hj : j = p0
              · subst hj
                rw [ins_map, ins_at (by rw [List.length_map, List.length_map]; exact hp)] at ej
                obtain rfl := Option.some.inj (Option.some.inj ej)
                refine ⟨v', by rw [ins_map, ins_at (by rw [List.length_map, hvl]; exact hp)], ?_⟩
                show RpO X.K w.F w.H v' o (if j = j then w.fp i else [])
                rw [if_pos rfl]
                exact ro
              · have he2 : ∀ {α : Type} {a b : α} {xs : List α}, p0 ≤ xs.length → (ins p0 a xs)[j]? = (ins p0 b xs)[j]? := by
                  intro α a b xs hx
                  unfold ins
                  by_cases hlt : j < p0
                  · rw [List.getElem?_append_left (by rw [List.length_take]; omega), List.getElem?_append_left (by rw [List.length_take]; omega)]
                  · rw [List.getElem?_append_right (by rw [List.length_take]; omega), List.getElem?_append_right (by rw [List.length_take]; omega)]
                    have : j - (xs.take p0).length = (j - p0 - 1) + 1 := by rw [List.length_take, Nat.min_eq_left hx]; omega
                    rw [this, List.getElem?_cons_succ, List.getElem?_cons_succ]
                show ∃ v, _ ∧ RpO X.K w.F w.H v q (if j = p0 then w.fp i else [])
                rw [if_neg hj]
                rw [ins_map] at ej ⊢
                have key : ∀ {m : Nat}, j = m → True := fun _ => trivial
                unfold ins at ej ⊢
                by_cases hlt : j < p0
                · rw [List.getElem?_append_left (by rw [List.length_take, List.length_map, List.length_map]; omega), List.getElem?_take_of_lt hlt] at ej
                  obtain ⟨y, h1, h2⟩ := rv.args (H := w.H) ej
                  exact ⟨y, by rw [List.getElem?_append_left (by rw [List.length_take, List.length_map]; omega), List.getElem?_take_of_lt hlt]; exact h1, h2⟩
                · rw [List.getElem?_append_right (by rw [List.length_take, List.length_map, List.length_map]; omega)] at ej
                  have e5 : j - (((ds.map O.dat).map some).take p0).length = (j - p0 - 1) + 1 := by rw [List.length_take, List.length_map, List.length_map, Nat.min_eq_left hp]; omega
                  have e6 : j - ((vs.map some).take p0).length = (j - p0 - 1) + 1 := by rw [List.length_take, List.length_map, hvl, Nat.min_eq_left hp]; omega
                  rw [e5, List.getElem?_cons_succ, List.getElem?_drop] at ej
                  obtain ⟨y, h1, h2⟩ := rv.args (H := w.H) ej
                  refine ⟨y, ?_, h2⟩
                  rw [List.getElem?_append_right (by rw [List.length_take, List.length_map]; omega), e6, List.getElem?_cons_succ, List.getElem?_drop]
                  exact h1
            · show (if j = p0 then w.fp i else []) = []
              by_cases hj : j = p0
              · subst hj
                exact absurd (by rw [ins_map, ins_at (by rw [List.length_map, List.length_map]; exact hp)]) (h o)
              · rw [if_neg hj]
            · have h1 : z ∈ (if a = p0 then w.fp i else []) := h1
              have h2 : z ∈ (if b = p0 then w.fp i else []) := h2
              by_cases ha : a = p0
              · by_cases hb : b = p0
                · rw [ha, hb]
                · rw [if_neg hb] at h2; cases h2
              · rw [if_neg ha] at h1; cases h1
          have oA : ∀ b, Wl.own ⟨w.F, w.H, fun j => if j = p0 then w.fp i else []⟩ b → b ∈ w.fp i := fun b ⟨j, z⟩ => by
            have z : b ∈ (if j = p0 then w.fp i else []) := z
            by_cases hj : j = p0
            · rw [if_pos hj] at z; exact z
            · rw [if_neg hj] at z; cases z
          have lost : ∀ {b : Addr} {k : Nat}, k ≠ i → b ∈ w.fp k → b ∈ w.fp i ∨ Voi (w.H b) → False := fun {b k} hk hb h => by
            rcases h with h | h
            · exact hk (c.sep k i b hb h)
            · exact h.own1 (c.own_at (p := b) ⟨k, hb⟩).2
          have back : ∀ w' , Lw ⟨w.F, w.H, fun j => if j = p0 then w.fp i else []⟩ w' → Cs X.K T ((ins p0 v' vs).map some) (outE n [p0] outs) w' → Cs X.K T σ (ρ1.set i (outs[p0]?).join) ⟨w'.F, w'.H, fun k => if k = i then w'.fp p0 else w.fp k⟩ ∧ Lw w0 ⟨w'.F, w'.H, fun k => if k = i then w'.fp p0 else w.fp k⟩ := by
            intro w' l c'
            have eo2 : (outE n [p0] outs)[p0]? = some (outs[p0]?).join := by rw [outE_get hpn, if_pos (List.mem_singleton.mpr rfl)]
            have nwk : ∀ {b : Addr}, w'.own b → b ∈ w.fp i ∨ Voi (w.H b) := fun {b} h => (l.newO b h).imp (oA b) id
            refine ⟨⟨by rw [List.length_set]; exact c.len, fun k q ek => ?_, fun k h => ?_, fun a b z h1 h2 => ?_, c'.le, c'.tb⟩, l0.trans ⟨fun b u e nn t => l.keep b u e (fun z => nn ⟨i, oA b z⟩) t, l.frz, l.alive, l.le, fun b e => ?_, fun b ⟨k, h⟩ => ?_⟩⟩
            · rcases set_get ek with ⟨rfl, e3⟩ | ⟨hk, e3⟩
              · have e4 : (outE n [p0] outs)[p0]? = some (some q) := by rw [eo2, e3]
                obtain ⟨y, h1, h2⟩ := c'.sl p0 q e4
                rw [ins_map, ins_at (by rw [List.length_map, hvl]; exact hp)] at h1
                obtain rfl := Option.some.inj (Option.some.inj h1)
                refine ⟨v', hv, ?_⟩
                show RpO X.K w'.F w'.H v' q (if k = k then w'.fp p0 else w.fp k)
                rw [if_pos rfl]
                exact h2
              · obtain ⟨y, h1, h2⟩ := c.sl k q e3
                refine ⟨y, h1, ?_⟩
                show RpO X.K w'.F w'.H y q (if k = i then w'.fp p0 else w.fp k)
                rw [if_neg hk]
                exact (l.out (K := X.K) (w := ⟨w.F, w.H, fun j => if j = p0 then w.fp i else []⟩) h2 fun a z q => lost hk z (.inl (oA a q))).1
            · show (if k = i then w'.fp p0 else w.fp k) = []
              by_cases hk : k = i
              · rw [if_pos hk]
                refine c'.no p0 fun q z => h q ?_
                rw [eo2] at z
                subst hk
                rw [List.getElem?_set_self hi]
                exact z
              · rw [if_neg hk]
                exact c.no k fun q z => h q (by rw [List.getElem?_set_ne (Ne.symm hk)]; exact z)
            · have h1 : z ∈ (if a = i then w'.fp p0 else w.fp a) := h1
              have h2 : z ∈ (if b = i then w'.fp p0 else w.fp b) := h2
              by_cases ha : a = i
              · by_cases hb : b = i
                · rw [ha, hb]
                · rw [if_pos ha] at h1
                  rw [if_neg hb] at h2
                  exact (lost hb h2 (nwk ⟨p0, h1⟩)).elim
              · rw [if_neg ha] at h1
                by_cases hb : b = i
                · rw [if_pos hb] at h2
                  exact (lost ha h1 (nwk ⟨p0, h2⟩)).elim
                · rw [if_neg hb] at h2
                  exact c.sep a b z h1 h2
            · rcases l.newF b e with z | z | z
              · exact .inl z
              · exact .inr (.inl ⟨i, oA b z⟩)
              · exact .inr (.inr z)
            · have h : b ∈ (if k = i then w'.fp p0 else w.fp k) := h
              by_cases hk : k = i
              · rw [if_pos hk] at h
                exact (nwk ⟨p0, h⟩).imp (fun z => ⟨i, z⟩) id
              · rw [if_neg hk] at h
                exact .inl ⟨k, h⟩
          refine ⟨by rw [ins_len, hvl, hn], ⟨w.F, w.H, fun j => if j = p0 then w.fp i else []⟩, ins p0 o (ds.map O.dat), rfl, wA, r, outs, eg, ?_⟩
          cases r with
          | ok o2 =>
            intro w' y fp l c' ry ap nw
            obtain ⟨cb, lb⟩ := back w' l c'
            have nw1 : ∀ a ∈ fp, a ∈ w.fp i ∨ Voi (w.H a) := fun a z => (nw a z).imp (oA a) id
            refine co ⟨w'.F, w'.H, fun k => if k = i then w'.fp p0 else w.fp k⟩ lb cb y fp ry (fun a z ⟨k, q⟩ => ?_) (l0.nw fun a z => (nw1 a z).imp (fun q => ⟨i, q⟩) id)
            have q : a ∈ (if k = i then w'.fp p0 else w.fp k) := q
            by_cases hk : k = i
            · rw [if_pos hk] at q
              exact ap a z ⟨p0, q⟩
            · rw [if_neg hk] at q
              exact lost hk q (nw1 a z)
          | ex x2 =>
            intro w' cc dd l c' hx
            obtain ⟨cb, lb⟩ := back w' l c'
            refine co ⟨w'.F, w'.H, fun k => if k = i then w'.fp p0 else w.fp k⟩ cc dd lb cb ⟨hx.1, ?_⟩
            have hx2 := hx.2
            cases hpay : x2.pay with
            | none => rw [hpay] at hx2; exact hx2
            | some pp =>
              rw [hpay] at hx2
              obtain ⟨a, y, h1, h2, h3, h4⟩ := hx2
              refine ⟨a, y, h1, h2, h3, fun z => ?_⟩
              have := (cb.own_at (p := a) z).2
              have h2' : (⟨w'.F, w'.H, fun k => if k = i then w'.fp p0 else w.fp k⟩ : Wl).H a = some (.xd [(pp.1, y)]) := h2
              rw [h2'] at this
              exact this
      · cases e2
    · cases e2
  · cases e2
    exact ⟨w0, ρ, rfl, c0, .ex xx, _, e1, co⟩
end
end Sh
set_option Elab.async false
set_option linter.all false
set_option maxRecDepth 100000
set_option maxHeartbeats 2000000
/-! Sh, part X: own exceptions whose __init__ only calls the base's. -/
namespace Sh
open PySem PySem.Spec PyProof.Rows L2
section
variable {X : Cx} {e : Expr} {es : List Expr} {ta : TA} {x : Str} {C0 : Addr} {p p1 p2 pos : Pos}
/-- B.__init__(self, ..), B an own class that has it of ValueError -/
theorem pe_initC {pl : Sem Bool} (hg : Gl X x) (hm : X.mg x = some (.ref C0)) (hdb : (x == ("__debug__" : Str)) = false)
    (hga : PySem.W.specialIn X.K (.ref C0) "__getattribute__" = some (some (.builtin "type.__getattribute__"))) (hr : PySem.W.readsIn X.K C0 (.type "type") = true)
    (hf : PySem.W.findCls X.K (.ref C0) (.type "type") "__init__" = some (.val (.builtin "ValueError.__init__"))) (ha : PA X (e :: es) ta)
    (hc : eval (.Call (.Attribute (.Name x p1) "__init__" p2) (e :: es) [] pos) X.env = (do
      let ov ← eval (.Name x p1) X.env
      standAt p2.atName
      let (f, first) ← holding [ov] (getMethod ov "__init__" pl)
      callWith pos f first (backTo pos (starEach (e :: es) X.env)) (backToKw pos (keywordEach [] X.env))))
    (he : starEach (e :: es) X.env = (false, eval e X.env) :: starEach es X.env) (hpl : (backTo pos (starEach es X.env)).any (·.1) = false) :
    PE X (.Call (.Attribute (.Name x p1) "__init__" p2) (e :: es) [] pos) (tVeI X.K ta) := by
  refine ⟨fun pins s σ H Q I h => ?_⟩
  refine PySem.W.methodCall_KW (ld_glob I hg hm ?_ hdb) hc
  refine PySem.W.method_cls I.kIn hga (PySem.W.cls_value I.kIn hr hf (by decide +kernel) ?_)
  show wpAny _ _ (callWith pos (Value.builtin "ValueError.__init__") [] (backTo pos (starEach (e :: es) X.env)) []) _ _ _
  refine PyProof.Rows.callWith_method1 (thn (ha.run pos pins _ σ H _ (I.tok _) h) fun us s1 ⟨vs, H1, I1, r1, a, C, ws, ev, hl, T, ea, q⟩ => ?_) he hpl
  subst ev
  cases r1 with
  | @cons _ u0 _ ur ra rw' =>
    obtain rfl : u0 = Value.ref a := ra
    have hlen : ur.length ≤ sizeLine := by
      rw [← Paired.length rw', sizeLine_eq]
      omega
    exact oinit_ok T I1 ea hlen fun s' J => ⟨.non, H1, J, rfl, q⟩
/-- what the __init__ keeps -/
def SpI (C : Addr) : Sp := fun vs H Q _ => ∃ a, vs = [.ref a] ∧ H a = some (exo a C none) ∧ Q .non H
theorem mk_endN {pins : List (Addr × Obj)} {σ : L2.St} {H1 H2 : Hp} {Q : XK} {hp hp2 h2 : Heap} {g1 g2 : Array GenState} {d1 d2 : Drawn} {t1 t2 : Nat} {os1 os2 : OsState} {a C : Addr} (T : Raises X (.ref C)) (I1 : Inv X pins σ H1 ⟨hp, g1, d1, t1, os1⟩)
    (ha : hp.objs.size ≤ a) (k : ∀ b o, hp.get? b = some o → hp2.get? b = some o) (un : Un (frs X.stack) [] (upd H1 a (exo a C none)) H2 hp2 h2) (hok : HOk X.prog X.w H2 h2) (ho : os2 = os1) (hb : AllBare g2)
    (ea : H2 a = some (exo a C none)) (q : Q (.ref C) none (L2.del H2 a)) : MkP X pins σ Q (.ref a) ⟨h2, g2, d2, t2, os2⟩ := by
  obtain ⟨t0, hoe⟩ := exo_at hok ea
  have hn : H1 a = none := I1.hok.fresh ha
  obtain ⟨G, g1', g2'⟩ := restrict h2 fun b => decide (b ≠ a)
  have gk : ∀ b, b ≠ a → G.get? b = h2.get? b := fun b hb => g1' b (decide_eq_true hb)
  have ge : G.get? a = none := g2' a (by simp)
  have nha : ∀ {b : Addr} {o : Obj}, hp.get? b = some o → b ≠ a := fun {b o} z => Nat.ne_of_lt (Nat.lt_of_lt_of_le (Heap.lt_size z) ha)
  have up : ∀ {b : Addr}, b ≠ a → H1 b = none → upd H1 a (exo a C none) b = none := fun {b} hb n => by rw [upd_ne hb]; exact n
  have U : Un (frs X.stack) [] H1 (L2.del H2 a) hp G := {
    keep := fun b o z n hf hx => (gk b (nha z)).trans (un.keep b o (k b o z) (up (nha z) n) hf hx)
    slot := fun b o z n hf hx => by
      obtain ⟨sl, q⟩ := un.slot b o (k b o z) (up (nha z) n) hf hx
      exact ⟨sl, (gk b (nha z)).trans q⟩
    free := fun b o z n hx => (del_ne (nha z)).trans (un.free b o (k b o z) (up (nha z) n) hx)
    there := fun b o z hx => by
      obtain ⟨o', q⟩ := un.there b o (k b o z) hx
      exact ⟨o', (gk b (nha z)).trans q⟩
    tups := fun b xs z => (del_ne (ne_of_none z hn)).trans (un.tups b xs (by rw [upd_ne (ne_of_none z hn)]; exact z))
    frzs := fun b o v z => (del_ne (ne_of_none z hn)).trans (un.frzs b o v (by rw [upd_ne (ne_of_none z hn)]; exact z))
    tbls := fun b ps z => by
      obtain ⟨m, q⟩ := un.tbls b ps (by rw [upd_ne (ne_of_none z hn)]; exact z)
      exact ⟨m, (del_ne (ne_of_none z hn)).trans q⟩ }
  have hok3 : HOk X.prog X.w (L2.del H2 a) G := fun b o z => by
    have hba : b ≠ a := fun e => by
      rw [e, del_same] at z
      cases z
    rw [del_ne hba] at z
    have noa : ∀ {c : Addr}, H2 c = some (.own b) → c ≠ a := fun {c} hc => at_ne ea hc exo_own
    refine (hok b o z).stay (fun c v hc y => ?_) (fun c hc => (del_ne (noa hc)).trans hc) (fun c xs hc => (del_ne (at_ne ea hc exo_tup)).trans hc)
    have hca : c ≠ a := by
      rcases hc with hc | hc
      · rw [hc]; exact hba
      · exact noa hc
    exact (gk c hca).trans y
  have J : Inv X pins σ (L2.del H2 a) ⟨G, g2, d2, t2, os2⟩ := I1.call' (ch := []) ho U hok3 hb (fun b z => absurd z (by simp))
  refine ⟨a, _, _, ⟨G, g2, d2, t2, os2⟩, _, .ref C, none, rfl, J, fun b o z => ?_, ge, hoe, ⟨rfl, rfl⟩, rfl, rfl, del_same, rfl, hb, T, q⟩
  by_cases hba : b = a
  · rw [hba, ge] at z
    cases z
  · exact (gk b hba).symm.trans z
/-- C(), C's own __init__ keeping SpI -/
theorem pmk_ex0 {CX : CXT} {C fI : Addr} {k : Nat} {fd : FuncData} {ps : List Str} (T : OexC X.K C) (iC : PySem.W.findIn X.K (.ref C) "__init__" = some (some (.ref fI))) (tI : PySem.W.typeIn X.K (.ref fI) = some (.type "function"))
    (F1 : FnOk X.prog X.w X.K X.mg X.base CX k fI fd ps (SpI C)) (hr : Room (k + 1) X.A) (hb : L2.Binds X.K fd ps []) (hx : Passes CX X (fun _ _ _ => False)) (hg : Gl X x) (hm : X.mg x = some (.ref C)) (hdb : (x == ("__debug__" : Str)) = false) :
    PMk X (.Call (.Name x p) [] [] pos) (fun _ H Q => Q (.ref C) none H) := by
  intro pins s σ H Q I h
  obtain ⟨nm, q, N, bs, bm, sn, sub, ab, col, dd, k0, k1, k2, k3, k5, hC, hbm⟩ := T.cls
  refine wpAny_Call_Name_kw (ld_glob I hg hm ?_ hdb)
  refine PySem.W.callWith_K0 I.kIn T.kC ?_
  obtain ⟨hp, g, dr, tk, os⟩ := s
  have hsz : hp.objs.size ≤ hp.objs.size + 1 := Nat.le_succ _
  have hn : H (hp.objs.size + 1) = none := I.hok.fresh hsz
  have kk : ∀ b o, hp.get? b = some o → ((hp.push (PySem.W.kdv_tup [])).push (PySem.HandSPX.excO C hp.objs.size)).get? b = some o := fun b o e => Heap.get?_push_of_some _ (Heap.get?_push_of_some _ e)
  have hget : ((hp.push (PySem.W.kdv_tup [])).push (PySem.HandSPX.excO C hp.objs.size)).get? (hp.objs.size + 1) = some (PySem.HandSPX.excO C hp.objs.size) := by heap_get
  have I2 : Inv X pins σ (upd H (hp.objs.size + 1) (exo (hp.objs.size + 1) C none)) ⟨(hp.push (PySem.W.kdv_tup [])).push (PySem.HandSPX.excO C hp.objs.size), g, dr, tk, os⟩ :=
    I.laid (t' := tk) (a := hp.objs.size + 1) (o := exo (hp.objs.size + 1) C none) (h' := (hp.push (PySem.W.kdv_tup [])).push (PySem.HandSPX.excO C hp.objs.size)) kk hsz (exo_ok hget)
  have hq : SpI C [V.ref (hp.objs.size + 1)] (upd H (hp.objs.size + 1) (exo (hp.objs.size + 1) C none)) (fun v H2 => v = .non ∧ H2 (hp.objs.size + 1) = some (exo (hp.objs.size + 1) C none) ∧ Q (.ref C) none (L2.del H2 (hp.objs.size + 1))) (fun _ _ _ => False) := by
    refine ⟨hp.objs.size + 1, rfl, upd_same, rfl, upd_same, ?_⟩
    have eH : L2.del (upd H (hp.objs.size + 1) (exo (hp.objs.size + 1) C none)) (hp.objs.size + 1) = H := by
      funext b
      by_cases hb : b = hp.objs.size + 1
      · rw [hb, del_same, hn]
      · rw [del_ne hb, upd_ne hb]
    rw [eH]
    exact h
  have r2 : Vals [V.ref (hp.objs.size + 1)] [Value.ref (hp.objs.size + 1)] := .cons rfl .nil
  have hl : ([Value.ref (hp.objs.size + 1)] ++ []).length = ps.length := by
    have e := F1.len _ _ _ _ hq
    exact e
  have hb2 := hb ⟨(hp.push (PySem.W.kdv_tup [])).push (PySem.HandSPX.excO C hp.objs.size), g, dr, tk, os⟩ [Value.ref (hp.objs.size + 1)] I2.kIn hl
  rw [List.append_nil] at hb2
  refine wpAny_call (PySem.HandSPX.call_own F.excBase_ValueError (fun Y => PySem.HandSPX.refsVE_contains Y bm hbm) (I.kIn _ _ hC) (PySem.W.looks_findIn I.kIn iC) (fun self => PySem.W.bind_fn I.kIn self tI) (Nat.zero_le _)
    (codeAny_mono (F1.run _ X.stack _ _ ⟨[Value.ref (hp.objs.size + 1)], []⟩ [Value.ref (hp.objs.size + 1)] _ _ (fun _ _ _ => False) (hr.make C [] []) (I2.env0.make C [] []) hb2 r2 hq) fun r s' hq' => ?_))
  cases r with
  | error er => exact hx pins σ _ _ er s' I2 hq'
  | ok fl =>
    cases fl with
    | ret u =>
      obtain ⟨v, H2, os2, bare2, un2, hok2, rv, ev, ea, q2⟩ := hq'
      subst ev
      obtain ⟨h2, g2, d2, t2, os'⟩ := s'
      exact ⟨rv, mk_endN (raises_own T.exC T.tyC) I hsz kk un2 hok2 os2 bare2 ea q2⟩
    | next => exact False.elim hq'
    | brk => exact False.elim hq'
    | cont => exact False.elim hq'
end
end Sh
set_option Elab.async false
set_option linter.all false
set_option maxRecDepth 100000
set_option maxHeartbeats 2000000
/-! Sh, part Y: zip of lists and tuples. -/
namespace Sh
open PySem PySem.Spec PyProof.Rows L2
/-- a tuple (true), a list -/
def SqX (q : Bool) (K : PySem.W.Frag) (H : Hp) (a : Addr) (xs : List V) : Prop := if q = true then SqT K H a xs else SqL K H a xs
def AIt (q : Bool) (h : Heap) (it l : Addr) (i : Nat) : Prop := if q = true then h.IsTupleIter it l i else h.IsListIter it l i
def ASq (q : Bool) (h : Heap) (l : Addr) (its : Array Value) : Prop := if q = true then h.IsTuple l its else h.IsList l its
theorem AIt.at {q : Bool} {h h' : Heap} {it l : Addr} {i : Nat} (x : AIt q h it l i) (e : ∀ o, h.get? it = some o → h'.get? it = some o) : AIt q h' it l i := by
  cases q with
  | true => exact Heap.IsTupleIter.at (show h.IsTupleIter it l i from x) e
  | false => exact Heap.IsListIter.at (show h.IsListIter it l i from x) e
theorem AIt.obj {q : Bool} {h : Heap} {it l : Addr} {i : Nat} (x : AIt q h it l i) : ∃ o, h.get? it = some o ∧ ∀ v, o.data ≠ .cell v := by
  cases q with
  | true =>
    obtain ⟨o, e, _, d⟩ := (show h.IsTupleIter it l i from x)
    exact ⟨o, e, fun v z => by rw [d] at z; cases z⟩
  | false =>
    obtain ⟨o, e, _, d⟩ := (show h.IsListIter it l i from x)
    exact ⟨o, e, fun v z => by rw [d] at z; cases z⟩
theorem drawsA {prog : Program} {w : World} {A : Around} (q : Bool) (hh : A.handled = none) (it l : Addr) (hne : l ≠ it) (its : Array Value) :
    Draws prog w A it [it, l] its.size (fun i v => its[i]? = some v) (fun i h => AIt q h it l i ∧ ASq q h l its) := by
  cases q with
  | true => exact Draws.tuple hh it l hne its
  | false => exact Draws.list hh it l hne its
section
variable {X : Cx} {pins : List (Addr × Obj)} {σ : L2.St} {H : Hp} {s : Shared}
theorem Inv.seqX (I : Inv X pins σ H s) {q : Bool} {a : Addr} {xs : List V} (h : SqX q X.K H a xs) : ∃ its : List Value, Vals xs its ∧ ASq q s.heap a its.toArray ∧ a < s.heap.objs.size := by
  cases q with
  | true =>
    obtain ⟨its, r, p, _⟩ := I.tuple (show SqT X.K H a xs from h)
    obtain ⟨o, ho, _⟩ := id p
    exact ⟨its, r, p, Heap.lt_size ho⟩
  | false =>
    obtain ⟨its, r, p, _⟩ := I.list (show SqL X.K H a xs from h)
    exact ⟨its, r, p.isList, p.lt⟩
theorem Inv.seqX_inj (I : Inv X pins σ H s) {q : Bool} {a : Addr} {xs ys : List V} (h : SqX q X.K H a xs) (g : SqX q X.K H a ys) : xs = ys := by
  cases q with
  | true => exact I.tuple_inj (show SqT X.K H a xs from h) g
  | false => exact I.list_inj (show SqL X.K H a xs from h) g
end
/-- pairs, each new, its record known -/
def ItzX (q1 q2 : Bool) (K : PySem.W.Frag) (a b : Addr) : It :=
  ⟨fun i H => ∃ (xs ys : List V) (x y : V), SqX q1 K H a xs ∧ SqX q2 K H b ys ∧ xs[i]? = some x ∧ ys[i]? = some y,
    fun i H v H' => ∃ (T : Addr) (o : Obj) (x y : V), v = .ref T ∧ H T = none ∧ o.dict = none ∧ H' = upd H T (.frz o (.tup [x, y])) ∧ (∀ xs, SqX q1 K H a xs → xs[i]? = some x) ∧ ∀ ys, SqX q2 K H b ys → ys[i]? = some y,
    fun i H => ∃ xs ys : List V, SqX q1 K H a xs ∧ SqX q2 K H b ys ∧ ((xs.length = i ∧ i ≤ ys.length) ∨ (ys.length = i ∧ i ≤ xs.length))⟩
theorem turn_zipX {P : Program} {w : World} {K : PySem.W.Frag} {elts : List Expr} {kk : Nat} {tpos : Pos} {q1 q2 : Bool} {a b z TI TO i1 i2 : Addr} (D : ZipSep2 z TI TO i1 i2 [i1, a] [i2, b]) :
    Turn P w K (.Tuple elts kk tpos) (ItzX q1 q2 K a b) [z, TI, TO, i1, i2] z (fun i h => IsZip h z TI TO .none ∧ IsTupOf2 h TI (.ref i1) (.ref i2) ∧ (∃ x y, IsTupOf2 h TO x y) ∧ AIt q1 h i1 a i ∧ AIt q2 h i2 b i) where
  mem := by simp
  obj := fun i h st c hc => by
    obtain ⟨hz, hTI, ⟨x, y, hTO⟩, h1, h2⟩ := st
    have e' : c = z ∨ c = TI ∨ c = TO ∨ c = i1 ∨ c = i2 := by simpa using hc
    rcases e' with e | e | e | e | e <;> subst e
    · exact ⟨_, hz, fun v z => nomatch z⟩
    · exact ⟨_, hTI, fun v z => nomatch z⟩
    · exact ⟨_, hTO, fun v z => nomatch z⟩
    · exact h1.obj
    · exact h2.obj
  keep := fun i h h' st k => by
    obtain ⟨hz, hTI, ⟨x, y, hTO⟩, h1, h2⟩ := st
    exact ⟨k z (by simp) _ hz, k TI (by simp) _ hTI, ⟨x, y, k TO (by simp) _ hTO⟩, h1.at fun o e => k i1 (by simp) o e, h2.at fun o e => k i2 (by simp) o e⟩
  item := by
    intro X hP hw hK hc i pins s σ H E I hf st hg
    subst hP hw hK
    obtain ⟨hz, hTI, ⟨x0, y0, hTO⟩, h1, h2⟩ := st
    obtain ⟨xs, ys, x, y, hqx, hqy, hx, hy⟩ := hg
    obtain ⟨its, rv, p, la⟩ := Inv.seqX I hqx
    obtain ⟨its2, rv2, p2, lb⟩ := Inv.seqX I hqy
    obtain ⟨u, hu, ru⟩ := rv.get hx
    obtain ⟨u2, hu2, ru2⟩ := rv2.get hy
    have hzl : z < s.heap.objs.size := Heap.lt_size hz
    have na : a ≠ i1 := fun e => by
      obtain ⟨o, eo, _⟩ := h1.obj
      have := hf i1 (by simp)
      cases q1 with
      | true =>
        obtain ⟨oa, ha, hca, _⟩ := (show s.heap.IsTuple a its.toArray from p)
        obtain ⟨o1, ho1, hc1, _⟩ := (show s.heap.IsTupleIter i1 a i from h1)
        rw [e, ho1] at ha
        cases ha
        rw [hca] at hc1
        exact absurd (Value.type.inj hc1) (by decide)
      | false =>
        obtain ⟨oa, ha, hca, _⟩ := (show s.heap.IsList a its.toArray from p)
        obtain ⟨o1, ho1, hc1, _⟩ := (show s.heap.IsListIter i1 a i from h1)
        rw [e, ho1] at ha
        cases ha
        rw [hca] at hc1
        exact absurd (Value.type.inj hc1) (by decide)
    have nb : b ≠ i2 := fun e => by
      cases q2 with
      | true =>
        obtain ⟨oa, ha, hca, _⟩ := (show s.heap.IsTuple b its2.toArray from p2)
        obtain ⟨o1, ho1, hc1, _⟩ := (show s.heap.IsTupleIter i2 b i from h2)
        rw [e, ho1] at ha
        cases ha
        rw [hca] at hc1
        exact absurd (Value.type.inj hc1) (by decide)
      | false =>
        obtain ⟨oa, ha, hca, _⟩ := (show s.heap.IsList b its2.toArray from p2)
        obtain ⟨o1, ho1, hc1, _⟩ := (show s.heap.IsListIter i2 b i from h2)
        rw [e, ho1] at ha
        cases ha
        rw [hca] at hc1
        exact absurd (Value.type.inj hc1) (by decide)
    have hh : X.A.in1.handled = none := I.ok.hd hc
    have hi1 : i < its.toArray.size := by rw [List.size_toArray]; exact (List.getElem?_eq_some_iff.mp hu).1
    have hi2 : i < its2.toArray.size := by rw [List.size_toArray]; exact (List.getElem?_eq_some_iff.mp hu2).1
    refine wpAny_pyNext_zipD2_item D (drawsA q1 hh i1 a na its.toArray) (drawsA q2 hh i2 b nb its2.toArray) hz hTI hTO ⟨h1, p⟩ ⟨h2, p2⟩ hi1 hi2 fun x1 x2 h' tk y1 y2 z' TO' s1 s2 hT hsz hk => ?_
    have ex1 : x1 = u := by
      have : its[i]? = some x1 := by simpa using y1
      rw [hu] at this
      exact (Option.some.inj this).symm
    have ex2 : x2 = u2 := by
      have : its2[i]? = some x2 := by simpa using y2
      rw [hu2] at this
      exact (Option.some.inj this).symm
    subst ex1 ex2
    refine ⟨_, rfl, wpAny_letOwnedTupleGo_zip (s := { s with heap := h', toks := tk }) z' fun h'' z'' sb => ?_⟩
    have hT2 : h''.get? s.heap.objs.size = some { cls := .type "tuple", data := .seq #[x1, x2] } := (sb.2 _ (Nat.ne_of_gt hzl)).trans hT
    have new : ObjOk X.prog X.w (upd H s.heap.objs.size (.frz { cls := .type "tuple", data := .seq #[x1, x2] } (.tup [x, y]))) h'' s.heap.objs.size (.frz { cls := .type "tuple", data := .seq #[x1, x2] } (.tup [x, y])) :=
      ⟨hT2, by show 2 ≤ sizeLine; decide, [x1, x2], .cons ru (.cons ru2 .nil), ⟨_, hT2, rfl, _, rfl⟩⟩
    have I1 : Inv X pins σ (upd H s.heap.objs.size (.frz { cls := .type "tuple", data := .seq #[x1, x2] } (.tup [x, y]))) { s with heap := h'', toks := tk } :=
      I.turnedNew (t' := tk) (ch := [z, TI, TO, i1, i2]) (fun c o hb e => (sb.2 c (fun e' => hb (by simp [e']))).trans (hk c o (fun e' => hb (by simp [e'])) (fun e' => hb (by simp [e'])) (fun e' => hb (by simp [e'])) (fun e' => hb (by simp [e'])) e)) hf (Nat.le_refl _) new
    refine ⟨.ref s.heap.objs.size, _, I1, rfl, ⟨_, { cls := .type "tuple", data := .seq #[x1, x2] }, x, y, rfl, I.hok.fresh (Nat.le_refl _), rfl, rfl, fun l hl => by rw [Inv.seqX_inj I hl hqx]; exact hx, fun l hl => by rw [Inv.seqX_inj I hl hqy]; exact hy⟩, ⟨z'', ?_, ⟨x1, x2, ?_⟩, ?_, ?_⟩, fun c hcm => ?_⟩
    · exact (sb.2 _ D.TIz).trans (hk _ _ D.TIz D.TITO D.TIi1 D.TIi2 hTI)
    · exact (sb.2 _ D.TOz).trans TO'
    · exact s1.1.at fun o e => (sb.2 _ (Ne.symm D.zi1)).trans e
    · exact s2.1.at fun o e => (sb.2 _ (Ne.symm D.zi2)).trans e
    · have hlt : c < s.heap.objs.size := by
        have e' : c = z ∨ c = TI ∨ c = TO ∨ c = i1 ∨ c = i2 := by simpa using hcm
        rcases e' with e | e | e | e | e <;> subst e
        · exact hzl
        · exact Heap.lt_size hTI
        · exact Heap.lt_size hTO
        · obtain ⟨_, e1, _⟩ := h1.obj; exact Heap.lt_size e1
        · obtain ⟨_, e1, _⟩ := h2.obj; exact Heap.lt_size e1
      rw [upd_ne (Nat.ne_of_lt hlt)]
      exact (hf c hcm).1
  done := by
    intro X hP hw hK hc i pins s σ H E I hf st hg
    subst hP hw hK
    obtain ⟨hz, hTI, ⟨x0, y0, hTO⟩, h1, h2⟩ := st
    obtain ⟨xs, ys, hqx, hqy, hend⟩ := hg
    obtain ⟨its, rv, p, la⟩ := Inv.seqX I hqx
    obtain ⟨its2, rv2, p2, lb⟩ := Inv.seqX I hqy
    have na : a ≠ i1 := fun e => by
      cases q1 with
      | true =>
        obtain ⟨oa, ha, hca, _⟩ := (show s.heap.IsTuple a its.toArray from p)
        obtain ⟨o1, ho1, hc1, _⟩ := (show s.heap.IsTupleIter i1 a i from h1)
        rw [e, ho1] at ha
        cases ha
        rw [hca] at hc1
        exact absurd (Value.type.inj hc1) (by decide)
      | false =>
        obtain ⟨oa, ha, hca, _⟩ := (show s.heap.IsList a its.toArray from p)
        obtain ⟨o1, ho1, hc1, _⟩ := (show s.heap.IsListIter i1 a i from h1)
        rw [e, ho1] at ha
        cases ha
        rw [hca] at hc1
        exact absurd (Value.type.inj hc1) (by decide)
    have nb : b ≠ i2 := fun e => by
      cases q2 with
      | true =>
        obtain ⟨oa, ha, hca, _⟩ := (show s.heap.IsTuple b its2.toArray from p2)
        obtain ⟨o1, ho1, hc1, _⟩ := (show s.heap.IsTupleIter i2 b i from h2)
        rw [e, ho1] at ha
        cases ha
        rw [hca] at hc1
        exact absurd (Value.type.inj hc1) (by decide)
      | false =>
        obtain ⟨oa, ha, hca, _⟩ := (show s.heap.IsList b its2.toArray from p2)
        obtain ⟨o1, ho1, hc1, _⟩ := (show s.heap.IsListIter i2 b i from h2)
        rw [e, ho1] at ha
        cases ha
        rw [hca] at hc1
        exact absurd (Value.type.inj hc1) (by decide)
    have hh : X.A.in1.handled = none := I.ok.hd hc
    have l1 := rv.length
    have l2 := rv2.length
    have e1 : i ≤ its.toArray.size := by rw [List.size_toArray]; omega
    have e2 : i ≤ its2.toArray.size := by rw [List.size_toArray]; omega
    have e3 : i = its.toArray.size ∨ i = its2.toArray.size := by rw [List.size_toArray, List.size_toArray]; omega
    exact wpAny_pyNext_zipD2_end D (drawsA q1 hh i1 a na its.toArray) (drawsA q2 hh i2 b nb its2.toArray) hz hTI hTO ⟨h1, p⟩ ⟨h2, p2⟩ e1 e2 e3 fun h' tk hk => ⟨rfl, I.turnedL (t' := tk) (ch := [z, TI, TO, i1, i2]) (fun c o hb e =>
      hk c o (fun e' => hb (by simp [e'])) (fun e' => hb (by simp [e'])) (fun e' => hb (by simp [e'])) (fun e' => hb (by simp [e'])) e) hf⟩
  self := fun A i s Q E st h => wpAny_pyIter_zip st.1 h
theorem beginsA (q : Bool) (l : Addr) (its : Array Value) : ∃ o : Obj, Begins (.ref l) o (fun h => ASq q h l its) ∧ ∀ h i, h.get? i = some o → AIt q h i l 0 := by
  cases q with
  | true => exact ⟨_, begins_tuple l its, fun h i e => ⟨_, e, rfl, rfl⟩⟩
  | false => exact ⟨_, begins_list l its, fun h i e => ⟨_, e, rfl, rfl⟩⟩
section
variable {X : Cx} {W : WX} {T : List (Addr × Str)} {e e2 : Expr} {p pos tpos : Pos} {elts : List Expr} {kk : Nat}
def iZipX (K : PySem.W.Frag) (ta : TA) : TI := fun σ H R => ta σ H fun vs H1 => ∃ (a b : Addr) (q1 q2 : Bool) (xs ys : List V), vs = [.ref a, .ref b] ∧ SqX q1 K H1 a xs ∧ SqX q2 K H1 b ys ∧ R (ItzX q1 q2 K a b) H1
theorem pi_zipX {ta : TA} (hg : Gl X "zip") (hm : X.mg "zip" = none) (ha : PA X [e, e2] ta) (hs : starEach [e, e2] X.env = (false, eval e X.env) :: starEach [e2] X.env) (hpl : (backTo pos (starEach [e2] X.env)).any (·.1) = false) :
    PI X (.Tuple elts kk tpos) (.Call (.Name "zip" p) [e, e2] [] pos) (iZipX X.K ta) := by
  refine ⟨fun pins s σ H R I h => ?_⟩
  refine Call_ (ld_blt I hg hm PyProof.Rows.boot_zip (PyProof.Rows.callWith_type1 (thn (ha.run pos pins s σ H _ I h) fun us s1 ⟨vs, H1, I1, r1, q⟩ => ?_) hs hpl))
  obtain ⟨a, b, q1, q2, xs, ys, ex, hqx, hqy, q⟩ := q
  subst ex
  cases r1 with
  | cons r rr =>
    cases rr with
    | cons r' rr =>
      cases rr
      cases r
      cases r'
      obtain ⟨its, rv, p1, la⟩ := Inv.seqX I1 hqx
      obtain ⟨its2, rv2, p2, lb⟩ := Inv.seqX I1 hqy
      obtain ⟨o1, B1, st1⟩ := beginsA q1 a its.toArray
      obtain ⟨o2, B2, st2⟩ := beginsA q2 b its2.toArray
      refine zip_begins2 B1 B2 p1 p2 fun h' hz hTI hTO g1 g2 hsz hk => wpAny_pyIter_zip hz ?_
      have I2 : Inv X pins σ H1 { s1 with heap := h' } := I1.kept (t' := s1.toks) hk
      refine ⟨s1.heap.objs.size + 4, [s1.heap.objs.size + 4, s1.heap.objs.size + 2, s1.heap.objs.size + 3, s1.heap.objs.size, s1.heap.objs.size + 1], _, _, H1, rfl, I2, turn_zipX (zip_sep2 (fp1 := [a]) (fp2 := [b]) (fun c hc => by rw [List.mem_singleton.mp hc]; exact la) (fun c hc => by rw [List.mem_singleton.mp hc]; exact lb)), ⟨hz, hTI, ⟨_, _, hTO⟩, st1 _ _ g1, st2 _ _ g2⟩, fun c hcm => ?_, q⟩
      have hle : s1.heap.objs.size ≤ c := by
        have e' : c = s1.heap.objs.size + 4 ∨ c = s1.heap.objs.size + 2 ∨ c = s1.heap.objs.size + 3 ∨ c = s1.heap.objs.size ∨ c = s1.heap.objs.size + 1 := by simpa using hcm
        rcases e' with z | z | z | z | z <;> rw [z]
        · exact Nat.le_add_right _ _
        · exact Nat.le_add_right _ _
        · exact Nat.le_add_right _ _
        · exact Nat.le_refl _
        · exact Nat.le_add_right _ _
      exact I1.fpOk hle (I1.hok.fresh hle)
def zipD : List D → List D → List D
  | x :: xs, y :: ys => .tuple [x, y] :: zipD xs ys
  | _, _ => []
theorem zipD_len : ∀ (xs ys : List D), (zipD xs ys).length = min xs.length ys.length
  | [], ys => by simp [zipD]
  | x :: xs, [] => by simp [zipD]
  | x :: xs, y :: ys => by rw [zipD, List.length_cons, zipD_len xs ys, List.length_cons, List.length_cons]; omega
theorem zipD_get : ∀ {xs ys : List D} {i : Nat} {d : D}, (zipD xs ys)[i]? = some d → ∃ x y, xs[i]? = some x ∧ ys[i]? = some y ∧ d = .tuple [x, y]
  | [], ys, i, d, h => by simp [zipD] at h
  | x :: xs, [], i, d, h => by simp [zipD] at h
  | x :: xs, y :: ys, 0, d, h => by
    simp [zipD] at h
    exact ⟨x, y, rfl, rfl, h.symm⟩
  | x :: xs, y :: ys, i + 1, d, h => by
    rw [zipD, List.getElem?_cons_succ] at h
    obtain ⟨a, b, h1, h2, h3⟩ := zipD_get h
    exact ⟨a, b, by simpa using h1, by simpa using h2, h3⟩
/-- a list, a tuple -/
def seqQ : D → Option (Bool × List D)
  | .list xs => some (false, xs)
  | .tuple xs => some (true, xs)
  | _ => none
theorem seqQ_rp {F : Hp} {v : V} {d : D} {q : Bool} {ds : List D} (r : Rp X.K F v d) (h : seqQ d = some (q, ds)) : ∃ a xs, v = .ref a ∧ RpA X.K F xs ds ∧ ∀ {σ : L2.St} {ρ : Env} {w : Wl}, Cs X.K T σ ρ w → Sub F w.F → SqX q X.K w.H a xs := by
  unfold seqQ at h
  split at h
  · cases h
    cases r with
    | @lst a xs _ ha ra => exact ⟨a, xs, rfl, ra, fun c s => SqL.of (c.lstH (s _ _ ha))⟩
  · cases h
    cases r with
    | @tup a xs _ ha ra =>
      obtain ⟨o, ho, hd⟩ := ha
      exact ⟨a, xs, rfl, ra, fun c s => c.tupS ⟨o, s _ _ ho, hd⟩⟩
  · cases h
def zipG : List D → Option (List D)
  | [d, e] => (seqQ d).bind fun p => (seqQ e).map fun q => zipD p.2 q.2
  | _ => none
theorem ei_zip {f : M (List D)} (hg : Gl X "zip") (hm : X.mg "zip" = none) (ha : EvA X W T [e, e2] f) (hs : starEach [e, e2] X.env = (false, eval e X.env) :: starEach [e2] X.env) (hpl : (backTo pos (starEach [e2] X.env)).any (·.1) = false) :
    EvI X W T (.Tuple elts kk tpos) (.Call (.Name "zip" p) [e, e2] [] pos) (f >>= fun ds => lift (zipG ds)) := by
  refine ⟨PI.imp (pi_zipX hg hm ha.pa hs hpl) fun σ H R ⟨w, ρ, eH, c, co⟩ => ?_⟩
  subst eH
  refine ⟨w, ρ, rfl, c, co.bind.mono fun ds ρ1 w1 l1 c1 k vs r => ?_⟩
  obtain ⟨zs, ez, k⟩ := k.lift
  unfold zipG at ez
  split at ez
  · obtain ⟨⟨q1, xs⟩, e1, ez⟩ := Option.bind_eq_some_iff.mp ez
    obtain ⟨⟨q2, ys⟩, e2, ez⟩ := Option.map_eq_some_iff.mp ez
    subst ez
    cases r with
    | cons r1 r2 =>
      cases r2 with
      | cons r2 r3 =>
        cases r3
        obtain ⟨a, vs1, rfl, ra, sa⟩ := seqQ_rp (T := T) r1 e1
        obtain ⟨b, vs2, rfl, rb, sb⟩ := seqQ_rp (T := T) r2 e2
        refine ⟨a, b, q1, q2, vs1, vs2, rfl, sa c1 (fun _ _ e => e), sb c1 (fun _ _ e => e), k w1 l1 c1 _ ?_⟩
        intro i w σ' ρ' l c
        have h1 := sa c l.le
        have h2 := sb c l.le
        have n1 := ra.length
        have n2 := rb.length
        have n3 : (zipD (q1, xs).2 (q2, ys).2).length = min xs.length ys.length := zipD_len xs ys
        refine ⟨fun e => ⟨vs1, vs2, h1, h2, by omega⟩, fun d e => ?_⟩
        obtain ⟨x, y, ex, ey, ed⟩ := zipD_get e
        subst ed
        obtain ⟨u, hu, ru⟩ := ra.get ex
        obtain ⟨u2, hu2, ru2⟩ := rb.get ey
        refine ⟨⟨vs1, vs2, u, u2, h1, h2, hu, hu2⟩, fun v H' yy => ?_⟩
        obtain ⟨t, o, x', y', rfl, hn, hd, eH, f1, f2⟩ := yy
        have a1 := f1 _ h1
        have a2 := f2 _ h2
        rw [hu] at a1
        rw [hu2] at a2
        obtain rfl := Option.some.inj a1
        obtain rfl := Option.some.inj a2
        obtain ⟨c', l'⟩ := c.al (p := t) (u := .frz o (.tup [u, u2])) hn
        refine ⟨w.al t (.frz o (.tup [u, u2])), eH.symm, l', c', .tup ⟨o, upd_same, hd⟩ (.cons ?_ (.cons ?_ .nil))⟩
        · exact Rp.mono' l'.le (Rp.mono' l.le ru)
        · exact Rp.mono' l'.le (Rp.mono' l.le ru2)
  · cases ez
end
end Sh
set_option Elab.async false
set_option linter.all false
set_option maxRecDepth 100000
set_option maxHeartbeats 4000000
/-! Sh, part Z: list(zip(..)). -/
namespace Sh
open PySem PySem.Spec PyProof.Rows L2
theorem zip_no_len : typeLookup (.type "zip") "__len__" = pure none := by rw [typeLookup_type, builtinLookup_eq_fast]; kernel_rfl
theorem zip_no_hint : typeLookup (.type "zip") "__length_hint__" = pure none := by rw [typeLookup_type, builtinLookup_eq_fast]; kernel_rfl
section
variable {prog : Program} {w : World} {A : Around} {E : Value → Shared → Prop} {s : Shared} {z TI TO i1 i2 Tl : Addr} {fp1 fp2 : List Addr} {n1 n2 i : Nat} {P1 P2 : Nat → Value → Prop} {St1 St2 : Nat → Heap → Prop} {fl : Bool} {oT : Obj}
/-- the next pair while the last one is still held -/
theorem zipH_item {Q : Value → Shared → Prop} (S : ZipSep2 z TI TO i1 i2 fp1 fp2) (D1 : Draws prog w A i1 fp1 n1 P1 St1) (D2 : Draws prog w A i2 fp2 n2 P2 St2) (hz : IsZipHeld s.heap z TI TO Tl fl) (hT : s.heap.get? Tl = some oT) (hTI : IsTupOf2 s.heap TI (.ref i1) (.ref i2))
    (st1 : St1 i s.heap) (st2 : St2 i s.heap) (lt1 : i < n1) (lt2 : i < n2)
    (hQ : ∀ x1 x2 h' tk, P1 i x1 → P2 i x2 → IsZipHeld h' z TI TO Tl true → St1 (i + 1) h' → St2 (i + 1) h' → IsTupOf2 h' s.heap.objs.size x1 x2 → h'.objs.size = s.heap.objs.size + 1 → (∀ c o, c ≠ z → c ≠ i1 → c ≠ i2 → s.heap.get? c = some o → h'.get? c = some o) →
      Q (.ref s.heap.objs.size) { s with heap := h', toks := tk }) : wpAny (model prog w) A (Builtin.«zip.__next__» ⟨[.ref z], []⟩) (fun fin s' => ∃ v, fin = .done (.ret v) ∧ Q v s') E s := by
  obtain ⟨hp, g, d, tk0, os⟩ := s
  show wpAny _ _ (field (.ref z) 2 >>= _) _ _ _
  refine wpAny_bind (wpAny_field hz rfl (x := .bool false) rfl ?_)
  show wpAny _ _ (field (.ref z) 3 >>= _) _ _ _
  refine wpAny_bind (wpAny_field hz rfl (x := .ref TI) rfl ?_)
  refine wpAny_bind (wpAny_seqItems hTI rfl ?_)
  show wpAny _ _ (Builtin.SmallTypes.ownedTupleIsFree (.ref z) >>= _) _ _ _
  refine wpAny_bind (wpAny_tupleHeld_zip hz hT fun h₁ hz₁ hs₁ => ?_)
  replace hs₁ : Heap.SameBut z hp h₁ := hs₁
  simp only [Bool.false_eq_true, if_false]
  refine wpAny_bind ?_
  rw [← Array.forIn_toList]
  simp only [List.forIn_cons, List.forIn_nil]
  refine wpAny_bind (wpAny_bind (wpAny_holding ?_))
  show wpAny _ _ (Builtin.SmallTypes.nextOf (.ref i1) >>= _) _ _ ⟨h₁, g, d, tk0, os⟩
  refine wpAny_bind (D1.item i _ _ _ lt1 (D1.over st1 hs₁ S.zf1) fun x1 h₂ tk1 hx1 sn1 hs₂ => wpAny_pure ?_)
  replace hs₂ : Heap.SameBut i1 h₁ h₂ := hs₂
  refine wpAny_pure ?_
  refine wpAny_bind (wpAny_bind (wpAny_holding ?_))
  show wpAny _ _ (Builtin.SmallTypes.nextOf (.ref i2) >>= _) _ _ ⟨h₂, g, d, tk1, os⟩
  refine wpAny_bind (D2.item i _ _ _ lt2 (D2.over (D2.over st2 hs₁ S.zf2) hs₂ S.sep1_2) fun x2 h₃ tk2 hx2 sn2 hs₃ => wpAny_pure ?_)
  replace hs₃ : Heap.SameBut i2 h₂ h₃ := hs₃
  refine wpAny_pure (wpAny_pure ?_)
  show wpAny _ _ (newTuple [x1, x2] >>= _) _ _ ⟨h₃, g, d, tk2, os⟩
  refine wpAny_bind (wpAny_newTuple ?_)
  have hsz : h₃.objs.size = hp.objs.size := by rw [hs₃.1, hs₂.1, hs₁.1]
  have hz₃ : IsZipHeld h₃ z TI TO Tl true := hs₃.extBut _ _ S.zi2 (hs₂.extBut _ _ S.zi1 hz₁)
  have hk : ∀ c o, c ≠ z → c ≠ i1 → c ≠ i2 → hp.get? c = some o → h₃.get? c = some o := fun c o c1 c2 c3 e => hs₃.extBut _ _ c3 (hs₂.extBut _ _ c2 (hs₁.extBut _ _ c1 e))
  refine wpAny_pure ⟨_, rfl, ?_⟩
  show Q (.ref h₃.objs.size) _
  have hpr : IsTupOf2 (h₃.push { cls := .type "tuple", data := .seq #[x1, x2] }) h₃.objs.size x1 x2 := Heap.get?_push_size _ rfl
  have hz4 : (h₃.push { cls := .type "tuple", data := .seq #[x1, x2] }).objs.size = h₃.objs.size + 1 := Heap.size_push ..
  rw [hsz] at hpr hz4 ⊢
  exact hQ x1 x2 _ tk2 hx1 hx2 (Heap.get?_push_of_some _ hz₃) (D1.frame _ _ _ (D1.over sn1 hs₃ S.sep2_1) fun b _ o e => Heap.get?_push_of_some _ e) (D2.frame _ _ _ sn2 fun b _ o e => Heap.get?_push_of_some _ e) hpr hz4 fun c o c1 c2 c3 e => Heap.get?_push_of_some _ (hk c o c1 c2 c3 e)
theorem zipH_end {Q : Fin → Shared → Prop} (S : ZipSep2 z TI TO i1 i2 fp1 fp2) (D1 : Draws prog w A i1 fp1 n1 P1 St1) (D2 : Draws prog w A i2 fp2 n2 P2 St2) (hz : IsZipHeld s.heap z TI TO Tl fl) (hT : s.heap.get? Tl = some oT) (hTI : IsTupOf2 s.heap TI (.ref i1) (.ref i2))
    (st1 : St1 i s.heap) (st2 : St2 i s.heap) (le1 : i ≤ n1) (le2 : i ≤ n2) (hend : i = n1 ∨ i = n2)
    (hE : ∀ h' tk e, (∀ c o, c ≠ z → c ≠ i1 → c ≠ i2 → s.heap.get? c = some o → h'.get? c = some o) → (∃ o, h'.get? e = some o ∧ o.cls = .type "StopIteration") → E (.ref e) { s with heap := h', toks := tk }) :
    wpAny (model prog w) A (Builtin.«zip.__next__» ⟨[.ref z], []⟩) Q E s := by
  obtain ⟨hp, g, d, tk0, os⟩ := s
  show wpAny _ _ (field (.ref z) 2 >>= _) _ _ _
  refine wpAny_bind (wpAny_field hz rfl (x := .bool false) rfl ?_)
  show wpAny _ _ (field (.ref z) 3 >>= _) _ _ _
  refine wpAny_bind (wpAny_field hz rfl (x := .ref TI) rfl ?_)
  refine wpAny_bind (wpAny_seqItems hTI rfl ?_)
  show wpAny _ _ (Builtin.SmallTypes.ownedTupleIsFree (.ref z) >>= _) _ _ _
  refine wpAny_bind (wpAny_tupleHeld_zip hz hT fun h₁ hz₁ hs₁ => ?_)
  replace hs₁ : Heap.SameBut z hp h₁ := hs₁
  simp only [Bool.false_eq_true, if_false]
  refine wpAny_bind ?_
  rw [← Array.forIn_toList]
  simp only [List.forIn_cons, List.forIn_nil]
  refine wpAny_bind (wpAny_bind (wpAny_holding ?_))
  show wpAny _ _ (Builtin.SmallTypes.nextOf (.ref i1) >>= _) _ _ ⟨h₁, g, d, tk0, os⟩
  by_cases lt1 : i < n1
  · have e2 : i = n2 := by omega
    refine wpAny_bind (D1.item i _ _ _ lt1 (D1.over st1 hs₁ S.zf1) fun x1 h₂ tk1 hx1 sn1 hs₂ => wpAny_pure ?_)
    replace hs₂ : Heap.SameBut i1 h₁ h₂ := hs₂
    refine wpAny_pure ?_
    refine wpAny_bind (wpAny_bind (wpAny_holding ?_))
    show wpAny _ _ (Builtin.SmallTypes.nextOf (.ref i2) >>= _) _ _ ⟨h₂, g, d, tk1, os⟩
    refine wpAny_bind (D2.done ⟨h₂, g, d, tk1, os⟩ _ _ (by rw [← e2]; exact D2.over (D2.over st2 hs₁ S.zf2) hs₂ S.sep1_2) fun h₃ e hs₃ he => ?_)
    replace hs₃ : Heap.ExtBut i2 h₂ h₃ := hs₃
    exact hE h₃ tk1 e (fun c o c1 c2 c3 x => hs₃ _ _ c3 (hs₂.extBut _ _ c2 (hs₁.extBut _ _ c1 x))) he
  · have e1 : i = n1 := by omega
    refine wpAny_bind (D1.done ⟨h₁, g, d, tk0, os⟩ _ _ (by rw [← e1]; exact D1.over st1 hs₁ S.zf1) fun h₂ e hs₂ he => ?_)
    replace hs₂ : Heap.ExtBut i1 h₁ h₂ := hs₂
    exact hE h₂ tk0 e (fun c o c1 c2 c3 x => hs₂ _ _ c2 (hs₁.extBut _ _ c1 x)) he
/-- the zip as it stands behind i pairs -/
def ZAt (i : Nat) (h : Heap) (z TI TO i1 i2 : Addr) : Prop := (i = 0 ∧ IsZip h z TI TO .none ∧ ∃ x y, IsTupOf2 h TO x y) ∨ ∃ Tl fl oT, IsZipHeld h z TI TO Tl fl ∧ h.get? Tl = some oT ∧ Tl ≠ z ∧ Tl ≠ i1 ∧ Tl ≠ i2
/-- next: a pair -/
theorem zipA_item {Q : Option Value → Shared → Prop} (S : ZipSep2 z TI TO i1 i2 fp1 fp2) (D1 : Draws prog w A.in1 i1 fp1 n1 P1 St1) (D2 : Draws prog w A.in1 i2 fp2 n2 P2 St2) (hz : ZAt i s.heap z TI TO i1 i2) (hTI : IsTupOf2 s.heap TI (.ref i1) (.ref i2)) (st1 : St1 i s.heap) (st2 : St2 i s.heap) (lt1 : i < n1) (lt2 : i < n2)
    (hQ : ∀ x1 x2 h' tk, P1 i x1 → P2 i x2 → ZAt (i + 1) h' z TI TO i1 i2 → St1 (i + 1) h' → St2 (i + 1) h' → IsTupOf2 h' s.heap.objs.size x1 x2 → h'.objs.size = s.heap.objs.size + 1 → (∀ c o, c ≠ z → c ≠ TO → c ≠ i1 → c ≠ i2 → s.heap.get? c = some o → h'.get? c = some o) →
      Q (some (.ref s.heap.objs.size)) { s with heap := h', toks := tk }) : wpAny (model prog w) A (pyNext (.ref z)) Q E s := by
  have l1 : s.heap.objs.size ≠ i1 := by obtain ⟨_, e⟩ := D1.live _ _ st1; exact Nat.ne_of_gt (Heap.lt_size e)
  have l2 : s.heap.objs.size ≠ i2 := by obtain ⟨_, e⟩ := D2.live _ _ st2; exact Nat.ne_of_gt (Heap.lt_size e)
  rcases hz with ⟨rfl, hz, x, y, hTO⟩ | ⟨Tl, fl, oT, hz, hT, n1, n2, n3⟩
  · have lz : s.heap.objs.size ≠ z := Nat.ne_of_gt (Heap.lt_size hz)
    refine wpAny_pyNext_zipD2_item S D1 D2 hz hTI hTO st1 st2 lt1 lt2 fun x1 x2 h' tk y1 y2 b1 b2 d1 d2 b5 b6 b7 => hQ x1 x2 h' tk y1 y2 (.inr ⟨s.heap.objs.size, false, _, b1, b5, lz, l1, l2⟩) d1 d2 b5 b6 b7
  · have hTy : s.TypeIs (.ref z) "zip" := ⟨_, hz, rfl⟩
    unfold pyNext
    exact wpAny_bind (wpAny_attempt (wpAny_callSpecial?_slot (name := Str.ofString "__next__") hTy PySem.F.slot_zip_next
      (wpAny_call_entry PySem.F.slot_zip_next hTy PySem.F.entry_zip_next
        (zipH_item S D1 D2 hz hT hTI st1 st2 lt1 lt2 fun x1 x2 h' tk y1 y2 b1 d1 d2 b5 b6 b7 => wpAny_pure (hQ x1 x2 h' tk y1 y2 (.inr ⟨Tl, true, oT, b1, b7 Tl oT n1 n2 n3 hT, n1, n2, n3⟩) d1 d2 b5 b6 fun c o c1 _ c3 c4 e => b7 c o c1 c3 c4 e)) (PySem.F.args_zip_next_1 _))))
theorem zipA_end {Q : Option Value → Shared → Prop} (S : ZipSep2 z TI TO i1 i2 fp1 fp2) (D1 : Draws prog w A.in1 i1 fp1 n1 P1 St1) (D2 : Draws prog w A.in1 i2 fp2 n2 P2 St2) (hz : ZAt i s.heap z TI TO i1 i2) (hTI : IsTupOf2 s.heap TI (.ref i1) (.ref i2)) (st1 : St1 i s.heap) (st2 : St2 i s.heap) (le1 : i ≤ n1) (le2 : i ≤ n2) (hend : i = n1 ∨ i = n2)
    (hQ : ∀ h' tk, (∀ c o, c ≠ z → c ≠ TO → c ≠ i1 → c ≠ i2 → s.heap.get? c = some o → h'.get? c = some o) → Q none { s with heap := h', toks := tk }) : wpAny (model prog w) A (pyNext (.ref z)) Q E s := by
  rcases hz with ⟨rfl, hz, x, y, hTO⟩ | ⟨Tl, fl, oT, hz, hT, n1, n2, n3⟩
  · exact wpAny_pyNext_zipD2_end S D1 D2 hz hTI hTO st1 st2 le1 le2 hend hQ
  · have hTy : s.TypeIs (.ref z) "zip" := ⟨_, hz, rfl⟩
    unfold pyNext
    refine wpAny_bind (wpAny_attempt (wpAny_callSpecial?_slot (name := Str.ofString "__next__") hTy PySem.F.slot_zip_next
      (wpAny_call_entry PySem.F.slot_zip_next hTy PySem.F.entry_zip_next (zipH_end S D1 D2 hz hT hTI st1 st2 le1 le2 hend fun h' tk e hk he => ?_) (PySem.F.args_zip_next_1 _))))
    obtain ⟨o, ho, hc⟩ := he
    refine wpAny_bind (wpAny_isInstance (T := "StopIteration") (b := true) ⟨o, ho, hc⟩ isSubtype_stop ?_)
    exact wpAny_pure (hQ _ _ fun c o c1 _ c3 c4 e => hk c o c1 c3 c4 e)
/-- the pairs that were taken -/
structure AccZ (base : Nat) (xs ys : List Value) (h : Heap) (acc : Array Value) (i : Nat) : Prop where
  size : acc.size = i
  all : ∃ ts : List Addr, acc = (ts.map Value.ref).toArray ∧ ts.Nodup ∧ ∀ (j : Nat) (t : Addr), ts[j]? = some t → base ≤ t ∧ ∃ x y, xs[j]? = some x ∧ ys[j]? = some y ∧ IsTupOf2 h t x y
theorem AccZ.mono {base : Nat} {xs ys : List Value} {h h' : Heap} {acc : Array Value} {i : Nat} (a : AccZ base xs ys h acc i) (k : ∀ t o, base ≤ t → h.get? t = some o → h'.get? t = some o) : AccZ base xs ys h' acc i := by
  obtain ⟨e, ts, h1, h2, h3⟩ := a
  refine ⟨e, ts, h1, h2, fun j t ej => ?_⟩
  obtain ⟨q1, x, y, q2, q3, q4⟩ := h3 j t ej
  exact ⟨q1, x, y, q2, q3, k t _ q1 q4⟩
theorem AccZ.push {base : Nat} {xs ys : List Value} {h0 h : Heap} {acc : Array Value} {i : Nat} {x y : Value} (a : AccZ base xs ys h0 acc i) (k : ∀ t o, base ≤ t → h0.get? t = some o → h.get? t = some o) (ht : base ≤ h0.objs.size) (hx : xs[i]? = some x) (hy : ys[i]? = some y) (p : IsTupOf2 h h0.objs.size x y) :
    AccZ base xs ys h (acc.push (Value.ref h0.objs.size)) (i + 1) := by
  have b := a.mono k
  obtain ⟨e, ts, h1, h2, h3⟩ := a
  obtain ⟨_, ts', h1', _, h3'⟩ := b
  have el : ts.length = i := by rw [← e, h1]; simp
  refine ⟨by rw [Array.size_push, e], ts ++ [h0.objs.size], by rw [h1]; simp, ?_, fun j t ej => ?_⟩
  · rw [List.nodup_append]
    refine ⟨h2, by simp, fun u hu v hv => ?_⟩
    rw [List.mem_singleton.mp hv]
    obtain ⟨j, hj⟩ := List.mem_iff_getElem?.mp hu
    obtain ⟨_, _, _, _, _, q⟩ := h3 j u hj
    exact Nat.ne_of_lt (Heap.lt_size q)
  · by_cases hj : j < ts.length
    · rw [List.getElem?_append_left hj] at ej
      obtain ⟨q1, x, y, q2, q3, q4⟩ := h3 j t ej
      exact ⟨q1, x, y, q2, q3, k t _ q1 q4⟩
    · rw [List.getElem?_append_right (Nat.not_lt.mp hj)] at ej
      have e0 : j - ts.length = 0 := by
        cases q : j - ts.length with
        | zero => rfl
        | succ m => rw [q] at ej; simp at ej
      rw [e0] at ej
      obtain rfl := Option.some.inj ej
      have ej : j = i := by omega
      subst ej
      exact ⟨ht, x, y, hx, hy, p⟩
end
section
variable {prog : Program} {w : World} {A : Around} {R : Result → Shared → Prop} {z TI TO i1 i2 S : Addr} {q1 q2 : Bool} {a b : Addr} {xs ys : List Value}
theorem zip_extend (hh : A.handled = none) (D : ZipSep2 z TI TO i1 i2 [i1, a] [i2, b]) (na : a ≠ i1) (nb : b ≠ i2) (base : Nat) (hb1 : z < base ∧ TI < base ∧ TO < base ∧ i1 < base ∧ i2 < base ∧ a < base ∧ b < base ∧ S < base) (hS1 : S ≠ z ∧ S ≠ TI ∧ S ≠ TO ∧ S ≠ i1 ∧ S ≠ i2 ∧ S ≠ a ∧ S ≠ b)
    (hab : a ≠ z ∧ a ≠ TO ∧ a ≠ i2 ∧ b ≠ z ∧ b ≠ TO ∧ b ≠ i1) (hlen : min xs.length ys.length ≤ sizeLine) (res : Value) :
    ∀ (k i : Nat) (s : Shared) (acc : Array Value) (c : Nat), min xs.length ys.length - i = k → i ≤ min xs.length ys.length → ZAt i s.heap z TI TO i1 i2 → IsTupOf2 s.heap TI (.ref i1) (.ref i2) → AIt q1 s.heap i1 a i → AIt q2 s.heap i2 b i → ASq q1 s.heap a xs.toArray → ASq q2 s.heap b ys.toArray →
      s.heap.get? S = some { cls := .type "list", dict := none, data := .seq acc c, slots := #[] } → base ≤ s.heap.objs.size → AccZ base xs ys s.heap acc i →
      (∀ h' tk acc' c', (∀ d o, d ≠ S → d ≠ z → d ≠ TO → d ≠ i1 → d ≠ i2 → s.heap.get? d = some o → h'.get? d = some o) → h'.get? S = some { cls := .type "list", dict := none, data := .seq acc' c', slots := #[] } → AccZ base xs ys h' acc' (min xs.length ys.length) → R (.ok (.ret res)) { s with heap := h', toks := tk }) →
      codeAny (model prog w) A (.builtin "list.extend.loop" ⟨[.ref S, .ref z, res], []⟩) R s := by
  obtain ⟨b1, b2, b3, b4, b5, b6, b7, b8⟩ := hb1
  obtain ⟨s1, s2, s3, s4, s5, s6, s7⟩ := hS1
  obtain ⟨t1, t2, t3, t4, t5, t6⟩ := hab
  have hh1 : A.in1.handled = none := hh
  have hh2 : A.in1.in1.handled = none := hh
  have D1 := drawsA (prog := prog) (w := w) (A := A.in1.in1) q1 hh2 i1 a na xs.toArray
  have D2 := drawsA (prog := prog) (w := w) (A := A.in1.in1) q2 hh2 i2 b nb ys.toArray
  have atq : ∀ {q : Bool} {h h' : Heap} {l : Addr} {its : Array Value}, ASq q h l its → (∀ o, h.get? l = some o → h'.get? l = some o) → ASq q h' l its := by
    intro q h h' l its x e
    cases q with
    | true => exact Heap.IsTuple.at (show h.IsTuple l its from x) e
    | false => exact Heap.IsList.at (show h.IsList l its from x) e
  intro k
  induction k with
  | zero =>
    intro i s acc c hk hi hz hTI h1 h2 p1 p2 hS hbs hacc hR
    have hin : i = min xs.length ys.length := by omega
    refine codeAny_builtin PySem.F.entry_extend_loop ?_
    rw [Around.under_plainId PySem.F.plain_extend_loop _]
    show wpAny _ A.in1 (pyNext (.ref z) >>= _) _ _ s
    refine wpAny_bind (zipA_end D D1 D2 hz hTI ⟨h1, p1⟩ ⟨h2, p2⟩ (by rw [List.size_toArray]; omega) (by rw [List.size_toArray]; omega) (by rw [List.size_toArray, List.size_toArray]; omega) fun h' tk hk => ?_)
    refine wpAny_pure (hR h' tk acc c (fun d o _ c1 c2 c3 c4 e => hk d o c1 c2 c3 c4 e) (hk _ _ s1 s3 s4 s5 hS) ?_)
    rw [← hin]
    exact hacc.mono fun t o ht e => hk t o (Nat.ne_of_gt (Nat.lt_of_lt_of_le b1 ht)) (Nat.ne_of_gt (Nat.lt_of_lt_of_le b3 ht)) (Nat.ne_of_gt (Nat.lt_of_lt_of_le b4 ht)) (Nat.ne_of_gt (Nat.lt_of_lt_of_le b5 ht)) e
  | succ k ih =>
    intro i s acc c hk hi hz hTI h1 h2 p1 p2 hS hbs hacc hR
    have hlt : i < min xs.length ys.length := by omega
    refine codeAny_builtin PySem.F.entry_extend_loop ?_
    rw [Around.under_plainId PySem.F.plain_extend_loop _]
    show wpAny _ A.in1 (pyNext (.ref z) >>= _) _ _ s
    refine wpAny_bind (zipA_item D D1 D2 hz hTI ⟨h1, p1⟩ ⟨h2, p2⟩ (by rw [List.size_toArray]; omega) (by rw [List.size_toArray]; omega) fun x1 x2 h' tk y1 y2 z' st1 st2 hT hsz hk => ?_)
    have hS' := hk _ _ s1 s3 s4 s5 hS
    have hx : xs[i]? = some x1 := by simpa using y1
    have hy : ys[i]? = some x2 := by simpa using y2
    have new : ∀ t o, base ≤ t → s.heap.get? t = some o → h'.get? t = some o := fun t o ht e => hk t o (Nat.ne_of_gt (Nat.lt_of_lt_of_le b1 ht)) (Nat.ne_of_gt (Nat.lt_of_lt_of_le b3 ht)) (Nat.ne_of_gt (Nat.lt_of_lt_of_le b4 ht)) (Nat.ne_of_gt (Nat.lt_of_lt_of_le b5 ht)) e
    have acc1 : AccZ base xs ys h' (acc.push (Value.ref s.heap.objs.size)) (i + 1) := hacc.push new hbs hx hy hT
    show wpAny _ A.in1 (updateSeq S (·.push (Value.ref s.heap.objs.size)) >>= _) _ _ _
    refine wpAny_bind ?_
    have oth : ∀ d o, d ≠ S → h'.get? d = some o → (h'.update S (Obj.mapSeq (·.push (Value.ref s.heap.objs.size)))).get? d = some o := fun d o hd e => (Heap.get?_update_other _ _ (Ne.symm hd)).trans e
    refine wpAny_updateSeq hS' rfl (wpAny_pure ⟨plainId_quiet PySem.F.plain_extend_loop _, ih (i + 1) _ (acc.push (Value.ref s.heap.objs.size)) _ (by omega) hlt ?_ (oth _ _ (Ne.symm s2) (hk _ _ D.TIz D.TITO D.TIi1 D.TIi2 hTI)) (st1.1.at fun o e => oth _ o (Ne.symm s4) e) (st2.1.at fun o e => oth _ o (Ne.symm s5) e)
      (atq (atq p1 fun o e => hk _ o t1 t2 na t3 e) fun o e => oth _ o (Ne.symm s6) e) (atq (atq p2 fun o e => hk _ o t4 t5 t6 nb e) fun o e => oth _ o (Ne.symm s7) e) (Heap.get?_update_self _ hS' rfl) ?_ (acc1.mono fun t o ht e => oth t o (Nat.ne_of_gt (Nat.lt_of_lt_of_le b8 ht)) e) fun h'' tk'' acc' c' hk'' hS'' hacc' => ?_⟩)
      (by rw [hacc.1]; omega) (by show (acc.push _).size ≤ sizeLine + 1; rw [Array.size_push, hacc.1]; omega)
    · rcases z' with ⟨e0, _⟩ | ⟨Tl, fl, oT, g1, g2, g3, g4, g5⟩
      · cases e0
      · refine .inr ⟨Tl, fl, ?_⟩
        by_cases hTS : Tl = S
        · refine ⟨Obj.mapSeq (·.push (Value.ref s.heap.objs.size)) oT, oth _ _ (Ne.symm s1) g1, ?_, g3, g4, g5⟩
          rw [hTS] at g2 ⊢
          rw [g2] at hS'
          cases hS'
          exact Heap.get?_update_self _ g2 rfl
        · exact ⟨oT, oth _ _ (Ne.symm s1) g1, oth _ _ hTS g2, g3, g4, g5⟩
    · show base ≤ (h'.update S _).objs.size
      rw [Heap.size_update, hsz]
      exact Nat.le_succ_of_le hbs
    · exact hR h'' tk'' acc' c' (fun d o c0 c1 c2 c3 c4 e => hk'' d o c0 c1 c2 c3 c4 (oth d o c0 (hk d o c1 c2 c3 c4 e))) hS'' hacc'
theorem zip_init (hh : A.handled = none) (D : ZipSep2 z TI TO i1 i2 [i1, a] [i2, b]) (na : a ≠ i1) (nb : b ≠ i2) {s : Shared} (hb1 : z < s.heap.objs.size ∧ TI < s.heap.objs.size ∧ TO < s.heap.objs.size ∧ i1 < s.heap.objs.size ∧ i2 < s.heap.objs.size ∧ a < s.heap.objs.size ∧ b < s.heap.objs.size ∧ S < s.heap.objs.size)
    (hS1 : S ≠ z ∧ S ≠ TI ∧ S ≠ TO ∧ S ≠ i1 ∧ S ≠ i2 ∧ S ≠ a ∧ S ≠ b) (hab : a ≠ z ∧ a ≠ TO ∧ a ≠ i2 ∧ b ≠ z ∧ b ≠ TO ∧ b ≠ i1) (hlen : min xs.length ys.length ≤ sizeLine)
    (hz : IsZip s.heap z TI TO .none) (hTO : ∃ x y, IsTupOf2 s.heap TO x y) (hTI : IsTupOf2 s.heap TI (.ref i1) (.ref i2)) (h1 : AIt q1 s.heap i1 a 0) (h2 : AIt q2 s.heap i2 b 0) (p1 : ASq q1 s.heap a xs.toArray) (p2 : ASq q2 s.heap b ys.toArray)
    (hS : s.heap.get? S = some { cls := .type "list", data := .seq #[] })
    (hR : ∀ h' tk acc' c', (∀ d o, d ≠ S → d ≠ z → d ≠ TO → d ≠ i1 → d ≠ i2 → s.heap.get? d = some o → h'.get? d = some o) → h'.get? S = some { cls := .type "list", dict := none, data := .seq acc' c', slots := #[] } → AccZ s.heap.objs.size xs ys h' acc' (min xs.length ys.length) → R (.ok (.ret .none)) { s with heap := h', toks := tk }) :
    wpAny (model prog w) A.in1 (Builtin.«list.__init__» ⟨[.ref S, .ref z], []⟩)
      (fun fin s' => match fin with | .done f => R (.ok f) s' | .again c' => c'.quiet = true ∧ codeAny (model prog w) A c' R s') (fun e s' => R (.error e) s') s := by
  obtain ⟨s1, s2, s3, s4, s5, s6, s7⟩ := id hS1
  have atq : ∀ {q : Bool} {h h' : Heap} {l : Addr} {its : Array Value}, ASq q h l its → (∀ o, h.get? l = some o → h'.get? l = some o) → ASq q h' l its := by
    intro q h h' l its x e
    cases q with
    | true => exact Heap.IsTuple.at (show h.IsTuple l its from x) e
    | false => exact Heap.IsList.at (show h.IsList l its from x) e
  show wpAny _ A.in1 (do let old ← Builtin.List.listItems (.ref S); Builtin.List.listUpdate (.ref S) (fun _ => #[]); letGo old.toList.reverse; Builtin.List.listExtendWith (.ref S) (.ref z) .none) _ _ s
  refine wpAny_bind ?_
  unfold Builtin.List.listItems
  refine wpAny_bind (wpAny_seqItems hS rfl (wpAny_pure ?_))
  show wpAny _ A.in1 (updateSeq S (fun _ => #[]) >>= fun _ => letGo (#[] : Array Value).toList.reverse >>= fun _ => Builtin.List.listExtendWith (.ref S) (.ref z) .none) _ _ s
  refine wpAny_bind (wpAny_updateSeq hS rfl ?_)
  have hS₂ := Heap.get?_update_self (Obj.mapSeq (fun _ => (#[] : Array Value))) hS rfl
  refine wpAny_bind (wpAny_letGo ?_)
  unfold Builtin.List.listExtendWith
  have oth0 : ∀ d o, d ≠ S → s.heap.get? d = some o → (s.heap.update S (Obj.mapSeq (fun _ => (#[] : Array Value)))).get? d = some o := fun d o hd e => (Heap.get?_update_other _ _ (Ne.symm hd)).trans e
  have hz₂ : IsZip (s.heap.update S (Obj.mapSeq (fun _ => (#[] : Array Value)))) z TI TO .none := oth0 _ _ (Ne.symm s1) hz
  refine wpAny_bind (wpAny_typeOf (T := "zip") ⟨_, hz₂, rfl⟩ ?_)
  have e1 : Builtin.List.listSameRef (.ref S) (.ref z) = false := by simp [Builtin.List.listSameRef, s1]
  have e2 : (Value.type "zip" == Value.type "list") = false := by decide
  have e3 : (Value.type "zip" == Value.type "tuple") = false := by decide
  simp only [e1, e2, e3, Bool.or_false, Bool.false_eq_true, if_false]
  refine wpAny_bind (wpAny_pyIter_zip hz₂ ?_)
  refine wpAny_bind (wpAny_holding ?_)
  unfold Builtin.List.listLengthHint
  refine wpAny_bind (wpAny_specialOf (T := "zip") ⟨_, hz₂, rfl⟩ zip_no_len ?_)
  show wpAny _ A.in1 (specialOf (Value.ref z) (Str.ofString "__length_hint__") >>= _) _ _ _
  refine wpAny_bind (wpAny_specialOf (T := "zip") ⟨_, hz₂, rfl⟩ zip_no_hint ?_)
  refine wpAny_pure ?_
  show wpAny _ A.in1 (rule "list.extend.makes-room" >>= fun _ => Builtin.List.listTouch (.ref S) >>= fun _ => again (.builtin "list.extend.loop" ⟨[.ref S, .ref z, Value.none], []⟩)) _ _ _
  refine wpAny_bind (wpAny_rule ?_)
  refine wpAny_bind ?_
  show wpAny _ A.in1 (updateSeq S (·.push .none) >>= fun _ => updateSeq S (·.pop)) _ _ _
  refine wpAny_bind (wpAny_updateSeq hS₂ rfl ?_)
  have hS₃ := Heap.get?_update_self (Obj.mapSeq (·.push Value.none)) hS₂ rfl
  refine wpAny_updateSeq (hz := by seq_fits) hS₃ rfl ?_
  have hS₄ := Heap.get?_update_self (Obj.mapSeq (·.pop)) hS₃ rfl
  have oth : ∀ d o, d ≠ S → s.heap.get? d = some o → (((s.heap.update S (Obj.mapSeq (fun _ => (#[] : Array Value)))).update S (Obj.mapSeq (·.push Value.none))).update S (Obj.mapSeq (·.pop))).get? d = some o := fun d o hd e =>
    (Heap.get?_update_other _ _ (Ne.symm hd)).trans ((Heap.get?_update_other _ _ (Ne.symm hd)).trans (oth0 d o hd e))
  obtain ⟨x, y, hTO⟩ := hTO
  refine wpAny_pure ⟨plainId_quiet PySem.F.plain_extend_loop _, zip_extend hh D na nb s.heap.objs.size hb1 hS1 hab hlen .none (min xs.length ys.length) 0 _ _ _ (by simp) (Nat.zero_le _) (.inl ⟨rfl, oth _ _ (Ne.symm s1) hz, x, y, oth _ _ (Ne.symm s3) hTO⟩) (oth _ _ (Ne.symm s2) hTI)
    (h1.at fun o e => oth _ o (Ne.symm s4) e) (h2.at fun o e => oth _ o (Ne.symm s5) e) (atq p1 fun o e => oth _ o (Ne.symm s6) e) (atq p2 fun o e => oth _ o (Ne.symm s7) e) hS₄ (by rw [Heap.size_update, Heap.size_update, Heap.size_update]; exact Nat.le_refl _) ⟨rfl, [], rfl, List.nodup_nil, fun j v e => by simp at e⟩
    fun h' tk acc' c' hk hSe hacc => ?_⟩
  exact hR h' tk acc' c' (fun d o c0 c1 c2 c3 c4 e => hk d o c0 c1 c2 c3 c4 (oth d o c0 e)) hSe hacc
end
section
variable {prog : Program} {w : World} {A : Around} {E : Value → Shared → Prop} {z TI TO i1 i2 : Addr} {q1 q2 : Bool} {a b : Addr} {xs ys : List Value} {s : Shared}
theorem call_list_zip {Q : Value → Shared → Prop} (hh : A.handled = none) (D : ZipSep2 z TI TO i1 i2 [i1, a] [i2, b]) (na : a ≠ i1) (nb : b ≠ i2) (hab : a ≠ z ∧ a ≠ TO ∧ a ≠ i2 ∧ b ≠ z ∧ b ≠ TO ∧ b ≠ i1) (hlen : min xs.length ys.length ≤ sizeLine) (la : a < s.heap.objs.size) (lb : b < s.heap.objs.size)
    (hz : IsZip s.heap z TI TO .none) (hTO : ∃ x y, IsTupOf2 s.heap TO x y) (hTI : IsTupOf2 s.heap TI (.ref i1) (.ref i2)) (h1 : AIt q1 s.heap i1 a 0) (h2 : AIt q2 s.heap i2 b 0) (p1 : ASq q1 s.heap a xs.toArray) (p2 : ASq q2 s.heap b ys.toArray)
    (h : ∀ h' tk acc' c', (∀ d o, d ≠ z → d ≠ TO → d ≠ i1 → d ≠ i2 → s.heap.get? d = some o → h'.get? d = some o) → h'.get? s.heap.objs.size = some { cls := .type "list", dict := none, data := .seq acc' c', slots := #[] } → AccZ (s.heap.objs.size + 1) xs ys h' acc' (min xs.length ys.length) → Q (.ref s.heap.objs.size) { s with heap := h', toks := tk }) :
    wpAny (model prog w) A (call (.type "list") [.ref z]) Q E s := by
  have atq : ∀ {q : Bool} {h h' : Heap} {l : Addr} {its : Array Value}, ASq q h l its → (∀ o, h.get? l = some o → h'.get? l = some o) → ASq q h' l its := by
    intro q h h' l its x e
    cases q with
    | true => exact Heap.IsTuple.at (show h.IsTuple l its from x) e
    | false => exact Heap.IsList.at (show h.IsList l its from x) e
  obtain ⟨x, y, hTO⟩ := hTO
  have lz : z < s.heap.objs.size := Heap.lt_size hz
  have lTI : TI < s.heap.objs.size := Heap.lt_size hTI
  have lTO : TO < s.heap.objs.size := Heap.lt_size hTO
  have l1 : i1 < s.heap.objs.size := by obtain ⟨_, e, _⟩ := h1.obj; exact Heap.lt_size e
  have l2 : i2 < s.heap.objs.size := by obtain ⟨_, e, _⟩ := h2.obj; exact Heap.lt_size e
  refine callType_codes (Q₁ := fun obj s₁ => obj = .ref s.heap.objs.size ∧ s₁ = { s with heap := s.heap.push { cls := .type "list", data := .seq #[] } }) PySem.F.called_list (PySem.F.typeCall_list_1 _) PySem.F.entry_list_init
    (code_list_new _ ⟨rfl, rfl⟩) fun obj s₁ h₁ => ?_
  obtain ⟨rfl, rfl⟩ := h₁
  have hS : (s.heap.push { cls := .type "list", data := .seq #[] }).get? s.heap.objs.size = some { cls := .type "list", data := .seq #[] } := Heap.get?_push_size _ rfl
  have kk : ∀ d o, s.heap.get? d = some o → (s.heap.push { cls := .type "list", data := .seq #[] }).get? d = some o := fun d o e => Heap.get?_push_of_some _ e
  have up : ∀ {d : Addr}, d < s.heap.objs.size → d < (s.heap.push { cls := .type "list", data := .seq #[] }).objs.size := fun {d} l => by rw [Heap.size_push]; exact Nat.lt_succ_of_lt l
  have lS : s.heap.objs.size < (s.heap.push { cls := .type "list", data := .seq #[] }).objs.size := by rw [Heap.size_push]; exact Nat.lt_succ_self _
  refine ⟨⟨_, hS, rfl⟩, PySem.F.args_list_init_2 _ _, zip_init (A := A.in1) hh D na nb ⟨up lz, up lTI, up lTO, up l1, up l2, up la, up lb, lS⟩ ⟨Nat.ne_of_gt lz, Nat.ne_of_gt lTI, Nat.ne_of_gt lTO, Nat.ne_of_gt l1, Nat.ne_of_gt l2, Nat.ne_of_gt la, Nat.ne_of_gt lb⟩ hab hlen (kk _ _ hz) ⟨x, y, kk _ _ hTO⟩ (kk _ _ hTI)
    (h1.at fun o e => kk _ o e) (h2.at fun o e => kk _ o e) (atq p1 fun o e => kk _ o e) (atq p2 fun o e => kk _ o e) hS fun h' tk acc' c' hk hSe hacc => ⟨rfl, ?_⟩⟩
  have e : (s.heap.push { cls := .type "list", data := .seq #[] }).objs.size = s.heap.objs.size + 1 := Heap.size_push ..
  have hacc : AccZ (s.heap.push { cls := .type "list", data := .seq #[] }).objs.size xs ys h' acc' (min xs.length ys.length) := hacc
  rw [e] at hacc
  exact h h' tk acc' c' (fun d o c1 c2 c3 c4 e => hk d o (Nat.ne_of_lt (Heap.lt_size e)) c1 c2 c3 c4 (kk d o e)) hSe hacc
end
/-! ### as it is written -/
/-- new tuples, their records known -/
def updT (H : Hp) : List (Addr × Obj × List V) → Hp
  | [] => H
  | t :: ts => upd (updT H ts) t.1 (.frz t.2.1 (.tup t.2.2))
theorem updT_out {H : Hp} {b : Addr} : ∀ {ts : List (Addr × Obj × List V)}, b ∉ ts.map (·.1) → updT H ts b = H b
  | [], _ => rfl
  | t :: ts, h => by
    rw [List.map_cons, List.mem_cons, not_or] at h
    unfold updT
    rw [upd_ne h.1]
    exact updT_out h.2
theorem updT_in {H : Hp} {b : Addr} {u : HO} : ∀ {ts : List (Addr × Obj × List V)}, b ∈ ts.map (·.1) → updT H ts b = some u → ∃ t ∈ ts, t.1 = b ∧ u = .frz t.2.1 (.tup t.2.2)
  | t :: ts, h, e => by
    unfold updT at e
    by_cases q : b = t.1
    · subst q
      rw [upd_same] at e
      exact ⟨t, List.mem_cons_self, rfl, (Option.some.inj e).symm⟩
    · rw [upd_ne q] at e
      rcases List.mem_cons.mp h with z | z
      · exact absurd z q
      · obtain ⟨t', h1, h2, h3⟩ := updT_in z e
        exact ⟨t', List.mem_cons_of_mem _ h1, h2, h3⟩
section
variable {X : Cx} {pins : List (Addr × Obj)} {σ : L2.St} {H : Hp} {s : Shared}
/-- several new objects -/
theorem Inv.many {H' : Hp} {h' : Heap} {tk : Nat} (I : Inv X pins σ H s) (k : ∀ b o, s.heap.get? b = some o → h'.get? b = some o) (same : ∀ b, b < s.heap.objs.size → H' b = H b) (tup : ∀ b xs, H b = some (.tup xs) → H' b = some (.tup xs))
    (new : ∀ b o, s.heap.objs.size ≤ b → H' b = some o → ObjOk X.prog X.w H' h' b o) : Inv X pins σ H' { s with heap := h', toks := tk } := by
  have old : ∀ b u, H b = some u → H' b = some u := fun b u e => (same b (I.hok.lt e)).trans e
  refine I.un (t' := tk) { keep := fun b o e _ _ _ => k b o e, slot := fun b o e _ _ _ => ⟨o.slots, k b o e⟩, free := fun b o e n _ => (same b (Heap.lt_size e)).trans n, there := fun b o e _ => ⟨o, k b o e⟩, tups := fun b xs e => old b _ e, frzs := fun b o xs e => old b _ e, tbls := fun b ps e => ⟨#[], by rw [old b _ e]; simp⟩ } fun b o e => ?_
  by_cases hb : b < s.heap.objs.size
  · rw [same b hb] at e
    exact (I.hok b o e).stay (fun c v _ q => k c v q) (fun c q => old c _ q) fun c xs q => old c _ q
  · exact new b o (Nat.not_lt.mp hb) e
end
section
variable {X : Cx} {W : WX} {T : List (Addr × Str)} {e e2 : Expr} {p p2 pos pos2 : Pos}
def tLZ (K : PySem.W.Frag) (ta : TA) : TE := fun σ H Q => ta σ H fun vs H1 => ∃ (a b : Addr) (q1 q2 : Bool) (xs ys : List V), vs = [.ref a, .ref b] ∧ SqX q1 K H1 a xs ∧ SqX q2 K H1 b ys ∧ min xs.length ys.length ≤ sizeLine ∧
  ∀ (L : Addr) (ts : List (Addr × Obj × List V)), H1 L = none → (ts.map (·.1)).Nodup → L ∉ ts.map (·.1) → (∀ t ∈ ts, H1 t.1 = none ∧ t.2.1.dict = none) → ts.map (·.2.2) = (xs.zip ys).map (fun p => [p.1, p.2]) → Q (.ref L) (upd (updT H1 ts) L (.lst (ts.map fun t => V.ref t.1)))
theorem pe_listZip {ta : TA} (hc : X.calm = true) (hl : Blt X "list" (.type "list")) (hz : Blt X "zip" (.type "zip")) (ha : PA X [e, e2] ta) (hs : starEach [e, e2] X.env = (false, eval e X.env) :: starEach [e2] X.env) (hpl : (backTo pos2 (starEach [e2] X.env)).any (·.1) = false)
    (hs2 : starEach [.Call (.Name "zip" p2) [e, e2] [] pos2] X.env = (false, eval (.Call (.Name "zip" p2) [e, e2] [] pos2) X.env) :: starEach [] X.env) :
    PE X (.Call (.Name "list" p) [.Call (.Name "zip" p2) [e, e2] [] pos2] [] pos) (tLZ X.K ta) := by
  refine ⟨fun pins s σ H Q I h => ?_⟩
  refine Call_ (ld_blt I hl.gl hl.mg hl.bt (PyProof.Rows.callWith_type1 (args_cons ?_ hs2) hs2 rfl) hl.nn hl.db)
  refine Call_ (ld_blt I hz.gl hz.mg hz.bt (PyProof.Rows.callWith_type1 (thn (ha.run pos2 pins s σ H _ I h) fun us s1 ⟨vs, H1, I1, r1, q⟩ => ?_) hs hpl) hz.nn hz.db)
  obtain ⟨a, b, q1, q2, xs, ys, ex, hqx, hqy, hlen, q⟩ := q
  subst ex
  cases r1 with
  | cons r rr =>
    cases rr with
    | cons r' rr =>
      cases rr
      cases r
      cases r'
      obtain ⟨its, rv, p1, la⟩ := Inv.seqX I1 hqx
      obtain ⟨its2, rv2, pb, lb⟩ := Inv.seqX I1 hqy
      obtain ⟨o1, B1, st1⟩ := beginsA q1 a its.toArray
      obtain ⟨o2, B2, st2⟩ := beginsA q2 b its2.toArray
      refine zip_begins2 B1 B2 p1 pb fun h' hzz hTI hTO g1 g2 hsz hk => ?_
      have ne : ∀ {c : Addr} (n : Nat), c < s1.heap.objs.size → c ≠ s1.heap.objs.size + n := fun {c} n l => Nat.ne_of_lt (Nat.lt_of_lt_of_le l (Nat.le_add_right _ _))
      have atq : ∀ {q : Bool} {h h' : Heap} {l : Addr} {its : Array Value}, ASq q h l its → (∀ o, h.get? l = some o → h'.get? l = some o) → ASq q h' l its := by
        intro q h h' l its x e
        cases q with
        | true => exact Heap.IsTuple.at (show h.IsTuple l its from x) e
        | false => exact Heap.IsList.at (show h.IsList l its from x) e
      have lx := rv.length
      have ly := rv2.length
      refine args_nil ?_
      refine call_list_zip (s := { s1 with heap := h' }) (I1.ok.hd hc) (zip_sep2 (fp1 := [a]) (fp2 := [b]) (fun c hc => by rw [List.mem_singleton.mp hc]; exact la) (fun c hc => by rw [List.mem_singleton.mp hc]; exact lb)) (ne 0 la) (ne 1 lb) ⟨ne 4 la, ne 3 la, ne 1 la, ne 4 lb, ne 3 lb, ne 0 lb⟩ (by rw [← lx, ← ly]; exact hlen)
        (by show a < h'.objs.size; rw [hsz]; exact Nat.lt_of_lt_of_le la (Nat.le_add_right _ _)) (by show b < h'.objs.size; rw [hsz]; exact Nat.lt_of_lt_of_le lb (Nat.le_add_right _ _)) hzz ⟨_, _, hTO⟩ hTI (st1 _ _ g1) (st2 _ _ g2) (atq p1 fun o e => hk _ o e) (atq pb fun o e => hk _ o e) fun h2 tk acc c hk2 hL hacc => ?_
      have hk3 : ∀ d o, s1.heap.get? d = some o → h2.get? d = some o := fun d o ed => hk2 d o (ne 4 (Heap.lt_size ed)) (ne 3 (Heap.lt_size ed)) (ne 0 (Heap.lt_size ed)) (ne 1 (Heap.lt_size ed)) (hk d o ed)
      obtain ⟨hsz2, ad, hacc2, hnd, hall⟩ := hacc
      have had : ad.length = min its.length its2.length := by rw [← hsz2, hacc2]; simp
      have hz1 : ∀ {j : Nat} {t : Addr}, ad[j]? = some t → h'.objs.size + 1 ≤ t := fun {j t} ej => (hall j t ej).1
      have hszL : s1.heap.objs.size ≤ h'.objs.size := by rw [hsz]; exact Nat.le_add_right _ _
      -- the tuples told
      obtain ⟨ts, e1, e2, e3⟩ : ∃ ts : List (Addr × Obj × List V), ts.map (·.1) = ad ∧ ts.map (·.2.2) = (xs.zip ys).map (fun p => [p.1, p.2]) ∧ ∀ t ∈ ts, h'.objs.size + 1 ≤ t.1 ∧ t.2.1.dict = none ∧ h2.get? t.1 = some t.2.1 ∧ ∃ us : List Value, Vals t.2.2 us ∧ t.2.2.length ≤ sizeLine ∧ IsTup h2 t.1 us.toArray := by
        have key : ∀ (m : Nat), m ≤ ad.length → ∃ ts : List (Addr × Obj × List V), ts.map (·.1) = ad.take m ∧ ts.map (·.2.2) = ((xs.zip ys).take m).map (fun p => [p.1, p.2]) ∧ ∀ t ∈ ts, h'.objs.size + 1 ≤ t.1 ∧ t.2.1.dict = none ∧ h2.get? t.1 = some t.2.1 ∧ ∃ us : List Value, Vals t.2.2 us ∧ t.2.2.length ≤ sizeLine ∧ IsTup h2 t.1 us.toArray := by
          intro m
          induction m with
          | zero => exact fun _ => ⟨[], rfl, rfl, fun t z => by cases z⟩
          | succ m ih =>
            intro hm
            obtain ⟨ts, a1, a2, a3⟩ := ih (Nat.le_of_succ_le hm)
            have hlt : m < ad.length := hm
            obtain ⟨t, et⟩ : ∃ t, ad[m]? = some t := ⟨ad[m], List.getElem?_eq_getElem hlt⟩
            obtain ⟨hb, x, y, hx, hy, hp⟩ := hall m t et
            have hxl : m < xs.length := by rw [lx]; exact (List.getElem?_eq_some_iff.mp hx).1
            have hyl : m < ys.length := by rw [ly]; exact (List.getElem?_eq_some_iff.mp hy).1
            obtain ⟨x', hx', rx⟩ := rv.get (List.getElem?_eq_getElem hxl)
            obtain ⟨y', hy', ry⟩ := rv2.get (List.getElem?_eq_getElem hyl)
            obtain rfl : x' = x := Option.some.inj (hx'.symm.trans hx)
            obtain rfl : y' = y := Option.some.inj (hy'.symm.trans hy)
            refine ⟨ts ++ [(t, { cls := .type "tuple", data := .seq #[x', y'] }, [xs[m], ys[m]])], ?_, ?_, fun u hu => ?_⟩
            · rw [List.map_append, a1, List.take_add_one, et]
              rfl
            · rw [List.map_append, a2, List.take_add_one, List.map_append]
              congr 1
              rw [show (xs.zip ys)[m]? = some (xs[m], ys[m]) from List.getElem?_zip_eq_some.mpr ⟨List.getElem?_eq_getElem hxl, List.getElem?_eq_getElem hyl⟩]
              rfl
            · rcases List.mem_append.mp hu with z | z
              · exact a3 u z
              · rw [List.mem_singleton.mp z]
                exact ⟨hb, rfl, hp, [x', y'], .cons rx (.cons ry .nil), by show 2 ≤ sizeLine; decide, ⟨_, hp, rfl, _, rfl⟩⟩
        obtain ⟨ts, a1, a2, a3⟩ := key ad.length (Nat.le_refl _)
        refine ⟨ts, by rw [a1, List.take_length], ?_, a3⟩
        rw [a2, had, ← lx, ← ly, List.take_of_length_le (by rw [List.length_zip]; exact Nat.le_refl _)]
      have nL : h'.objs.size ∉ ts.map (·.1) := fun z => by
        obtain ⟨t, ht, et⟩ := List.mem_map.mp z
        have := (e3 t ht).1
        rw [et] at this
        exact absurd this (Nat.not_succ_le_self _)
      have fr : ∀ {c : Addr}, h'.objs.size ≤ c → H1 c = none := fun {c} l => I1.hok.fresh (Nat.le_trans hszL l)
      have q' := q h'.objs.size ts (fr (Nat.le_refl _)) (by rw [e1]; exact hnd) nL (fun t ht => ⟨fr (Nat.le_of_succ_le (e3 t ht).1), (e3 t ht).2.1⟩) e2
      have I2 : Inv X pins σ (upd (updT H1 ts) h'.objs.size (.lst (ts.map fun t => V.ref t.1))) { s1 with heap := h2, toks := tk } := by
        have out : ∀ c, c < s1.heap.objs.size → c ≠ h'.objs.size ∧ c ∉ ts.map (·.1) := fun c l => ⟨Nat.ne_of_lt (Nat.lt_of_lt_of_le l hszL), fun z => by
          obtain ⟨t, ht, et⟩ := List.mem_map.mp z
          have := (e3 t ht).1
          rw [et] at this
          exact absurd (Nat.lt_of_lt_of_le l hszL) (Nat.not_lt.mpr (Nat.le_of_succ_le this))⟩
        have same : ∀ c, c < s1.heap.objs.size → upd (updT H1 ts) h'.objs.size (.lst (ts.map fun t => V.ref t.1)) c = H1 c := fun c l => by rw [upd_ne (out c l).1, updT_out (out c l).2]
        refine Inv.many (tk := tk) I1 hk3 same (fun c zs ec => (same c (I1.hok.lt ec)).trans ec) fun c o hcl ec => ?_
        by_cases hcL : c = h'.objs.size
        · subst hcL
          rw [upd_same] at ec
          obtain rfl := Option.some.inj ec
          have hv : Vals (ts.map fun t => V.ref t.1) (ad.map Value.ref) := by
            have : (ts.map fun t => V.ref t.1) = ad.map V.ref := by rw [← e1, List.map_map]; rfl
            rw [this]
            clear this hacc2 had hnd hall hz1 e1
            induction ad with
            | nil => exact .nil
            | cons t r ih => exact .cons rfl ih
          refine ⟨?_, ad.map Value.ref, c, hv, ?_⟩
          · rw [hv.length, List.length_map, had, ← lx, ← ly]
            exact hlen
          · rw [hL, hacc2]
        · rw [upd_ne hcL] at ec
          by_cases hin : c ∈ ts.map (·.1)
          · obtain ⟨t, ht, et, eo⟩ := updT_in hin ec
            subst eo
            subst et
            obtain ⟨g1, g2, g3, us, g4, g5, g6⟩ := e3 t ht
            exact ⟨g3, g5, us, g4, g6⟩
          · rw [updT_out hin] at ec
            rw [I1.hok.fresh hcl] at ec
            cases ec
      exact ⟨.ref h'.objs.size, _, I2, rfl, q'⟩
theorem Cs.alT {K : PySem.W.Frag} {σ : L2.St} {ρ : Env} : ∀ {ts : List (Addr × Obj × List V)} {w : Wl}, Cs K T σ ρ w → (ts.map (·.1)).Nodup → (∀ t ∈ ts, w.H t.1 = none ∧ t.2.1.dict = none) → ∃ w', w'.H = updT w.H ts ∧ Cs K T σ ρ w' ∧ Lw w w' ∧ ∀ t ∈ ts, TupF w'.F t.1 t.2.2
  | [], w, c, _, _ => ⟨w, rfl, c, Lw.refl w, fun t z => by cases z⟩
  | t :: ts, w, c, hn, ht => by
    rw [List.map_cons] at hn
    obtain ⟨n1, n2⟩ := List.nodup_cons.mp hn
    obtain ⟨w1, e1, c1, l1, f1⟩ := Cs.alT (ts := ts) c n2 fun u z => ht u (List.mem_cons_of_mem _ z)
    obtain ⟨g1, g2⟩ := ht t List.mem_cons_self
    have hnone : w1.H t.1 = none := by rw [e1, updT_out n1]; exact g1
    obtain ⟨c2, l2⟩ := c1.al (p := t.1) (u := .frz t.2.1 (.tup t.2.2)) hnone
    refine ⟨w1.al t.1 (.frz t.2.1 (.tup t.2.2)), ?_, c2, l1.trans l2, fun u z => ?_⟩
    · show upd w1.H t.1 _ = updT w.H (t :: ts)
      rw [e1]
      rfl
    · rcases List.mem_cons.mp z with q | q
      · subst q
        exact ⟨u.2.1, upd_same, g2⟩
      · obtain ⟨o, h1, h2⟩ := f1 u q
        exact ⟨o, l2.le _ _ h1, h2⟩
theorem rl_zip {K : PySem.W.Frag} {F : Hp} : ∀ {ts : List (Addr × Obj × List V)} {xs ys : List D} {vs1 vs2 : List V}, RpA K F vs1 xs → RpA K F vs2 ys → ts.map (·.2.2) = (vs1.zip vs2).map (fun p => [p.1, p.2]) → (∀ t ∈ ts, TupF F t.1 t.2.2) → RpA K F (ts.map fun t => V.ref t.1) (zipD xs ys)
  | [], _, _, _, _, .nil, _, _, _ => .nil
  | [], _, _, _, _, .cons _ _, .nil, _, _ => .nil
  | [], _, _, _, _, .cons _ _, .cons _ _, hts, _ => by simp at hts
  | t :: ts, _, _, _, _, .nil, _, hts, _ => by simp at hts
  | t :: ts, _, _, _, _, .cons _ _, .nil, hts, _ => by simp at hts
  | t :: ts, _, _, _, _, .cons x1 x2, .cons y1 y2, hts, f2 => by
    rw [List.zip_cons_cons, List.map_cons, List.map_cons] at hts
    obtain ⟨h1, h2⟩ := List.cons.inj hts
    have ft := f2 t List.mem_cons_self
    rw [h1] at ft
    exact .cons (.tup ft (.cons x1 (.cons y1 .nil))) (rl_zip x2 y2 h2 fun u z => f2 u (List.mem_cons_of_mem _ z))
def lzG : List D → Option (List D)
  | [d, e] => (seqQ d).bind fun p => (seqQ e).bind fun q => if min p.2.length q.2.length ≤ sizeLine then some (zipD p.2 q.2) else none
  | _ => none
theorem eo_listZip {f : M (List D)} (hc : X.calm = true) (hl : Blt X "list" (.type "list")) (hz : Blt X "zip" (.type "zip")) (ha : EvA X W T [e, e2] f) (hs : starEach [e, e2] X.env = (false, eval e X.env) :: starEach [e2] X.env) (hpl : (backTo pos2 (starEach [e2] X.env)).any (·.1) = false)
    (hs2 : starEach [.Call (.Name "zip" p2) [e, e2] [] pos2] X.env = (false, eval (.Call (.Name "zip" p2) [e, e2] [] pos2) X.env) :: starEach [] X.env) :
    EvO X W T (.Call (.Name "list" p) [.Call (.Name "zip" p2) [e, e2] [] pos2] [] pos) (f >>= fun ds => lift (lzG ds) >>= fun zs => Pure.pure (.lst zs)) := by
  refine ⟨PE.imp (pe_listZip hc hl hz ha.pa hs hpl hs2) fun σ H Q ⟨w, ρ, eH, c, co⟩ => ?_⟩
  subst eH
  refine ⟨w, ρ, rfl, c, co.bind.mono fun ds ρ1 w1 l1 c1 k vs r => ?_⟩
  obtain ⟨zs, ez, k⟩ := k.lift_bind'
  unfold lzG at ez
  split at ez
  · obtain ⟨⟨q1, xs⟩, e1, ez⟩ := Option.bind_eq_some_iff.mp ez
    obtain ⟨⟨q2, ys⟩, e2, ez⟩ := Option.bind_eq_some_iff.mp ez
    split at ez
    · rename_i hlen
      cases ez
      cases r with
      | cons r1 r2 =>
        cases r2 with
        | cons r2 r3 =>
          cases r3
          obtain ⟨a, vs1, rfl, ra, sa⟩ := seqQ_rp (T := T) r1 e1
          obtain ⟨b, vs2, rfl, rb, sb⟩ := seqQ_rp (T := T) r2 e2
          have n1 := ra.length
          have n2 := rb.length
          have hlen : min xs.length ys.length ≤ sizeLine := hlen
          refine ⟨a, b, q1, q2, vs1, vs2, rfl, sa c1 (fun _ _ e => e), sb c1 (fun _ _ e => e), by rw [n1, n2]; exact hlen, fun L ts hL hnd hLt ht hts => ?_⟩
          obtain ⟨w2, eH2, c2, l2, f2⟩ := c1.alT hnd ht
          have hL2 : w2.H L = none := by rw [eH2, updT_out hLt]; exact hL
          have kk : Kon X.K T σ ρ1 w1 (.lst (zipD xs ys)) Q := Co.kon l1 k.pure
          have kk2 : Kon X.K T σ ρ1 w2 (.lst (zipD xs ys)) Q := fun w' v fp l' c' rp ap nw => kk w' v fp (l2.trans l') c' rp ap (l2.nw nw)
          have rl : RpA X.K w2.F (ts.map fun t => V.ref t.1) (zipD xs ys) := rl_zip (ra.mono' l2.le) (rb.mono' l2.le) hts f2
          have := kk2.lst c2 rl L hL2
          rw [eH2] at this
          exact this
    · cases ez
  · cases ez
end
end Sh
set_option Elab.async false
set_option linter.all false
set_option maxRecDepth 100000
set_option maxHeartbeats 2000000
/-! Sh, part AA: a, b = x, y (each name its own object), list(range(n)). -/
namespace Sh
open PySem PySem.Spec PyProof.Rows L2
/-- values that stand for objects, apart from one another -/
inductive RpOs (K : PySem.W.Frag) (F H : Hp) : List V → List O → List Addr → Prop
  | nil : RpOs K F H [] [] []
  | cons {v : V} {o : O} {vs : List V} {os : List O} {fp fps : List Addr} : RpO K F H v o fp → RpOs K F H vs os fps → (∀ a ∈ fp, a ∉ fps) → RpOs K F H (v :: vs) (o :: os) (fp ++ fps)
def setsE : Env → List Nat → List O → Option Env
  | ρ, [], [] => some ρ
  | ρ, i :: is, o :: os => if i < ρ.length then setsE (ρ.set i (some o)) is os else none
  | _, _, _ => none
def setsV : L2.St → List Nat → List V → L2.St
  | σ, i :: is, v :: vs => setsV (σ.set i (some v)) is vs
  | σ, _, _ => σ
theorem sets_cs {K : PySem.W.Frag} {T : List (Addr × Str)} {w0 : Wl} : ∀ {is : List Nat} {os : List O} {vs : List V} {fps : List Addr} {σ : L2.St} {ρ ρ' : Env} {w : Wl}, setsE ρ is os = some ρ' → Cs K T σ ρ w → RpOs K w.F w.H vs os fps → Ap w fps → Nw w0 fps → Lw w0 w →
    ∃ w', w'.H = w.H ∧ Cs K T (setsV σ is vs) ρ' w' ∧ Lw w0 w'
  | [], _, _, _, σ, ρ, ρ', w, e, c, .nil, _, _, l => by
    cases e
    exact ⟨w, rfl, c, l⟩
  | [], _, _, _, _, _, _, _, e, _, .cons _ _ _, _, _, _ => by cases e
  | _ :: _, _, _, _, _, _, _, _, e, _, .nil, _, _, _ => by cases e
  | i :: is, _, _, _, σ, ρ, ρ', w, e, c, .cons (fp := fp) (fps := fps) r rs d, ap, nw, l => by
    unfold setsE at e
    split at e
    · rename_i hi
      have ap1 : Ap w fp := fun a z => ap a (List.mem_append_left _ z)
      have nw1 : Nw w0 fp := fun a z => nw a (List.mem_append_left _ z)
      have c1 := c.set hi r ap1
      have ap2 : Ap (w.slot i fp) fps := fun a z ⟨j, q⟩ => by
        have q : a ∈ (if j = i then fp else w.fp j) := q
        by_cases hj : j = i
        · rw [if_pos hj] at q
          exact d a q z
        · rw [if_neg hj] at q
          exact ap a (List.mem_append_right _ z) ⟨j, q⟩
      obtain ⟨w', h1, h2, h3⟩ := sets_cs e c1 rs ap2 (fun a z => nw a (List.mem_append_right _ z)) (l.slot nw1)
      exact ⟨w', h1, h2, h3⟩
    · cases e
theorem sets_kp {io : List Nat} : ∀ {is : List Nat} {vs : List V} {σ : L2.St}, (∀ i ∈ is, i ∉ io) → KpI io σ (setsV σ is vs)
  | [], _, σ, _ => KpI.refl σ
  | _ :: _, [], σ, _ => KpI.refl σ
  | i :: is, v :: vs, σ, h => (Kp.io (kp_set (i := i) (v := some v)) fun x z => by rw [List.mem_singleton.mp z]; exact h i List.mem_cons_self).trans (sets_kp fun j z => h j (List.mem_cons_of_mem _ z))
def setsM (is : List Nat) (os : List O) : M Fl := fun ρ => (setsE ρ is os).map fun ρ' => (.ok .nx, ρ')
section
variable {X : Cx} {W : WX} {T : List (Addr × Str)} {io : List Nat} {a e : Expr} {es : List Expr} {pos : Pos}
theorem CoS.sets {is : List Nat} {os : List O} {σ : L2.St} {w0 w : Wl} {ρ : Env} {D : Ends} {vs : List V} {fps : List Addr} (hio : ∀ i ∈ is, i ∉ io) (h : CoS X W T io (setsM is os) σ w0 ρ D) (l : Lw w0 w) (c : Cs X.K T σ ρ w) (r : RpOs X.K w.F w.H vs os fps) (ap : Ap w fps) (nw : Nw w0 fps) :
    D.nx (setsV σ is vs) w.H := by
  obtain ⟨r', ρ', e, h⟩ := h
  unfold setsM at e
  obtain ⟨ρ2, e1, e2⟩ := Option.map_eq_some_iff.mp e
  cases e2
  obtain ⟨w', h1, h2, h3⟩ := sets_cs e1 c r ap nw l
  have := h w' (setsV σ is vs) h3 h2 (sets_kp hio)
  rw [h1] at this
  exact this
/-- expressions in a row, each its own object -/
def tAO (X : Cx) (W : WX) (T : List (Addr × Str)) (f : M (List O)) : TA := fun σ H Q => ∃ w ρ, w.H = H ∧ Cs X.K T σ ρ w ∧ Co X W T f σ w ρ fun os _ w' => ∀ vs fps, RpOs X.K w'.F w'.H vs os fps → Ap w' fps → Nw w fps → Q vs w'.H
structure EvAO (X : Cx) (W : WX) (T : List (Addr × Str)) (es : List Expr) (f : M (List O)) : Prop where
  pa : PA X es (tAO X W T f)
theorem eao_nil : EvAO X W T [] (Pure.pure []) := by
  refine ⟨PA.imp pa_nil fun σ H Q ⟨w, ρ, eH, c, co⟩ => ?_⟩
  subst eH
  exact co.pure w (Lw.refl w) c [] [] .nil (fun a z => by cases z) (fun a z => by cases z)
def consO (f : M O) (g : M (List O)) : M (List O) := f >>= fun x => g >>= fun xs => Pure.pure (x :: xs)
theorem eao_cons {f : M O} {g : M (List O)} (ha : EvO X W T a f) (hr : EvAO X W T es g) (hs : starEach (a :: es) X.env = (false, eval a X.env) :: starEach es X.env) : EvAO X W T (a :: es) (consO f g) := by
  refine ⟨PA.imp (pa_cons ha.pe hr.pa hs) fun σ H Q ⟨w, ρ, eH, c, co⟩ => ?_⟩
  subst eH
  refine ⟨w, ρ, rfl, c, co.bind.mono fun x ρ1 w1 l1 c1 k v fp r1 ap1 nw1 => ?_⟩
  refine ⟨w1, ρ1, rfl, c1, (k.base l1).bind.mono fun xs ρ2 w2 l2 c2 k vs fps r2 ap2 nw2 => ?_⟩
  have sm := l2.same r1 ap1
  have hat := r1.at
  refine k.pure w2 l2 c2 (v :: vs) (fp ++ fps) (.cons (r1.frame l2.le (fun a o u e => l2.frz a o u e) fun a z => ⟨(sm a z).1, (sm a z).2.1⟩) r2 fun a z q => ?_) (fun a z => ?_) fun a z => ?_
  · rcases nw2 a q with y | y
    · exact ap1 a z y
    · exact y.own1 (hat a z).2
  · rcases List.mem_append.mp z with y | y
    · exact (sm a y).2.2
    · exact ap2 a y
  · rcases List.mem_append.mp z with y | y
    · exact nw1 a y
    · exact l1.nw nw2 a y
theorem EvD.o' {f : M D} (h : EvD X W T a f) : EvO X W T a (f >>= fun d => Pure.pure (.dat d)) := h.o
/-- a, b = x, y -/
theorem es_par {i j : Nat} {x y : Str} {a b : Expr} {px py pt pos : Pos} {kt k2 pt2} {f : M (List O)} (hio : ∀ k ∈ [i, j], k ∉ io) (hc : X.calm = true) (hN : X.N.Nodup) (hi : X.N[i]? = some x) (hj : X.N[j]? = some y) (hij : i ≠ j)
    (hx : X.env.scope.names.lookup x = some .local) (hy : X.env.scope.names.lookup y = some .local) (ha : EvAO X W T [a, b] f)
    (hw : swappedStores [.Tuple [.Name x px, .Name y py] kt pt] (.Tuple [a, b] k2 pt2) X.env = pure (some [x, y]))
    (hs : swapsWithSole [.Tuple [.Name x px, .Name y py] kt pt] (.Tuple [a, b] k2 pt2) pos.line X.env = pure false) :
    EvS X W T io (.Assign [.Tuple [.Name x px, .Name y py] kt pt] (.Tuple [a, b] k2 pt2) pos) (f >>= fun os => setsM [i, j] os) := by
  refine ⟨PS.imp (ps_par hc hN hi hj hij hx hy ha.pa hw hs) fun D σ H ⟨w, ρ, eH, c, co⟩ => ?_⟩
  subst eH
  refine ⟨w, ρ, rfl, c, co.bindE.mono fun os ρ1 w1 l1 c1 k vs fps r ap nw => ?_⟩
  have q := CoS.sets hio k l1 c1 r ap nw
  obtain ⟨v, u, rfl⟩ : ∃ v u, vs = [v, u] := by
    obtain ⟨_, _, e1, _⟩ := k
    unfold setsM at e1
    obtain ⟨ρ2, e1, _⟩ := Option.map_eq_some_iff.mp e1
    cases r with
    | nil => cases e1
    | cons _ r _ =>
      unfold setsE at e1
      split at e1
      · cases r with
        | nil => cases e1
        | cons _ r _ =>
          unfold setsE at e1
          split at e1
          · cases r with
            | nil => exact ⟨_, _, rfl⟩
            | cons _ _ _ => cases e1
          · cases e1
      · cases e1
  exact ⟨v, u, rfl, q⟩
theorem es_par3 {i j l : Nat} {x y z : Str} {a b c : Expr} {px py pz pt pos : Pos} {kt k2 pt2} {f : M (List O)} (hio : ∀ k ∈ [i, j, l], k ∉ io) (hc : X.calm = true) (hN : X.N.Nodup) (hi : X.N[i]? = some x) (hj : X.N[j]? = some y) (hl : X.N[l]? = some z) (hij : i ≠ j) (hil : i ≠ l) (hjl : j ≠ l)
    (hx : X.env.scope.names.lookup x = some .local) (hy : X.env.scope.names.lookup y = some .local) (hz : X.env.scope.names.lookup z = some .local) (ha : EvAO X W T [a, b, c] f)
    (hw : swappedStores [.Tuple [.Name x px, .Name y py, .Name z pz] kt pt] (.Tuple [a, b, c] k2 pt2) X.env = pure (some [x, y, z]))
    (hs : swapsWithSole [.Tuple [.Name x px, .Name y py, .Name z pz] kt pt] (.Tuple [a, b, c] k2 pt2) pos.line X.env = pure false) :
    EvS X W T io (.Assign [.Tuple [.Name x px, .Name y py, .Name z pz] kt pt] (.Tuple [a, b, c] k2 pt2) pos) (f >>= fun os => setsM [i, j, l] os) := by
  refine ⟨PS.imp (ps_par3 hc hN hi hj hl hij hil hjl hx hy hz ha.pa hw hs) fun D σ H ⟨w, ρ, eH, c, co⟩ => ?_⟩
  subst eH
  refine ⟨w, ρ, rfl, c, co.bindE.mono fun os ρ1 w1 l1 c1 k vs fps r ap nw => ?_⟩
  have q := CoS.sets hio k l1 c1 r ap nw
  obtain ⟨v, u, t, rfl⟩ : ∃ v u t, vs = [v, u, t] := by
    obtain ⟨_, _, e1, _⟩ := k
    unfold setsM at e1
    obtain ⟨ρ2, e1, _⟩ := Option.map_eq_some_iff.mp e1
    cases r with
    | nil => cases e1
    | cons _ r _ =>
      unfold setsE at e1
      split at e1
      · cases r with
        | nil => cases e1
        | cons _ r _ =>
          unfold setsE at e1
          split at e1
          · cases r with
            | nil => cases e1
            | cons _ r _ =>
              unfold setsE at e1
              split at e1
              · cases r with
                | nil => exact ⟨_, _, _, rfl⟩
                | cons _ _ _ => cases e1
              · cases e1
          · cases e1
      · cases e1
  exact ⟨v, u, t, rfl, q⟩
end
end Sh
set_option Elab.async false
set_option linter.all false
set_option maxRecDepth 100000
set_option maxHeartbeats 2000000
/-! Sh, part AB: {k: v for ..}, list(range(n)). -/
namespace Sh
open PySem PySem.Spec PyProof.Rows L2
def dcPut (o : O) (k : Key) (p : O) : Option O := match o, p with
  | .dic kds, .dat d => if kds.length < sizeLine then some (.dic (putD kds k d)) else none
  | .dil kls, .lst xs => if kls.length < sizeLine ∧ (kls.any fun kv => decide (kv.1 = k)) = false then some (.dil (kls ++ [(k, xs)])) else none
  | _, _ => none
theorem RpL.keys {K : PySem.W.Frag} {F H : Hp} : ∀ {kvs : List (Key × V)} {kls : List (Key × List D)} {fp : List Addr}, RpL K F H kvs kls fp → (kvs.any fun kv => decide (kv.1 = k)) = kls.any fun kv => decide (kv.1 = k)
  | _, _, _, .nil => rfl
  | _, _, _, .cons _ _ _ r => by rw [List.any_cons, List.any_cons, RpL.keys r]
theorem RpL.size {K : PySem.W.Frag} {F H : Hp} : ∀ {kvs : List (Key × V)} {kls : List (Key × List D)} {fp : List Addr}, RpL K F H kvs kls fp → kvs.length = kls.length
  | _, _, _, .nil => rfl
  | _, _, _, .cons _ _ _ r => by rw [List.length_cons, List.length_cons, RpL.size r]
theorem RpL.snoc {K : PySem.W.Frag} {F H : Hp} {k : Key} {b : Addr} {xs : List V} {ds : List D} (h1 : F b = none) (h2 : H b = some (.lst xs)) (h3 : RpA K F xs ds) : ∀ {kvs : List (Key × V)} {kls : List (Key × List D)} {fp : List Addr}, RpL K F H kvs kls fp → RpL K F H (kvs ++ [(k, .ref b)]) (kls ++ [(k, ds)]) (fp ++ [b])
  | _, _, _, .nil => .cons h1 h2 h3 .nil
  | _, _, _, .cons g1 g2 g3 r => .cons g1 g2 g3 (RpL.snoc h1 h2 h3 r)
theorem RpL.upd {K : PySem.W.Frag} {F H : Hp} {a : Addr} {u : HO} : ∀ {kvs : List (Key × V)} {kls : List (Key × List D)} {fp : List Addr}, RpL K F H kvs kls fp → a ∉ fp → RpL K F (upd H a u) kvs kls fp
  | _, _, _, .nil, _ => .nil
  | _, _, _, .cons g1 g2 g3 r, n => .cons g1 (by rw [upd_ne (fun z => n (by rw [← z]; exact List.mem_cons_self))]; exact g2) g3 (RpL.upd r fun z => n (List.mem_cons_of_mem _ z))
theorem dcPut_rp {K : PySem.W.Frag} {F H : Hp} {D : Addr} {v : V} {o p o' : O} {k : Key} {fp fp2 : List Addr} (r1 : RpO K F H (.ref D) o fp) (r2 : RpO K F H v p fp2) (dj : ∀ a ∈ fp, a ∉ fp2) (hD : D ∈ fp) (e : dcPut o k p = some o') :
    ∃ kvs, H D = some (.dK kvs) ∧ kvs.length < sizeLine ∧ RpO K F (upd H D (.dK (putK kvs k v))) (.ref D) o' (fp ++ fp2) := by
  unfold dcPut at e
  split at e
  · split at e
    · rename_i hz
      cases e
      cases r1 with
      | dic g1 g2 g3 =>
        cases r2 with
        | dat g4 =>
          exact ⟨_, g2, by rw [g3.length]; exact hz, .dic g1 upd_same (g3.put g4 k)⟩
    · cases e
  · split at e
    · rename_i hz
      obtain ⟨hz, hk⟩ := hz
      cases e
      cases r1 with
      | dil g1 g2 g3 g4 =>
        cases r2 with
        | lst k1 k2 k3 =>
          rename_i kvs fp3 b ys
          obtain ⟨n1, n2⟩ := List.nodup_cons.mp g4
          have nb : b ∉ D :: fp3 := fun z => dj b z (List.mem_singleton.mpr rfl)
          have hbD : b ≠ D := fun z => nb (by rw [z]; exact List.mem_cons_self)
          refine ⟨kvs, g2, by rw [g3.size]; exact hz, ?_⟩
          have ek : putK kvs k (.ref b) = kvs ++ [(k, .ref b)] := by
            unfold putK
            rw [g3.keys, hk]
            rfl
          rw [ek]
          refine .dil g1 upd_same (RpL.snoc k1 (by rw [upd_ne hbD]; exact k2) k3 (g3.upd n1)) ?_
          show (((D :: fp3) ++ [b]) : List Addr).Nodup
          refine List.nodup_append.mpr ⟨g4, List.nodup_cons.mpr ⟨by simp, List.nodup_nil⟩, fun x hx y hy => ?_⟩
          rw [List.mem_singleton.mp hy]
          exact fun z => nb (by rw [← z]; exact hx)
    · cases e
  · cases e
def dcLoop (vs : List Nat) (g : G) (ft : M Bool) (fk : M D) (fv : M O) : List D → O → Env → Option (O × Env)
  | [], acc, ρ => some (acc, ρ)
  | d :: ds, acc, ρ => match g d ρ with
    | none => none
    | some ρ1 => match ft ρ1 with
      | some (.ok true, ρ2) => (match fk ρ2 with
        | some (.ok y, ρ3) => (match fv ρ3 with
          | some (.ok z, ρ4) => (match (keyD y).bind fun k => dcPut acc k z with
            | some acc' => dcLoop vs g ft fk fv ds acc' (wipeE ρ4 vs)
            | none => none)
          | _ => none)
        | _ => none)
      | some (.ok false, ρ2) => dcLoop vs g ft fk fv ds acc (wipeE ρ2 vs)
      | _ => none
def O.dk0 : O → Bool
  | .dic [] => true
  | .dil [] => true
  | _ => false
def dcM (vs : List Nat) (o0 : O) (fi : M (List D)) (g : G) (ft : M Bool) (fk : M D) (fv : M O) : M O := fi >>= fun ds => fun ρ1 =>
  if vs.all (fun v => okSlot ρ1[v]?) = true ∧ o0.dk0 = true then (match dcLoop vs g ft fk fv ds o0 (wipeE ρ1 vs) with
    | some (o, ρ2) => some (.ok o, restE ρ1 ρ2 vs)
    | none => none) else none
section
variable {X : Cx} {W : WX} {T : List (Addr × Str)}
theorem dcLoop_wiped {vs : List Nat} {g : G} {ft : M Bool} {fk : M D} {fv : M O} : ∀ {ds : List D} {acc o : O} {ρ ρ2 : Env}, (∀ j ∈ vs, ∀ o, ρ[j]? ≠ some (some o)) → dcLoop vs g ft fk fv ds acc ρ = some (o, ρ2) → ∀ j ∈ vs, ∀ o, ρ2[j]? ≠ some (some o)
  | [], acc, o, ρ, ρ2, h, e => by cases e; exact h
  | d :: ds, acc, o, ρ, ρ2, h, e => by
    unfold dcLoop at e
    split at e
    · cases e
    · split at e
      · split at e
        · split at e
          · split at e
            · exact dcLoop_wiped (fun j hj o => wipeE_in hj) e
            · cases e
          · cases e
        · cases e
      · exact dcLoop_wiped (fun j hj o => wipeE_in hj) e
      · cases e
theorem Lw.nwW {w0 w1 w2 : Wl} {fp : List Addr} (l : Lw w0 w1) (h : Nw w1 fp) (n : ∀ a ∈ fp, ¬ w1.own a) : Nw w0 fp := l.nw h
theorem dc_main {vs ts : List Nat} {o0 : O} {fi : M (List D)} {g : G} {ft : M Bool} {fk : M D} {fv : M O} (hts : ∀ x ∈ ts, x ∈ vs) {σ : L2.St} {H : Hp} {Q : VK} (h : tO X W T (dcM vs o0 fi g ft fk fv) σ H Q) :
    tDc (tI X W T fi) (tG X T ts g) (tT X W0 T ft) (tD X W0 T fk) (tO X W0 T fv) vs σ H Q := by
  obtain ⟨w, ρ, eH, c, co⟩ := h
  subst eH
  unfold dcM at co
  refine ⟨w, ρ, rfl, c, co.bind.mono fun ds ρ1 w1 l1 c1 k J hJ D hD => ?_⟩
  obtain ⟨r, ρf, ef, kf⟩ := k
  dsimp only at ef
  split at ef
  · rename_i hok
    obtain ⟨hok, hz0⟩ := hok
    split at ef
    · rename_i of ρ2 eloop
      cases ef
      have hokv : ∀ v ∈ vs, okSlot ρ1[v]? = true := List.all_eq_true.mp hok
      have ca := c1.wipe (σ' := wipe σ vs) vs (wipe_length σ vs) (fun j q => wipe_out q)
      have la : Lw w1 (w1.wipe vs) := (Lw.refl w1).wipe vs
      obtain ⟨cb, lb⟩ := ca.al0 (p := D) (u := .dK []) hD
      have fD := ca.fresh hD
      have r0 : RpO X.K ((w1.wipe vs).al0 D (.dK [])).F ((w1.wipe vs).al0 D (.dK [])).H (.ref D) o0 [D] := by
        unfold O.dk0 at hz0
        split at hz0
        · exact .dic fD.1 upd_same .nil
        · exact .dil fD.1 upd_same .nil (List.nodup_cons.mpr ⟨by simp, List.nodup_nil⟩)
        · cases hz0
      refine ⟨fun i m H => m = ds.length - i ∧ i ≤ ds.length ∧ ∃ w2 ρa acc fp, w2.H = H ∧ Lw w1 w2 ∧ Cs X.K T (wipe σ vs) ρa w2 ∧ (∀ j ∈ vs, ∀ o, ρa[j]? ≠ some (some o)) ∧ RpO X.K w2.F w2.H (.ref D) acc fp ∧ D ∈ fp ∧ Ap w2 fp ∧ Nw w1 fp ∧ dcLoop vs g ft fk fv (ds.drop i) acc ρa = some (of, ρ2),
        ⟨ds.length, by simp, Nat.zero_le _, (w1.wipe vs).al0 D (.dK []), wipeE ρ1 vs, o0, [D], rfl, la.trans lb, cb, fun j hj o => wipeE_in hj, r0, List.mem_singleton.mpr rfl, fun a z => by rw [List.mem_singleton.mp z]; exact fD.2, fun a z => .inr (.inl (by rw [List.mem_singleton.mp z]; exact hD)), by simpa using eloop⟩, ?_⟩
      rintro i m H ⟨rfl, hle, w2, ρa, acc, fp, eH, l2, c2, hwp, ro, hDf, apf, nwf, el⟩
      subst eH
      obtain ⟨hstop, hgo⟩ := hJ i w2 _ _ l2 c2
      -- what is held across a step
      have carry : ∀ {wa wb : Wl}, Lw wa wb → RpO X.K wa.F wa.H (.ref D) acc fp → Ap wa fp → RpO X.K wb.F wb.H (.ref D) acc fp ∧ Ap wb fp := fun {wa wb} l r ap => by
        have sm := l.same r ap
        exact ⟨r.frame l.le (fun a o u e => l.frz a o u e) fun a z => ⟨(sm a z).1, (sm a z).2.1⟩, fun a z => (sm a z).2.2⟩
      have wiped : ∀ {wa : Wl} {o : O} {fp : List Addr}, Ap wa fp → Ap (wa.wipe vs) fp := fun {wa o fp} ap a z ⟨j, hj⟩ => by
        have hj : a ∈ (if j ∈ vs then [] else wa.fp j) := hj
        by_cases q : j ∈ vs
        · rw [if_pos q] at hj; cases hj
        · rw [if_neg q] at hj; exact ap a z ⟨j, hj⟩
      by_cases hlt : i < ds.length
      · refine .inr ?_
        obtain ⟨d, ed⟩ : ∃ d, ds[i]? = some d := ⟨ds[i], List.getElem?_eq_getElem hlt⟩
        obtain ⟨go, yld⟩ := hgo d ed
        have edrop : ds.drop i = d :: ds.drop (i + 1) := by
          rw [List.drop_eq_getElem_cons hlt]
          rw [List.getElem?_eq_getElem hlt] at ed
          rw [Option.some.inj ed]
        rw [edrop] at el
        unfold dcLoop at el
        refine ⟨go, fun H' => ∃ w2 ρa acc fp, w2.H = H' ∧ Lw w1 w2 ∧ Cs X.K T (wipe σ vs) ρa w2 ∧ (∀ j ∈ vs, ∀ o, ρa[j]? ≠ some (some o)) ∧ RpO X.K w2.F w2.H (.ref D) acc fp ∧ D ∈ fp ∧ Ap w2 fp ∧ Nw w1 fp ∧ dcLoop vs g ft fk fv (ds.drop (i + 1)) acc ρa = some (of, ρ2), fun H' q => ⟨ds.length - (i + 1), by omega, rfl, hlt, q⟩, fun x H' y => ?_⟩
        obtain ⟨w3, eH3, l3, c3, r3⟩ := yld x H' y
        subst eH3
        obtain ⟨ro3, ap3⟩ := carry l3 ro apf
        split at el
        · cases el
        · rename_i ρb eg
          refine ⟨w3, ρa, d, ρb, rfl, c3, r3, eg, fun w4 σ4 eH4 eF4 l4 c4 k4 => ?_⟩
          obtain ⟨ro4, ap4⟩ := carry l4 ro3 ap3
          have kk : Kp vs σ σ4 := ⟨k4.1.trans (wipe_length σ vs), fun j q => (k4.2 j fun z => q (hts j z)).trans (wipe_out q)⟩
          have back : ∀ j, j ∉ vs → (wipe σ vs)[j]? = σ4[j]? := fun j q => (wipe_out q).trans (kk.2 j q).symm
          have hlen : (wipe σ vs).length = σ4.length := by rw [wipe_length]; exact kk.1.symm
          refine ⟨wipe_eq kk, w4, ρb, rfl, c4, ?_⟩
          split at el
          · rename_i ρc eft
            split at el
            · rename_i y' ρd efk
              split at el
              · rename_i z' ρe efv
                split at el
                · rename_i acc' eput
                  obtain ⟨kk', ek, eput⟩ := Option.bind_eq_some_iff.mp eput
                  refine Co.of eft fun w5 l5 c5 => ?_
                  refine iteT ?_
                  refine ⟨w5, ρc, rfl, c5, Co.of efk fun w6 l6 c6 kv rkv => ?_⟩
                  refine ⟨w6, ρd, rfl, c6, Co.of efv fun w7 l7 c7 v fp2 rv ap2 nw2 => ?_⟩
                  obtain ⟨ro5, ap5⟩ := carry l5 ro4 ap4
                  obtain ⟨ro6, ap6⟩ := carry l6 ro5 ap5
                  obtain ⟨ro7, ap7⟩ := carry l7 ro6 ap6
                  have dj : ∀ a ∈ fp, a ∉ fp2 := fun a z q => by
                    rcases nw2 a q with y | y
                    · exact ap6 a z y
                    · exact y.own1 (ro6.at a z).2
                  obtain ⟨kvs, h1, h2, h3⟩ := dcPut_rp ro7 rv dj hDf eput
                  have hat := ro7.at D hDf
                  have lall : Lw w1 w7 := ((((l2.trans l3).trans l4).trans l5).trans l6).trans l7
                  have lp : Lw w1 (w7.put D (.dK (putK kvs kk' v))) := lall.put0 hD
                  have cp := c7.put0 (u := .dK (putK kvs kk' v)) hat.1 (ap7 D hDf) hat.2
                  have cw := cp.wipe (σ' := wipe σ vs) vs hlen back
                  refine ⟨kvs, kk', keyD_v ek rkv, h1, h2, (w7.put D (.dK (putK kvs kk' v))).wipe vs, wipeE ρe vs, acc', fp ++ fp2, rfl, lp.wipe vs, cw, fun j hj o => wipeE_in hj, h3, List.mem_append_left _ hDf, ?_, ?_, el⟩
                  · refine wiped (o := acc') (wa := w7.put D (.dK (putK kvs kk' v))) fun a z => ?_
                    rcases List.mem_append.mp z with y | y
                    · exact ap7 a y
                    · exact ap2 a y
                  · intro a z
                    rcases List.mem_append.mp z with y | y
                    · exact nwf a y
                    · exact (((((l2.trans l3).trans l4).trans l5).trans l6).nw nw2) a y
                · cases el
              · cases el
            · cases el
          · rename_i ρc eft
            refine Co.of eft fun w5 l5 c5 => ?_
            refine iteF ?_
            obtain ⟨ro5, ap5⟩ := carry l5 ro4 ap4
            have cw := c5.wipe (σ' := wipe σ vs) vs hlen back
            exact ⟨w5.wipe vs, wipeE ρc vs, acc, fp, rfl, (((l2.trans l3).trans l4).trans l5).wipe vs, cw, fun j hj o => wipeE_in hj, ro5, hDf, wiped (o := acc) ap5, nwf, el⟩
          · cases el
      · have e : i = ds.length := by omega
        refine .inl ⟨hstop e, ?_⟩
        subst e
        rw [List.drop_length] at el
        have el' : some (acc, ρa) = some (of, ρ2) := el
        cases el'
        have cr : Cs X.K T σ (restE ρ1 ρ2 vs) w2 := c1.rest l2.le hokv hwp c2
        exact kf w2 (l1.trans l2) cr (.ref D) fp ro apf (l1.nw nwf)
    · cases ef
  · cases ef
/-- {k: v for target in iter if ..} -/
theorem eo_dc {kx vx tg iter : Expr} {ifs : List Expr} {scope : Scope} {own : List (Str × Nat)} {pos : Pos} {ts : List Nat} {o0 : O} {fi : M (List D)} {g : G} {ft : M Bool} {fk : M D} {fv : M O} (hc : X.calm = true) (hN : X.N.Nodup) (hi : EvI X W T tg iter fi) (ok : BlkOk X.N X.env.scope scope own)
    (hts : ∀ x ∈ ts, x ∈ own.map (·.2))
    (hg : ∀ (s : Shared) (H : Hp) (C : Addr) (cl : List (Str × Addr)) (fp : List Addr), EvG (X.blk s H scope (compEnvC scope cl C X.env) fp) T tg ts g)
    (ht : ∀ (s : Shared) (H : Hp) (C : Addr) (cl : List (Str × Addr)) (fp : List Addr), EvTs (X.blk s H scope (compEnvC scope cl C X.env) fp) W0 T ifs ft)
    (hk : ∀ (s : Shared) (H : Hp) (C : Addr) (cl : List (Str × Addr)) (fp : List Addr), EvD (X.blk s H scope (compEnvC scope cl C X.env) fp) W0 T kx fk)
    (hv : ∀ (s : Shared) (H : Hp) (C : Addr) (cl : List (Str × Addr)) (fp : List Addr), EvO (X.blk s H scope (compEnvC scope cl C X.env) fp) W0 T vx fv)
    (hs : ∀ x, foldedSetIterable iter X.env x = pure x) : EvO X W T (.DictComp kx vx [⟨tg, iter, ifs, 0⟩] scope pos) (dcM (own.map (·.2)) o0 fi g ft fk fv) :=
  ⟨PE.imp (pe_dc (g := tG X T ts g) (tt := tT X W0 T ft) (tk := tD X W0 T fk) (tv := tO X W0 T fv) hc hN hi.pi ok (fun s H C cl fp => (hg s H C cl fp).pg) (fun s H C cl fp => (ht s H C cl fp).pts) (fun s H C cl fp => (hk s H C cl fp).pe) (fun s H C cl fp => (hv s H C cl fp).pe) hs) fun σ H Q h => dc_main hts h⟩
/-- list(range(n)) -/
def rgL (d : D) : Option O := match d with
  | .int n => if smI n = true ∧ n.toNat ≤ sizeLine then some (.lst (rgD 0 n.toNat)) else none
  | _ => none
theorem eo_listRg {a : Expr} {f : M D} {p p2 pos pos2 : Pos} (hc : X.calm = true) (hg : Gl X "list") (hm : X.mg "list" = none) (hg2 : Gl X "range") (hm2 : X.mg "range" = none) (ha : EvD X W T a f)
    (na : starEach [a] X.env = (false, eval a X.env) :: starEach [] X.env) (na2 : starEach [.Call (.Name "range" p2) [a] [] pos2] X.env = (false, eval (.Call (.Name "range" p2) [a] [] pos2) X.env) :: starEach [] X.env) :
    EvO X W T (.Call (.Name "list" p) [.Call (.Name "range" p2) [a] [] pos2] [] pos) (f >>= fun d => lift (rgL d)) := by
  refine ⟨PE.imp (pe_listRg hc hg hm (prg_1 hg2 hm2 ha.pe na) na2) fun σ H Q ⟨w, ρ, eH, c, co⟩ => ?_⟩
  subst eH
  refine ⟨w, ρ, rfl, c, co.bind.mono fun d ρ1 w1 l1 c1 k v r => ?_⟩
  obtain ⟨o, eo, k⟩ := k.lift
  unfold rgL at eo
  split at eo
  · split at eo
    · rename_i n hz
      cases eo
      cases r
      obtain ⟨s1, s2⟩ := smI_of hz.1
      have hz2 := hz.2
      rw [sizeLine_eq] at hz2
      refine ⟨n, rfl, ⟨by decide, by decide, s1, s2, by rw [Int.sub_zero]; exact hz2⟩, ?_⟩
      refine (Co.kon l1 k).lst c1 ?_
      unfold rgV rgD
      rw [Int.sub_zero]
      generalize List.range n.toNat = l
      induction l with
      | nil => exact .nil
      | cons x l ih => exact .cons (.int _) ih
    · cases eo
  · cases eo
end
end Sh
set_option Elab.async false
set_option linter.all false
set_option maxRecDepth 100000
set_option maxHeartbeats 2000000
/-! Sh, part AC: the words that printed texts are made of; facts of the head. -/
namespace Sh
open PySem PySem.Spec PyProof.Rows L2
/-! ### readings -/
def toD (f : M O) : M D := f >>= fun o => guardM (!o.isScr) >>= fun _ => Pure.pure o.view
def toO (f : M D) : M O := f >>= fun d => Pure.pure (.dat d)
def cD (d : D) : M D := Pure.pure d
def bin (g : D → D → Option O) (fa fb : M D) : M O := fa >>= fun x => fb >>= fun y => lift (g x y)
def cmpD (g : D → D → Option Bool) (fa fb : M D) : M D := fa >>= fun x => fb >>= fun y => lift (g x y) >>= fun k => Pure.pure (.bool k)
def cmpT (g : D → D → Option Bool) (fa fb : M D) : M Bool := fa >>= fun x => fb >>= fun y => lift (g x y)
def chainD (g g' : D → D → Option Bool) (fa fb fc : M D) : M D := chainM g g' fa fb fc >>= fun k => Pure.pure (.bool k)
def truT (f : M D) : M Bool := f >>= fun d => lift (truD d)
def notT (f : M Bool) : M Bool := f >>= fun x => Pure.pure (!x)
def notD (f : M D) : M D := f >>= fun x => lift (boolD x) >>= fun k => Pure.pure (.bool (!k))
def negM (f : M D) : M D := f >>= fun x => lift (negD x)
def subM (f g : M D) : M D := f >>= fun d => g >>= fun k => lift (ixD d k)
def slM (f : M D) (gl gh : M (Option Int)) : M O := f >>= fun d => gl >>= fun l => gh >>= fun h => lift (slD d l h)
def optM (f : M D) : M (Option Int) := f >>= fun d => lift (intD d) >>= fun i => Pure.pure (some i)
def noM : M (Option Int) := Pure.pure none
def revM (f : M D) : M O := f >>= fun d => lift (revG d)
def nilM : M (List D) := Pure.pure []
def tupM (f : M (List D)) : M D := f >>= fun xs => fitM xs >>= fun _ => Pure.pure (.tuple xs)
def lstM (f : M (List D)) : M O := f >>= fun xs => fitM xs >>= fun _ => Pure.pure (.lst xs)
def dicM : M O := Pure.pure (.dic [])
def fnD (g : List D → Option D) (f : M (List D)) : M D := f >>= fun ds => lift (g ds)
def fnO (g : List D → Option O) (f : M (List D)) : M O := f >>= fun ds => lift (g ds)
def isM (tn : String) (f : M D) : M D := f >>= fun d => Pure.pure (.bool (isD tn d))
def lzM (f : M (List D)) : M O := f >>= fun ds => lift (lzG ds) >>= fun zs => Pure.pure (.lst zs)
def lrgM (f : M D) : M O := f >>= fun d => lift (rgL d)
def appM (i : Nat) (f : M (List D)) : M D := chkO isLst i >>= fun _ => f >>= fun ds => modM i (appG ds)
def extM (i : Nat) (f : M (List D)) : M D := chkO isLst i >>= fun _ => f >>= fun ds => modM i (extG ds)
def popM (i : Nat) : M D := chkO isLst i >>= fun _ => modM i (popG [])
def seqI (f : M D) : M (List D) := f >>= fun d => lift (seqD d)
def argI (g : List D → Option (List D)) (f : M (List D)) : M (List D) := f >>= fun ds => lift (g ds)
def ctM (l : M Unit) : M Unit := l
def retO (f : M O) : M Fl := f >>= fun o => Pure.pure (.rt o)
def retD (f : M D) : M Fl := f >>= fun d => Pure.pure (.rt (.dat d))
def retV (i : Nat) : M Fl := takeO i >>= fun o => Pure.pure (.rt o)
def retN : M Fl := Pure.pure (.rt (.dat .none))
def nxM : M Fl := Pure.pure .nx
def bkM : M Fl := Pure.pure .bk
def ctnM : M Fl := Pure.pure .ct
def exprD (f : M D) : M Fl := f >>= fun _ => Pure.pure .nx
def exprO (f : M O) : M Fl := f >>= fun _ => Pure.pure .nx
def setO (i : Nat) (f : M O) : M Fl := f >>= fun o => setM i o
def setD (i : Nat) (f : M D) : M Fl := f >>= fun d => setM i (.dat d)
def parM (is : List Nat) (f : M (List O)) : M Fl := f >>= fun os => setsM is os
def nilO : M (List O) := Pure.pure []
def asgD (g : G) (f : M D) : M Fl := f >>= fun d => asgM g d
def forM' (g : G) (fi : M (List D)) (fb : M Fl) : M Fl := fi >>= fun ds => forL g fb ds
def trueM : M Bool := Pure.pure true
def lendM (i : Nat) (f : M (List D)) : M (List D) := chkN i >>= fun _ => f
section
variable {X : Cx} {W : WX} {T : List (Addr × Str)} {io : List Nat} {a b e : Expr} {es : List Expr} {p q pos pos' : Pos} {x n : Str}
theorem zO {f : M O} (h : EvO X W T a f) : EvD X W T a (toD f) := h.d
theorem zD {f : M D} (h : EvD X W T a f) : EvO X W T a (toO f) := h.o
theorem zN {i : Nat} (h : PE X a (tVar i)) : EvD X W T a (getD i) := ev_name h
theorem zInt {i : Int} {j : Nat} : EvD X W T (.Constant (.int i) j pos) (cD (.int i)) := ev_const pe_int fun _ => .int _
theorem zStr {z : Str} {j : Nat} : EvD X W T (.Constant (.str z) j pos) (cD (.str z)) := ev_const pe_str fun _ => .str _
theorem zBl {k : Bool} {j : Nat} : EvD X W T (.Constant (.bool k) j pos) (cD (.bool k)) := ev_const pe_bl fun _ => .bl _
theorem zNon {j : Nat} : EvD X W T (.Constant .none j pos) (cD .none) := ev_const pe_non fun _ => .non
theorem zGInt {i : Int} (hg : Gl X x) (h : ∃ t, X.mg x = some (.int i t)) (hd : (x == ("__debug__" : Str)) = false) : EvD X W T (.Name x pos) (cD (.int i)) := by
  obtain ⟨t, h⟩ := h
  exact ev_const (v := .int i) (pe_glob hg h ⟨t, rfl⟩ hd) fun _ => .int _
theorem zGStr {z : Str} (hg : Gl X x) (h : ∃ t, X.mg x = some (.str z t)) (hd : (x == ("__debug__" : Str)) = false) : EvD X W T (.Name x pos) (cD (.str z)) := by
  obtain ⟨t, h⟩ := h
  exact ev_const (v := .str z) (pe_glob hg h ⟨t, rfl⟩ hd) fun _ => .str _
theorem zBin {op : Operator} {r : R2} {g : D → D → Option O} {fa fb : M D} (ho : OpR X (binaryOp op) r) (hv : OpV X T r g) (ha : EvD X W T a fa) (hb : EvD X W T b fb) : EvO X W T (.BinOp a op b pos) (bin g fa fb) := ev_bin ho hv ha hb
theorem zCmpD {op : CmpOp} {r : R2} {g : D → D → Option Bool} {fa fb : M D} (ho : OpR X (compareOp op) r) (hv : OpV X T r (asO g)) (ha : EvD X W T a fa) (hb : EvD X W T b fb) (hm : behindInMarks op b = false) : EvD X W T (.Compare a [op] [b] pos) (cmpD g fa fb) := ev_cmp ho hv hm ha hb
theorem zCmpT {op : CmpOp} {r : R2} {g : D → D → Option Bool} {fa fb : M D} (ho : OpR X (compareOp op) r) (hv : OpV X T r (asO g)) (ha : EvD X W T a fa) (hb : EvD X W T b fb) (hm : behindInMarks op b = false) : EvT X W T (.Compare a [op] [b] pos) (cmpT g fa fb) := et_cmp ho hv hm ha hb
theorem zChT {op op' : CmpOp} {r r' : R2} {g g' : D → D → Option Bool} {fa fb fc : M D} {c : Expr} (ho : OpR X (compareOp op) r) (hv : OpV X T r (asO g)) (ho' : OpR X (compareOp op') r') (hv' : OpV X T r' (asO g'))
    (ha : EvD X W T a fa) (hb : EvD X W T b fb) (hc : EvD X W T c fc) (hm : lastMarks [op, op'] [b, c] = false) : EvT X W T (.Compare a [op, op'] [b, c] pos) (chainM g g' fa fb fc) := et_chain ho ho' hv hv' ha hb hc hm
theorem zChD {op op' : CmpOp} {r r' : R2} {g g' : D → D → Option Bool} {fa fb fc : M D} {c : Expr} (ho : OpR X (compareOp op) r) (hv : OpV X T r (asO g)) (ho' : OpR X (compareOp op') r') (hv' : OpV X T r' (asO g'))
    (ha : EvD X W T a fa) (hb : EvD X W T b fb) (hc : EvD X W T c fc) (hm : lastMarks [op, op'] [b, c] = false) : EvD X W T (.Compare a [op, op'] [b, c] pos) (chainD g g' fa fb fc) := ev_chain ho ho' hv hv' ha hb hc hm
theorem zTru {f : M D} (h : EvD X W T a f) (he : ∀ whole, isTrue a X.env whole = (do let v ← whole; standAt a.pos; holding [v] (truthy v))) : EvT X W T a (truT f) := h.t he
theorem zNotT {f : M Bool} (h : EvT X W T a f) : EvT X W T (.UnaryOp .Not a pos) (notT f) := et_not h
theorem zNotD {f : M D} (h : EvD X W T a f) : EvD X W T (.UnaryOp .Not a pos) (notD f) := ev_not h
theorem zNeg {f : M D} (h : EvD X W T a f) : EvD X W T (.UnaryOp .USub a pos) (negM f) := ev_neg h
theorem zSub {f g : M D} (hu : X.A.units + 1 < cLine) (ha : EvD X W T a f) (hb : EvD X W T b g) (hs : PlainIx b) : EvD X W T (.Subscript a b pos) (subM f g) := ev_sub hu ha hb hs
theorem zSl {f : M D} {lo hi : Option Expr} {gl gh : M (Option Int)} {p2 : Pos} (ha : EvD X W T a f) (hl : EvP X W T lo gl) (hh : EvP X W T hi gh) : EvO X W T (.Subscript a (.Slice lo hi none p2) pos) (slM f gl gh) := eo_sl ha hl hh
theorem zOpt {f : M D} (h : EvD X W T a f) : EvP X W T (some a) (optM f) := ep_some h
theorem zNo : EvP X W T none noM := ep_none
theorem zRev {f : M D} {k : Nat} {p1 p2 p3 : Pos} (he : EvD X W T e f) : EvO X W T (.Subscript e (.Slice none none (some (.UnaryOp .USub (.Constant (.int 1) k p1) p2)) p3) pos) (revM f) := eo_rev he
theorem zNil : EvA X W T [] nilM := ea_nil
theorem zCons {f : M D} {g : M (List D)} (ha : EvD X W T a f) (hr : EvA X W T es g) (hs : starEach (a :: es) X.env = (false, eval a X.env) :: starEach es X.env) : EvA X W T (a :: es) (consM f g) := ea_cons ha hr hs
theorem zTup {k : Nat} {f : M (List D)} (h : EvA X W T es f) : EvD X W T (.Tuple es k pos) (tupM f) := ev_tup h
theorem zLst {f : M (List D)} (h : EvA X W T es f) : EvO X W T (.List es pos) (lstM f) := eo_lst h
theorem zDic : EvO X W T (.Dict [] [] pos) dicM := eo_dic0
theorem zIs {f : M D} {tn : String} (h : Blt X x (.builtin "isinstance")) (hn : Blt X n (.type tn)) (ok : KitOk tn) (ha : EvD X W T e f) (hs : starEach [e, .Name n q] X.env = (false, eval e X.env) :: starEach [.Name n q] X.env) : EvD X W T (.Call (.Name x p) [e, .Name n q] [] pos) (isM tn f) := ev_isi h hn ok ha hs
theorem zFnD {bid : String} {r : List V → Hp → VK → Prop} {g : List D → Option D} {f : M (List D)} (h : Blt X x (.builtin bid)) (hc : CallR X (.builtin bid) r) (hv : CallV X T r (datO g)) (ha : EvA X W T (e :: es) f)
    (he : starEach (e :: es) X.env = (false, eval e X.env) :: starEach es X.env) (hpl : (backTo pos (starEach es X.env)).any (·.1) = false) : EvD X W T (.Call (.Name x p) (e :: es) [] pos) (fnD g f) := ev_fun h hc hv ha he hpl
theorem zFnO {bid : String} {r : List V → Hp → VK → Prop} {g : List D → Option O} {f : M (List D)} (h : Blt X x (.builtin bid)) (hc : CallR X (.builtin bid) r) (hv : CallV X T r g) (ha : EvA X W T (e :: es) f)
    (he : starEach (e :: es) X.env = (false, eval e X.env) :: starEach es X.env) (hpl : (backTo pos (starEach es X.env)).any (·.1) = false) : EvO X W T (.Call (.Name x p) (e :: es) [] pos) (fnO g f) := eo_fun h hc hv ha he hpl
theorem zTyD {bid : String} {r : List V → Hp → VK → Prop} {g : List D → Option D} {f : M (List D)} (h : Blt X x (.type bid)) (hc : CallR X (.type bid) r) (hv : CallV X T r (datO g)) (ha : EvA X W T (e :: es) f)
    (he : starEach (e :: es) X.env = (false, eval e X.env) :: starEach es X.env) (hpl : (backTo pos (starEach es X.env)).any (·.1) = false) : EvD X W T (.Call (.Name x p) (e :: es) [] pos) (fnD g f) := ev_ty h hc hv ha he hpl
theorem zTyO {bid : String} {r : List V → Hp → VK → Prop} {g : List D → Option O} {f : M (List D)} (h : Blt X x (.type bid)) (hc : CallR X (.type bid) r) (hv : CallV X T r g) (ha : EvA X W T (e :: es) f)
    (he : starEach (e :: es) X.env = (false, eval e X.env) :: starEach es X.env) (hpl : (backTo pos (starEach es X.env)).any (·.1) = false) : EvO X W T (.Call (.Name x p) (e :: es) [] pos) (fnO g f) := eo_ty h hc hv ha he hpl
theorem zSeq {tg : Expr} {f : M D} (he : EvD X W T e f) : EvI X W T tg e (seqI f) := ei_seq he
theorem zRet {f : M O} (h : EvO X W T e f) : EvS X W T io (.Return (some e) pos) (retO f) := es_ret h
theorem zRetD {f : M D} (h : EvD X W T e f) : EvS X W T io (.Return (some e) pos) (retD f) := es_retD h
theorem zRetV {i : Nat} (h : PE X e (tVar i)) : EvS X W T io (.Return (some e) pos) (retV i) := es_retV h
theorem zRetN : EvS X W T io (.Return none pos) retN := es_retN
theorem zPass : EvS X W T io (.Pass pos) nxM := es_pass
theorem zBreak : EvS X W T io (.Break pos) bkM := es_break
theorem zCont : EvS X W T io (.Continue pos) ctnM := es_cont
theorem zExprD {f : M D} (he : EvD X W T e f) (hs : swapsWith e none pos.line X.env = pure false) : EvS X W T io (.Expr e pos) (exprD f) := es_expr he hs
theorem zExprO {f : M O} (he : EvO X W T e f) (hs : swapsWith e none pos.line X.env = pure false) : EvS X W T io (.Expr e pos) (exprO f) := es_exprO he hs
theorem zSet {i : Nat} {f : M O} (he : EvO X W T e f) (hio : i ∉ io) (hN : X.N.Nodup) (hi : X.N[i]? = some x) (hx : Loc X.env.scope x) (hs : swapsWith e (some (.Name x pos')) pos.line X.env = pure false) (hf : X.fn x = true ∨ X.env.scope.names.lookup x = some .local) :
    EvS X W T io (.Assign [.Name x pos'] e pos) (setO i f) := es_set hio hN hi hx he hs hf
theorem zSetD {i : Nat} {f : M D} (he : EvD X W T e f) (hio : i ∉ io) (hN : X.N.Nodup) (hi : X.N[i]? = some x) (hx : Loc X.env.scope x) (hs : swapsWith e (some (.Name x pos')) pos.line X.env = pure false) (hf : X.fn x = true ∨ X.env.scope.names.lookup x = some .local) :
    EvS X W T io (.Assign [.Name x pos'] e pos) (setD i f) := es_setD hio hN hi hx he hs hf
theorem zAsg {tg : Expr} {ts : List Nat} {g : G} {f : M D} (he : EvD X W T e f) (hg : EvG X T tg ts g) (hio : ∀ x ∈ ts, x ∉ io) (hs : swapsWithSole [tg] e pos.line X.env = pure false) (hw : swappedStores [tg] e X.env = pure none)
    (h1 : (assignEach [tg] X.env).map (·.2) = [assign tg X.env]) : EvS X W T io (.Assign [tg] e pos) (asgD g f) := es_asg hio he hg hs hw h1
theorem zFor {tg iter : Expr} {body : List Stmt} {ts : List Nat} {fi : M (List D)} {g : G} {fb : M Fl} (hi : EvI X W T tg iter fi) (hg : EvG X T tg ts g) (hb : EvSs X W T io body fb) (hp : PassesOwn (model X.prog X.w) X.A X.env X.xe) (hc : X.calm = true) (hio : ∀ x ∈ ts, x ∉ io)
    (hs : ∀ x, foldedSetIterable iter X.env x = pure x) : EvS X W T io (.For tg iter body [] pos) (forM' g fi fb) := es_for hp hc hio hi hg hb hs
theorem zNilO : EvAO X W T [] nilO := eao_nil
end
/-! ### what the head tells -/
theorem hu64 {X : Cx} {k : Nat} (hr : Room k X.A) : X.A.units + 64 < cLine := by have := hr.un; omega
theorem hu1 {X : Cx} {k : Nat} (hr : Room k X.A) : X.A.units + 1 < cLine := by have := hr.un; omega
section
variable {X : Cx}
theorem b_len (hg : Gl X "len") (hm : X.mg "len" = none) : Blt X "len" (.builtin "len") := ⟨hg, hm, boot_len, by decide, by decide⟩
theorem b_all (hg : Gl X "all") (hm : X.mg "all" = none) : Blt X "all" (.builtin "all") := ⟨hg, hm, boot_all, by decide, by decide⟩
theorem b_any (hg : Gl X "any") (hm : X.mg "any" = none) : Blt X "any" (.builtin "any") := ⟨hg, hm, boot_any, by decide, by decide⟩
theorem b_sum (hg : Gl X "sum") (hm : X.mg "sum" = none) : Blt X "sum" (.builtin "sum") := ⟨hg, hm, boot_sum, by decide, by decide⟩
theorem b_abs (hg : Gl X "abs") (hm : X.mg "abs" = none) : Blt X "abs" (.builtin "abs") := ⟨hg, hm, boot_abs, by decide, by decide⟩
theorem b_repr (hg : Gl X "repr") (hm : X.mg "repr" = none) : Blt X "repr" (.builtin "repr") := ⟨hg, hm, boot_repr, by decide, by decide⟩
theorem b_min (hg : Gl X "min") (hm : X.mg "min" = none) : Blt X "min" (.builtin "min") := ⟨hg, hm, boot_min, by decide, by decide⟩
theorem b_sorted (hg : Gl X "sorted") (hm : X.mg "sorted" = none) : Blt X "sorted" (.builtin "sorted") := ⟨hg, hm, boot_sorted, by decide, by decide⟩
theorem b_isinstance (hg : Gl X "isinstance") (hm : X.mg "isinstance" = none) : Blt X "isinstance" (.builtin "isinstance") := ⟨hg, hm, boot_isinstance, by decide, by decide⟩
theorem b_int (hg : Gl X "int") (hm : X.mg "int" = none) : Blt X "int" (.type "int") := ⟨hg, hm, boot_int, by decide, by decide⟩
theorem b_bool (hg : Gl X "bool") (hm : X.mg "bool" = none) : Blt X "bool" (.type "bool") := ⟨hg, hm, boot_bool, by decide, by decide⟩
theorem b_str (hg : Gl X "str") (hm : X.mg "str" = none) : Blt X "str" (.type "str") := ⟨hg, hm, boot_str, by decide, by decide⟩
theorem b_tuple (hg : Gl X "tuple") (hm : X.mg "tuple" = none) : Blt X "tuple" (.type "tuple") := ⟨hg, hm, boot_tuple, by decide, by decide⟩
theorem b_list (hg : Gl X "list") (hm : X.mg "list" = none) : Blt X "list" (.type "list") := ⟨hg, hm, boot_list, by decide, by decide⟩
theorem b_dict (hg : Gl X "dict") (hm : X.mg "dict" = none) : Blt X "dict" (.type "dict") := ⟨hg, hm, boot_dict, by decide, by decide⟩
theorem b_zip (hg : Gl X "zip") (hm : X.mg "zip" = none) : Blt X "zip" (.type "zip") := ⟨hg, hm, boot_zip, by decide, by decide⟩
theorem b_range (hg : Gl X "range") (hm : X.mg "range" = none) : Blt X "range" (.type "range") := ⟨hg, hm, boot_range, by decide, by decide⟩
end
/-- a def of the module -/
structure DefG (P : Program) (w : World) (K : PySem.W.Frag) (mg : Str → Option Value) (base : Heap) (T : List (Addr × Str)) (x : Str) (k : Nat) (io : List Nat) (n : Nat) (g : Fn) : Prop where
  ex : ∃ f fd ps, FnOk P w K mg base (L2.CX P w) k f fd ps (SpG K T io n g) ∧ mg x = some (.ref f) ∧ PySem.W.keepIn K (.ref f) = true ∧ L2.Binds K fd ps []
theorem DefG.on {X : Cx} {T : List (Addr × Str)} {x : Str} {k k' : Nat} {io : List Nat} {n : Nat} {g : Fn} (h : DefG X.prog X.w X.K X.mg X.base T x k io n g) (hr : Room k' X.A) (hk : k ≤ k') (hg : Gl X x) (hdb : (x == ("__debug__" : Str)) = false) : Def X T x k io n g := by
  obtain ⟨f, fd, ps, F, hm, hkeep, hb⟩ := h.ex
  exact def_of F (hr.mono hk) hg hm hkeep hb hdb
section
variable {P : Program} {w : World} {K : PySem.W.Frag} {mg : Str → Option Value} {base : Heap} {T : List (Addr × Str)} {x : Str} {k : Nat} {io : List Nat} {g : Fn}
theorem DefG.mk' {n m : Nat} {f : Addr} {fd : FuncData} {qual : Str} {params : Arguments} {body : List Stmt} {scope : Scope} {N ps : List Str} {fb : M Fl} (F : FunD K x qual params body scope [] [] f fd) (S : FnScope N ps scope) (hm : mg x = some (.ref f))
    (hbind : ∀ (kV doc pm : Value) (an : Option Addr) (cdv ct : Value) (us : List Value), us.length = ps.length → bindArgs (PySem.W.fnOf x qual params body scope .none kV doc pm an cdv ct) ⟨us, []⟩ = pure (ps.zip us)) (hn : ps.length = n) (hm2 : N.length = m)
    (hbody : ∀ (cdv : Value) (A : Around) (outer : List PySem.Env) (s : Shared) (H : Hp) (E : XK), Room k (A.deeper (envOfC qual scope s.heap.objs.size f cdv)) →
      Takes (cxOf (L2.CX P w) P w K mg base N qual scope f cdv A outer s H E) (fun c d _ H => E c d H) → EvSs (cxOf (L2.CX P w) P w K mg base N qual scope f cdv A outer s H E) (fun c d _ H => E c d H) T io body fb) :
    DefG P w K mg base T x (k + 1) io n (runM fb m) := by
  have hb := F.bindsN hbind
  have kp := F.kp
  obtain ⟨oc, od, dV, kV, doc, pm, an, cdv, ct, osl, e, lk, hcd, hd, hkw⟩ := F.ex
  subst e
  subst hn
  subst hm2
  exact ⟨f, _, ps, fnG lk hcd S fun A outer s H E hr tk => hbody cdv A outer s H E hr tk, hm, kp, hb⟩
end
end Sh
set_option Elab.async false
set_option linter.all false
set_option maxRecDepth 100000
set_option maxHeartbeats 2000000
/-! Sh, part AD: x = {..} on one line. -/
namespace Sh
open PySem PySem.Spec PyProof.Rows L2
section
variable {X : Cx} {W : WX} {T : List (Addr × Str)} {io : List Nat}
theorem ps_setDc {i : Nat} {y : Str} {py pos spos : Pos} {kx vx tg iter : Expr} {ifs : List Expr} {scope : Scope} {own : List (Str × Nat)} {wi : TI} {g : TG} {tt : TT} {tk tv : TE} (hc : X.calm = true) (hN : X.N.Nodup) (hy : X.N[i]? = some y) (hyl : X.env.scope.names.lookup y = some .local)
    (hsw : swapsWith (.DictComp kx vx [⟨tg, iter, ifs, 0⟩] scope pos) (some (.Name y py)) spos.line X.env = pure true) (hi : PI X tg iter wi) (ok : BlkOk X.N X.env.scope scope own)
    (hg : ∀ (s : Shared) (H : Hp) (C : Addr) (cl : List (Str × Addr)) (fp : List Addr), PG (X.blk s H scope (compEnvC scope cl C X.env) fp) tg g)
    (ht : ∀ (s : Shared) (H : Hp) (C : Addr) (cl : List (Str × Addr)) (fp : List Addr), PTs (X.blk s H scope (compEnvC scope cl C X.env) fp) ifs tt)
    (hk : ∀ (s : Shared) (H : Hp) (C : Addr) (cl : List (Str × Addr)) (fp : List Addr), PE (X.blk s H scope (compEnvC scope cl C X.env) fp) kx tk)
    (hv : ∀ (s : Shared) (H : Hp) (C : Addr) (cl : List (Str × Addr)) (fp : List Addr), PE (X.blk s H scope (compEnvC scope cl C X.env) fp) vx tv)
    (hs : ∀ x, foldedSetIterable iter X.env x = pure x) : PS X (.Assign [.Name y py] (.DictComp kx vx [⟨tg, iter, ifs, 0⟩] scope pos) spos) (tAsg (tDc wi g tt tk tv (own.map (·.2))) (gName i)) := by
  constructor
  intro pins s σ H Ds I hd
  rw [exec_Assign_Name_used _ _ _ _ hsw]
  refine wpAny_bind (wpAny_standAt (wpAny_bind ?_))
  show wpAny _ X.A (do let _ ← comprehension (.DictComp kx vx [⟨tg, iter, ifs, 0⟩] scope pos) scope X.env (firstIterPos [⟨tg, iter, ifs, 0⟩] pos) newDict false (eval iter X.env) (some (assign (.Name y py) X.env))) _ _ s
  have hd : tDc wi g tt tk tv (own.map (·.2)) σ H (fun x H1 => gName i x σ H1 Ds.nx) := hd
  have core := dc_core (Qf := fun _ s' => SP X pins Ds .next s') (use := some (assign (.Name y py) X.env)) (pos' := firstIterPos [⟨tg, iter, ifs, 0⟩] pos) (kx := kx) (vx := vx) (pos := pos) hc hN I hi ok hg ht hk hv hs hd fun L C s' m H' I' q hn f => by
    obtain ⟨f0, f1, f2, f3, f4, f5⟩ := f
    show wpAny _ _ (assign (.Name y py) X.env (.ref L)) _ _ _
    refine wpAny_assign_Name (store_ok2 (v := V.ref L) I' hN hy (.inl hyl) rfl (fun s2 I2 ⟨a, sb, ha⟩ => ?_) (.inr hyl))
    have apart : C ≠ a := fun e => ha.elim (fun z => f1 (e.trans z)) fun z => f4 y a z e.symm
    exact ⟨m, hn.sameBut sb apart, fun h3 sb3 => ⟨_, H', I2.turned (t' := s2.toks) (fun b o hb e => (sb3.2 b hb).trans e) f0 f1 f3 f4 f5, q⟩⟩
  exact wpAny_bind (thn core fun _ s' hq => wpAny_pure (wpAny_pure hq))
theorem es_setDc {i : Nat} {y : Str} {py pos spos : Pos} {kx vx tg iter : Expr} {ifs : List Expr} {scope : Scope} {own : List (Str × Nat)} {ts : List Nat} {o0 : O} {fi : M (List D)} {g : G} {ft : M Bool} {fk : M D} {fv : M O} (hio : i ∉ io) (hc : X.calm = true) (hN : X.N.Nodup) (hy : X.N[i]? = some y) (hyl : X.env.scope.names.lookup y = some .local)
    (hsw : swapsWith (.DictComp kx vx [⟨tg, iter, ifs, 0⟩] scope pos) (some (.Name y py)) spos.line X.env = pure true) (hi : EvI X W T tg iter fi) (ok : BlkOk X.N X.env.scope scope own) (hts : ∀ x ∈ ts, x ∈ own.map (·.2))
    (hg : ∀ (s : Shared) (H : Hp) (C : Addr) (cl : List (Str × Addr)) (fp : List Addr), EvG (X.blk s H scope (compEnvC scope cl C X.env) fp) T tg ts g)
    (ht : ∀ (s : Shared) (H : Hp) (C : Addr) (cl : List (Str × Addr)) (fp : List Addr), EvTs (X.blk s H scope (compEnvC scope cl C X.env) fp) W0 T ifs ft)
    (hk : ∀ (s : Shared) (H : Hp) (C : Addr) (cl : List (Str × Addr)) (fp : List Addr), EvD (X.blk s H scope (compEnvC scope cl C X.env) fp) W0 T kx fk)
    (hv : ∀ (s : Shared) (H : Hp) (C : Addr) (cl : List (Str × Addr)) (fp : List Addr), EvO (X.blk s H scope (compEnvC scope cl C X.env) fp) W0 T vx fv)
    (hs : ∀ x, foldedSetIterable iter X.env x = pure x) : EvS X W T io (.Assign [.Name y py] (.DictComp kx vx [⟨tg, iter, ifs, 0⟩] scope pos) spos) (setO i (dcM (own.map (·.2)) o0 fi g ft fk fv)) := by
  refine ⟨PS.imp (ps_setDc (g := tG X T ts g) (tt := tT X W0 T ft) (tk := tD X W0 T fk) (tv := tO X W0 T fv) hc hN hy hyl hsw hi.pi ok (fun s H C cl fp => (hg s H C cl fp).pg) (fun s H C cl fp => (ht s H C cl fp).pts) (fun s H C cl fp => (hk s H C cl fp).pe) (fun s H C cl fp => (hv s H C cl fp).pe) hs) fun D σ H ⟨w, ρ, eH, c, co⟩ => ?_⟩
  subst eH
  refine dc_main hts ⟨w, ρ, rfl, c, co.bindE.mono fun o ρ1 w1 l1 c1 k v fp r ap nw => ?_⟩
  exact k.set hio l1 c1 r ap nw
/-! ### recursion: no fuel, no promise -/
theorem DefG.zero {P : Program} {w : World} {K : PySem.W.Frag} {mg : Str → Option Value} {base : Heap} {T : List (Addr × Str)} {x : Str} {k : Nat} {io : List Nat} {n : Nat} {f : Addr} {fd : FuncData} {qual : Str} {params : Arguments} {body : List Stmt} {scope : Scope} {ps : List Str} (F : FunD K x qual params body scope [] [] f fd) (hm : mg x = some (.ref f))
    (hbind : ∀ (kV doc pm : Value) (an : Option Addr) (cdv ct : Value) (us : List Value), us.length = ps.length → bindArgs (PySem.W.fnOf x qual params body scope .none kV doc pm an cdv ct) ⟨us, []⟩ = pure (ps.zip us)) : DefG P w K mg base T x k io n fun _ => none := by
  refine ⟨f, fd, ps, ⟨fun vs H Q E h => ?_, fun A outer s H args us vs Q E _ _ _ _ h => ?_⟩, hm, F.kp, F.bindsN hbind⟩
  · obtain ⟨_, _, _, _, _, _, _, h, _⟩ := h
    cases h
  · obtain ⟨_, _, _, _, _, _, _, h, _⟩ := h
    cases h
end
end Sh
set_option Elab.async false
set_option linter.all false
set_option maxRecDepth 100000
set_option maxHeartbeats 2000000
/-! Sh, part AE: own classes of exceptions from the head; what a lambda's call says. -/
namespace Sh
open PySem PySem.Spec PyProof.Rows L2
/-! ### a class of exceptions over ValueError, in K -/
def oexB (K : PySem.W.Frag) (C : Addr) : Bool := (match K.lookup C with
  | some ⟨.type "type", _, .cls d, sl⟩ => (match d.mro, sl.toList with
    | .ref C2 :: more, [_, _, _, _, some (.builtin nw), _] => decide (C2 = C) && (decide (nw = "ValueError.__new__") && (!d.hasDel && (d.hasDict && PySem.HandSPX.refsVE more)))
    | _, _ => false)
  | _ => false) && (He.eqO (PySem.W.findIn K (.ref C) "__setattr__") (some (some (.builtin "object.__setattr__"))) && (decide (PySem.W.subIn K (.ref C) (.type "BaseException") = some true) &&
    (decide (PySem.W.typeIn K (.ref C) = some (.type "type")) && PySem.W.keepIn K (.ref C))))
theorem oexB_ok {K : PySem.W.Frag} {C : Addr} (h : oexB K C = true) : OexC K C := by
  unfold oexB at h
  obtain ⟨h1, h⟩ := He.ba h
  obtain ⟨h2, h⟩ := He.ba h
  obtain ⟨h3, h⟩ := He.ba h
  obtain ⟨h4, h5⟩ := He.ba h
  refine ⟨?_, He.eqO_ok h2, of_decide_eq_true h3, of_decide_eq_true h4, h5⟩
  split at h1
  · rename_i dd d sl el
    split at h1
    · rename_i C2 more k0 k1 k2 k3 nw k5 em es
      obtain ⟨g1, h1⟩ := He.ba h1
      obtain ⟨g2, h1⟩ := He.ba h1
      obtain ⟨g3, h1⟩ := He.ba h1
      obtain ⟨g4, g5⟩ := He.ba h1
      obtain ⟨a1, a2, a3, a4, a5, a6, a7, a8, a9, a10, a11⟩ := d
      obtain ⟨sll⟩ := sl
      have e1 : C2 = C := of_decide_eq_true g1
      have e2 : nw = "ValueError.__new__" := of_decide_eq_true g2
      have e3 : a11 = false := by simpa using g3
      have e4 : a6 = true := g4
      have e5 : a3 = .ref C2 :: more := em
      have e6 : sll = [k0, k1, k2, k3, some (.builtin nw), k5] := es
      rw [e1] at e5
      rw [e2] at e6
      rw [e3, e4, e5, e6] at el
      exact ⟨a1, a5, a4, a2, more, a7, a8, a9, a10, dd, k0, k1, k2, k3, k5, el, g5⟩
    · cases h1
  · cases h1
/-- the class x, its own __init__ -/
structure ExF (K : PySem.W.Frag) (mg : Str → Option Value) (x : Str) (fI : Addr) : Prop where
  ex : OexC K (He.ga K x)
  ini : PySem.W.findIn K (.ref (He.ga K x)) "__init__" = some (some (.ref fI))
  ty : PySem.W.typeIn K (.ref fI) = some (.type "function")
  at_ : mg x = some (.ref (He.ga K x))
def exfB (K : PySem.W.Frag) (x : Str) : Bool := oexB K (He.ga K x) && (He.eqO (PySem.W.findIn K (.ref (He.ga K x)) "__init__") (some (some (.ref (He.ma K (He.ga K x) "__init__")))) && (decide (PySem.W.typeIn K (.ref (He.ma K (He.ga K x) "__init__")) = some (.type "function")) &&
  He.eqO (PySem.W.nsIn K mainGlobals x) (some (some (.ref (He.ga K x))))))
theorem exfB_ok {K : PySem.W.Frag} {mg : Str → Option Value} {h : Heap} {x : Str} (X : K.In h) (G : h.Ns mainGlobals mg) (e : exfB K x = true) : ExF K mg x (He.ma K (He.ga K x) "__init__") := by
  obtain ⟨h1, e⟩ := He.ba e
  obtain ⟨h2, e⟩ := He.ba e
  obtain ⟨h3, h4⟩ := He.ba e
  exact ⟨oexB_ok h1, He.eqO_ok h2, of_decide_eq_true h3, PySem.W.mg_of X G (He.eqO_ok h4)⟩
/-- the class above, whose __init__ is ValueError's -/
def supB (K : PySem.W.Frag) (x : Str) : Bool := He.eqO (PySem.W.nsIn K mainGlobals x) (some (some (.ref (He.ga K x)))) && (He.eqO (PySem.W.specialIn K (.ref (He.ga K x)) "__getattribute__") (some (some (.builtin "type.__getattribute__"))) && (PySem.W.readsIn K (He.ga K x) (.type "type") &&
  (match PySem.W.findCls K (.ref (He.ga K x)) (.type "type") "__init__" with
    | some (.val (.builtin b)) => decide (b = "ValueError.__init__")
    | _ => false)))
structure SupF (K : PySem.W.Frag) (mg : Str → Option Value) (x : Str) : Prop where
  at_ : mg x = some (.ref (He.ga K x))
  gt : PySem.W.specialIn K (.ref (He.ga K x)) "__getattribute__" = some (some (.builtin "type.__getattribute__"))
  rd : PySem.W.readsIn K (He.ga K x) (.type "type") = true
  ini : PySem.W.findCls K (.ref (He.ga K x)) (.type "type") "__init__" = some (.val (.builtin "ValueError.__init__"))
theorem supB_ok {K : PySem.W.Frag} {mg : Str → Option Value} {h : Heap} {x : Str} (X : K.In h) (G : h.Ns mainGlobals mg) (e : supB K x = true) : SupF K mg x := by
  obtain ⟨h1, e⟩ := He.ba e
  obtain ⟨h2, e⟩ := He.ba e
  obtain ⟨h3, h4⟩ := He.ba e
  refine ⟨PySem.W.mg_of X G (He.eqO_ok h1), He.eqO_ok h2, h3, ?_⟩
  split at h4
  · rename_i b eb
    rw [eb, show b = "ValueError.__init__" from of_decide_eq_true h4]
  · cases h4
end Sh
set_option Elab.async false
set_option linter.all false
set_option maxRecDepth 100000
set_option maxHeartbeats 2000000
/-! Sh, part AF: a def that calls the lambda it gets and tells by a word what came: told, or which class was caught. -/
namespace Sh
open PySem PySem.Spec PyProof.Rows L2
/-- the tables of code change, nothing else -/
theorem Cs.extN {K : PySem.W.Frag} {T : List (Addr × Str)} {σ : L2.St} {ρ : Env} {w : Wl} (c : Cs K T σ ρ w) {H1 : Hp} (e : LamX.ExtN w.H H1) (t : LamX.Tabs T H1) : Cs K T σ ρ ⟨w.F, H1, w.fp⟩ ∧ Lw w ⟨w.F, H1, w.fp⟩ := by
  refine ⟨⟨c.len, fun i o eo => ?_, c.no, c.sep, fun a u r => ?_, t⟩, ⟨fun b u eb _ nt => e b u eb nt, fun b o u eb => e b _ eb (fun ps z => by cases z), fun b v => ?_, fun _ _ z => z, fun b z => .inl z, fun b z => .inl z⟩⟩
  · obtain ⟨v, h1, h2⟩ := c.sl i o eo
    refine ⟨v, h1, h2.frame (fun _ _ z => z) (fun a o u ea => e a _ ea fun ps z => by cases z) fun a z => ⟨?_, (h2.at a z).1⟩⟩
    have own := (h2.at a z).2
    cases q : w.H a with
    | none => rw [q] at own; exact own.elim
    | some u => exact e a u q (own1_tbl own u q)
  · rcases c.le a u r with ⟨h1, h2⟩ | ⟨o, kvs, h1, h2⟩
    · exact .inl ⟨e a u h1 h2, h2⟩
    · exact .inr ⟨o, kvs, h1, e a _ h2 fun ps z => by cases z⟩
  · cases q : w.H b with
    | none => exact .inl rfl
    | some u =>
      by_cases hu : ∃ ps, u = .tbl ps
      · obtain ⟨ps, rfl⟩ := hu
        exact .inr ⟨ps, rfl⟩
      · have nt : ∀ ps, u ≠ .tbl ps := fun ps z => hu ⟨ps, z⟩
        exact (Voi.no v (e b u q nt) nt).elim
/-- what the clauses tell of a class -/
def pick (K : PySem.W.Frag) : List (Addr × Str) → Value → Hp → VK → Prop
  | [], _, _, _ => False
  | (C, s) :: r, cls, H, Q => ∃ b, PySem.W.exmOne K cls (.ref C) = some b ∧ (b = true → Q (.str s) H) ∧ (b = false → pick K r cls H Q)
def TSaid (K : PySem.W.Frag) (hs : List (Addr × Str)) (told : Str) : (XK → Hp → VK → Prop) → Hp → VK → Prop := fun tl H Q => tl (fun cls _ H' => pick K hs cls H' Q) H fun _ H' => Q (.str told) H'
theorem PE.weak {X : Cx} {e : Expr} {te : TE} (h : PE X e te) : PE X e (fun σ H Q => ∃ Q', te σ H Q' ∧ ∀ v H', Q' v H' → Q v H') := ⟨fun pins s σ H Q I ⟨Q', h1, h2⟩ => thn (h.run pins s σ H Q' I h1) fun v s1 ⟨x, H1, I1, r, q⟩ => ⟨x, H1, I1, r, h2 _ _ q⟩⟩
theorem PSs.ofLen {X : Cx} {st : List Stmt} {t : TS} (h : PSs X st t) : PSs X st (fun D σ H => σ.length = X.N.length → t D σ H) := ⟨fun pins s σ H D I q => h.run pins s σ H D I (q I.len)⟩
abbrev tsOf (n : Nat) (s : Str) : Addr → Value → Option Addr → TS := fun _ _ _ D σ H => σ.length = n → tAsg (tC (.str s)) (gName 1) D σ H
theorem pick_many {K : PySem.W.Frag} {n : Nat} {Ds : Ends} {Q : VK} (hQ : ∀ (s : Str) (σ : L2.St) (H : Hp), σ.length = n → Q (.str s) H → Ds.nx (σ.set 1 (some (V.str s))) H) : ∀ {hs : List (Addr × Str)} {cls : Value} {d : Option Addr} {σ : L2.St} {H : Hp}, pick K hs cls H Q →
    wMany K (fun _ _ _ _ => False) Ds (hs.map fun q => (Value.ref q.1, tsOf n q.2)) cls d σ H
  | [], _, _, _, _, h => h
  | (C, s) :: r, cls, d, σ, H, h => by
    obtain ⟨b, e, h1, h2⟩ := h
    exact ⟨b, e, fun hb a _ hl => hQ s σ H hl (h1 hb), fun hb => pick_many hQ (h2 hb)⟩
theorem said_gives {X : Cx} {Ng : List Str} {x a fo q told : Str} {sg : Scope} {g : Addr} {cdg : Value} {hs : List (Addr × Str)} {h₀ : ExceptHandler} {hds : List ExceptHandler} {j : Nat} {p1 p2 p3 p4 p5 p6 p7 p8 p9 : Pos} (hN : Ng = [a, fo]) (hnd : Ng.Nodup) (hfo : sg.names.lookup fo = some .local)
    (hd1 : (fo == ("__debug__" : Str)) = false) (hd2 : (fo == ("__classdict__" : Str)) = false)
    (hh : ∀ s H, HdsOk (cxOf C8.CX0 X.prog X.w X.K X.mg X.base Ng x sg g cdg X.A X.stack s H C8.E0).nox (h₀ :: hds) (hs.map fun q => (Value.ref q.1, tsOf 2 q.2))) :
    LamX.GivesTo X Ng x sg g cdg [.Assign [.Name fo p1] (.Constant (.str told) j p2) p3, .Try [.Expr (.Call (.Name a p4) [] [] p5) p6] (h₀ :: hds) [] [] p7, .Return (some (.Name fo p8)) p9] a q (TSaid X.K hs told) := by
  subst hN
  intro f c' s H Q tl act hc h
  have hi : ([a, fo] : List Str)[1]? = some fo := rfl
  refine ⟨_, pss_cons (ps_set (X := (cxOf C8.CX0 X.prog X.w X.K X.mg X.base [a, fo] x sg g cdg X.A X.stack s H C8.E0).nox) (i := 1) hnd hi (.inl hfo) pe_str rfl (.inr hfo)) (pss_cons (ps_try_many (X := (cxOf C8.CX0 X.prog X.w X.K X.mg X.base [a, fo] x sg g cdg X.A X.stack s H C8.E0).nox)
    (tb := fun W D σ H => ∃ Ech : XK, (∀ cls d σ' H', Ech cls d H' → W cls d σ' H') ∧ σ[0]? = some (some (.ref f)) ∧ H c' = some (LamX.CodeO c' q) ∧ ∃ Q' : VK, tl Ech H Q' ∧ ∀ v H', Q' v H' → D.nx σ H') rfl rfl LamX.takes0 (fun W pn xe tk _ => ?_) (hh s H))
    (pss_one (ps_ret (pe_var (i := 1) hi (.inl hfo) hd1 hd2)))), ?_⟩
  · refine ⟨fun pins s' σ H' D I h' => ?_⟩
    obtain ⟨Ech, hW, h1, h2, Q', h3, h4⟩ := h'
    have hp := act W pn xe Ech p4 p5 tk hW
    exact (pss_one (ps_expr (pos := p6) (Sh.PE.weak hp))).run pins s' σ H' D I ⟨Q', ⟨h1, h2, h3⟩, h4⟩
  · refine ⟨fun cls _ H' => pick X.K hs cls H' Q, fun cls d σ' H' hp => pick_many (fun s σ H hl hq => ?_) hp, rfl, hc, _, h, fun v H' hq => ⟨_, rfl, hq⟩⟩
    obtain ⟨u, v, rfl⟩ : ∃ u v, σ = [u, v] := by
      match σ, hl with
      | u :: v :: [], _ => exact ⟨u, v, rfl⟩
    exact ⟨_, rfl, hq⟩
/-- the word for a class, by a table of who is under whom -/
def pickM (em : Str → Str → Option Bool) : List (Str × Str) → Str → Option Str
  | [], _ => none
  | (C, s) :: r, c => match em c C with
    | some true => some s
    | some false => pickM em r c
    | none => none
theorem pick_of {K : PySem.W.Frag} {em : Str → Str → Option Bool} (hem : ∀ c C b, em c C = some b → PySem.W.exmOne K (.ref (He.ga K c)) (.ref (He.ga K C)) = some b) {Q : VK} {H : Hp} {c s : Str} : ∀ {hs : List (Str × Str)}, pickM em hs c = some s → Q (.str s) H →
    pick K (hs.map fun q => (He.ga K q.1, q.2)) (.ref (He.ga K c)) H Q
  | (C, s') :: r, e, hq => by
    unfold pickM at e
    split at e
    · rename_i h
      cases e
      exact ⟨true, hem _ _ _ h, fun _ => hq, fun z => by cases z⟩
    · rename_i h
      exact ⟨false, hem _ _ _ h, (fun z => by cases z), fun _ => pick_of hem e hq⟩
    · cases e
def saidM (em : Str → Str → Option Bool) (hs : List (Str × Str)) (told : Str) (f : M O) : M D := fun ρ => match f ρ with
  | some (.ok _, ρ') => some (.ok (.str told), ρ')
  | some (.ex x, ρ') => (match pickM em hs x.cls with
    | some s => some (.ok (.str s), ρ')
    | none => none)
  | none => none
section
variable {X : Cx} {W : WX} {T : List (Addr × Str)}
theorem ev_said {x a told : Str} {g c P : Addr} {k : Nat} {pg : Arguments} {bg : List Stmt} {sg : Scope} {dV kV doc pm cdv ct oc : Value} {an od : Option Addr} {osl : Array (Option Value)} {Ng : List Str} {params : Arguments} {body : Expr} {scope : Scope} {p lpos pos : Pos} {em : Str → Str → Option Bool} {hs : List (Str × Str)} {fb : M O}
    (hg : Gl X x) (hm : X.mg x = some (.ref g)) (hk : PySem.W.keepIn X.K (.ref g) = true) (lk : X.K.lookup g = some ⟨oc, od, .func (PySem.W.fnOf x x pg bg sg dV kV doc pm an cdv ct), osl⟩) (hcg : PySem.W.codeIn X.K cdv x = true)
    (hb : L2.Binds X.K (PySem.W.fnOf x x pg bg sg dV kV doc pm an cdv ct) [a] []) (Sg : FnScope Ng [a] sg) (hNg : Ng[0]? = some a) (hva : Vis sg a) (hG : LamX.GivesTo X Ng x sg g cdv bg a (X.env.qual ++ "<lambda>") (TSaid X.K (hs.map fun q => (He.ga X.K q.1, q.2)) told))
    (TB : LamX.TabB X.base X.mg c P) (hcode : X.env.code = .ref c) (hmT : (P, X.env.qual ++ "<lambda>") ∈ T) (hu : ∀ p ∈ T, p.1 = P → p.2 = X.env.qual ++ "<lambda>") (hr : Room (k + 2) X.A) (L : LamX.LamS X.env.scope scope) (hdef : defaultsOf params X.env = ([], []))
    (hbind : ∀ (q : Str) (cl : List (Str × Addr)) (pm cv ctv : Value), bindArgs (PySem.W.kla_fn "<lambda>" q params body scope cl pm cv ctv) ⟨[], []⟩ = pure []) (hdb : (x == ("__debug__" : Str)) = false) (hd : (a == ("__debug__" : Str)) = false) (hcd : (a == ("__classdict__" : Str)) = false)
    (hem : ∀ c C b, em c C = some b → PySem.W.exmOne X.K (.ref (He.ga X.K c)) (.ref (He.ga X.K C)) = some b)
    (hbody : ∀ (A : Around) (outer : List PySem.Env) (s : Shared) (H : Hp) (E : XK) (f c' : Addr), Room k (A.deeper (LamX.lamEnv X scope s.heap.objs.size f c')) → EvO (LamX.lamCx X A outer s H E scope f c') (fun c d _ H => E c d H) T body fb) :
    EvD X W T (.Call (.Name x p) [.Lambda params body scope lpos] [] pos) (saidM em hs told fb) := by
  refine ⟨PE.imp (LamX.pe_lamcall (T := T) (TT := TSaid X.K (hs.map fun q => (He.ga X.K q.1, q.2)) told) (t := fun E σ H Q => ∃ (w : Wl) (ρ : Env), w.H = H ∧ Cs X.K T σ ρ w ∧ Co X (fun c d _ H => E c d H) T fb σ w ρ fun o _ w' => ∀ v fp, RpO X.K w'.F w'.H v o fp → Ap w' fp → Nw w fp → Q v w'.H)
    hg hm hk lk hcg hb Sg hNg hva hG TB hcode hmT hu hr L hdef hbind (fun A outer s H E f c' hr => ⟨fun pins s' σ H' Q I h => (hbody A outer s H E f c' hr).pe.run pins s' σ H' Q I h⟩) hdb hd hcd) fun σ H Q ⟨w, ρ, eH, cs, co⟩ => ?_⟩
  subst eH
  refine ⟨cs.tb, fun H1 e1 t1 => ?_⟩
  obtain ⟨cs1, l1⟩ := cs.extN e1 t1
  obtain ⟨r, ρ', er, h⟩ := co
  unfold saidM at er
  refine ⟨⟨w.F, H1, w.fp⟩, ρ, rfl, cs1, ?_⟩
  split at er
  · rename_i o ρ2 ef
    cases er
    exact ⟨.ok o, _, ef, fun w' l c' v fp rv ap nw => h w' (l1.trans l) c' (.str told) (.str _)⟩
  · rename_i xx ρ2 ef
    split at er
    · rename_i s ep
      cases er
      refine ⟨.ex xx, _, ef, fun w' cc dd l c' hx => ?_⟩
      rw [hx.1]
      exact pick_of hem ep (h w' (l1.trans l) c' (.str s) (.str _))
    · cases er
  · cases er
end
end Sh
set_option Elab.async false
set_option linter.all false
set_option maxRecDepth 100000
set_option maxHeartbeats 2000000
/-! Sh, part AG: lambdas as printed texts use them. -/
namespace Sh
open PySem PySem.Spec PyProof.Rows L2
theorem lam_tk {X : Cx} {A : Around} {outer : List PySem.Env} {s : Shared} {H : Hp} {E : XK} {scope : Scope} {f c' : Addr} : Takes (LamX.lamCx X A outer s H E scope f c') (fun c d _ H => E c d H) :=
  takes_of rfl rfl rfl rfl
/-- a def of the module that makes lambdas: its code object is known -/
theorem DefG.mkL {P : Program} {w : World} {K : PySem.W.Frag} {mg : Str → Option Value} {base : Heap} {T : List (Addr × Str)} {x : Str} {k : Nat} {io : List Nat} {n m : Nat} {f : Addr} {fd : FuncData} {qual : Str} {params : Arguments} {body : List Stmt} {scope : Scope} {N ps : List Str} {fb : M Fl}
    (F : FunD K x qual params body scope [] [] f fd) (ef : f = He.ga K x) (S : FnScope N ps scope) (hm : mg x = some (.ref f))
    (hbind : ∀ (kV doc pm : Value) (an : Option Addr) (cdv ct : Value) (us : List Value), us.length = ps.length → bindArgs (PySem.W.fnOf x qual params body scope .none kV doc pm an cdv ct) ⟨us, []⟩ = pure (ps.zip us)) (hn : ps.length = n) (hm2 : N.length = m)
    (hbody : ∀ (A : Around) (outer : List PySem.Env) (s : Shared) (H : Hp) (E : XK), Room k (A.deeper (envOfC qual scope s.heap.objs.size f (.ref (He.codeOf K (x, none))))) →
      Takes (cxOf (L2.CX P w) P w K mg base N qual scope f (.ref (He.codeOf K (x, none))) A outer s H E) (fun c d _ H => E c d H) → EvSs (cxOf (L2.CX P w) P w K mg base N qual scope f (.ref (He.codeOf K (x, none))) A outer s H E) (fun c d _ H => E c d H) T io body fb) :
    DefG P w K mg base T x (k + 1) io n (runM fb m) := by
  have hb := F.bindsN hbind
  have kp := F.kp
  obtain ⟨oc, od, dV, kV, doc, pm, an, cdv, ct, osl, e, lk, hcd, hd, hkw⟩ := F.ex
  subst e
  subst hn
  subst hm2
  subst ef
  obtain ⟨c, ec⟩ := He.codeIn_ref hcd
  subst ec
  have hc := He.codeOf_eq (p := (x, none)) lk rfl
  rw [← hc] at lk hcd hb
  exact ⟨_, _, ps, fnG lk hcd S fun A outer s H E hr tk => hbody A outer s H E hr tk, hm, kp, hb⟩
/-- x(lambda: ..), x by its text -/
theorem ev_saidF {X : Cx} {W : WX} {T : List (Addr × Str)} {x a fo told qn : Str} {g c P : Addr} {fd : FuncData} {k j : Nat} {pg : Arguments} {bg : List Stmt} {sg : Scope} {h₀ : ExceptHandler} {hds : List ExceptHandler} {p1 p2 p3 p4 p5 p6 p7 p8 p9 : Pos} {params : Arguments} {body : Expr} {scope : Scope} {p lpos pos : Pos}
    {em : Str → Str → Option Bool} {hs : List (Str × Str)} {fb : M O} (hg : Gl X x) (F : FunD X.K x x pg bg sg [] [] g fd) (hm : X.mg x = some (.ref g)) (Sg : FnScope [a, fo] [a] sg)
    (hbd : ∀ (kV doc pm : Value) (an : Option Addr) (cdv ct : Value) (us : List Value), us.length = 1 → bindArgs (PySem.W.fnOf x x pg bg sg .none kV doc pm an cdv ct) ⟨us, []⟩ = pure (([a] : List Str).zip us))
    (eb : bg = [.Assign [.Name fo p1] (.Constant (.str told) j p2) p3, .Try [.Expr (.Call (.Name a p4) [] [] p5) p6] (h₀ :: hds) [] [] p7, .Return (some (.Name fo p8)) p9]) (hfo : sg.names.lookup fo = some .local) (hva : Vis sg a)
    (hd : (a == ("__debug__" : Str)) = false) (hcd : (a == ("__classdict__" : Str)) = false) (hd1 : (fo == ("__debug__" : Str)) = false) (hd2 : (fo == ("__classdict__" : Str)) = false)
    (hh : ∀ cdv s H, HdsOk (cxOf C8.CX0 X.prog X.w X.K X.mg X.base [a, fo] x sg g cdv X.A X.stack s H C8.E0).nox (h₀ :: hds) ((hs.map fun q => (He.ga X.K q.1, q.2)).map fun q => (Value.ref q.1, tsOf 2 q.2)))
    (TB : LamX.TabB X.base X.mg c P) (hcode : X.env.code = .ref c) (hqn : X.env.qual = qn) (hmT : (P, qn ++ "<lambda>") ∈ T) (hu : ∀ p ∈ T, p.1 = P → p.2 = qn ++ "<lambda>") (hr : Room (k + 2) X.A) (L : LamX.LamS X.env.scope scope) (hdef : defaultsOf params X.env = ([], []))
    (hbind : ∀ (q : Str) (cl : List (Str × Addr)) (pm cv ctv : Value), bindArgs (PySem.W.kla_fn "<lambda>" q params body scope cl pm cv ctv) ⟨[], []⟩ = pure []) (hdb : (x == ("__debug__" : Str)) = false)
    (hem : ∀ c C b, em c C = some b → PySem.W.exmOne X.K (.ref (He.ga X.K c)) (.ref (He.ga X.K C)) = some b)
    (hbody : ∀ (A : Around) (outer : List PySem.Env) (s : Shared) (H : Hp) (E : XK) (f c' : Addr), Room k (A.deeper (LamX.lamEnv X scope s.heap.objs.size f c')) → EvO (LamX.lamCx X A outer s H E scope f c') (fun c d _ H => E c d H) T body fb) :
    EvD X W T (.Call (.Name x p) [.Lambda params body scope lpos] [] pos) (saidM em hs told fb) := by
  have hb := F.bindsN (ps := [a]) hbd
  have kp := F.kp
  obtain ⟨oc, od, dV, kV, doc, pm, an, cdv, ct, osl, e, lk, hci, _, _⟩ := F.ex
  subst e
  subst eb
  subst hqn
  exact ev_said hg hm kp lk hci hb Sg rfl hva (said_gives rfl Sg.nd hfo hd1 hd2 (hh cdv)) TB hcode hmT hu hr L hdef hbind hdb hd hcd hem hbody
/-! ### C() of an own class whose __init__ calls the class above -/
theorem pmk_ex {X : Cx} {x y qi : Str} {fI : Addr} {fdI : FuncData} {k : Nat} {pI : Arguments} {bI : List Stmt} {sI : Scope} {i1 i2 i3 i4 i5 p pos : Pos} (hx : ExF X.K X.mg x fI) (hy : SupF X.K X.mg y) (F : FunD X.K "__init__" qi pI bI sI [] [] fI fdI) (S : FnScope ["self"] ["self"] sI)
    (hbd : ∀ (kV doc pm : Value) (an : Option Addr) (cdv ct : Value) (us : List Value), us.length = 1 → bindArgs (PySem.W.fnOf "__init__" qi pI bI sI .none kV doc pm an cdv ct) ⟨us, []⟩ = pure ((["self"] : List Str).zip us))
    (eb : bI = [.Expr (.Call (.Attribute (.Name y i1) "__init__" i2) [.Name "self" i3] [] i4) i5]) (hgy : sI.names.lookup y = some .globalImplicit) (hself : sI.names.lookup ("self" : Str) = some .local) (hdy : (y == ("__debug__" : Str)) = false) (hdx : (x == ("__debug__" : Str)) = false)
    (hc : ∀ env : PySem.Env, eval (.Call (.Attribute (.Name y i1) "__init__" i2) [.Name "self" i3] [] i4) env = (do
      let ov ← eval (.Name y i1) env
      standAt i2.atName
      let (f, first) ← holding [ov] (getMethod ov "__init__" (plainOf (.Name y i1) env))
      callWith i4 f first (backTo i4 (starEach [.Name "self" i3] env)) (backToKw i4 (keywordEach [] env)))) (hg : Gl X x) (hr : Room k X.A) (hk : 3 ≤ k) : PMk X (.Call (.Name x p) [] [] pos) (fun _ H Q => Q (.ref (He.ga X.K x)) none H) := by
  subst eb
  have ok : FnOk X.prog X.w X.K X.mg X.base CX0 1 fI fdI ["self"] (SpI (He.ga X.K x)) := by
    refine F.ok S (fun vs H Q E h => ?_) fun cdv A outer s H vs Q E hr h => ?_
    · obtain ⟨a, rfl, _⟩ := h
      rfl
    · obtain ⟨a, e1, e2, e3⟩ := h
      subst e1
      refine ⟨_, PSs.nox (pss_one (ps_expr (pe_initC (X := (cxOf CX0 X.prog X.w X.K X.mg X.base ["self"] qi sI fI cdv A outer s H E).nox) hgy hy.at_ hdy hy.gt hy.rd hy.ini (pa_cons (pe_var (i := 0) rfl (.inl hself) (by decide) (by decide)) pa_nil rfl) (hc _) rfl rfl))), ?_⟩
      exact ⟨_, rfl, a, He.ga X.K x, [], rfl, Nat.zero_le _, hx.ex, e2, e3⟩
  exact pmk_ex0 hx.ex hx.ini hx.ty ok (hr.mono (by omega)) (F.bindsN (ps := ["self"]) hbd) pass0 hg hx.at_ hdx
def emOf (l : List ((Str × Str) × Bool)) (c C : Str) : Option Bool := (l.find? fun q => decide (q.1 = (c, C))).map (·.2)
def emB (K : PySem.W.Frag) (l : List ((Str × Str) × Bool)) : Bool := l.all fun q => decide (PySem.W.exmOne K (.ref (He.ga K q.1.1)) (.ref (He.ga K q.1.2)) = some q.2)
theorem em_of {K : PySem.W.Frag} {l : List ((Str × Str) × Bool)} (h : emB K l = true) (c C : Str) (b : Bool) (e : emOf l c C = some b) : PySem.W.exmOne K (.ref (He.ga K c)) (.ref (He.ga K C)) = some b := by
  unfold emOf at e
  obtain ⟨q, e1, e2⟩ := Option.map_eq_some_iff.mp e
  have h0 := List.find?_some e1
  have h1 : q.1 = (c, C) := of_decide_eq_true h0
  have h2 := of_decide_eq_true (List.all_eq_true.mp h q (List.mem_of_find?_eq_some e1))
  rw [h1] at h2
  rw [h2, e2]
/-- a class's i-th statement -/
def cMeth (s : Stmt) (i : Nat) : Stmt := match s with
  | .ClassDef _ _ _ b _ _ _ _ _ _ _ => b.getD i (.Pass ⟨0, 0, 0, 0⟩)
  | _ => .Pass ⟨0, 0, 0, 0⟩
end Sh
set_option Elab.async false
set_option linter.all false
set_option maxRecDepth 100000
set_option maxHeartbeats 2000000
/-! Sh, part AH: a Hook that also looks at the statics' namespace (a class's attribute is read by it). -/
namespace Sh
open PySem PySem.Spec PyProof.Rows L2
def asZ (g : Addr → Option Obj) (n : Nat) : List Addr := He.asD g n ++ [cStatics]
abbrev KZ (g : Addr → Option Obj) (n : Nat) : PySem.W.Frag := He.frT g (asZ g n)
def obsZ (n : Nat) (fa : List He.Fa) (fn : List He.DefD) (tf : List He.Defn) (ex : PySem.W.Frag → Bool) (g : Addr → Option Obj) : He.AlX := (He.obsT fa fn [] (KZ g n), ex (KZ g n) && He.tabsB g tf (KZ g n))
theorem saysZ {n : Nat} {fa : List He.Fa} {fn : List He.DefD} {tf : List He.Defn} {ex : PySem.W.Frag → Bool} {w : World} {h : Heap} (e : obsZ n fa fn tf ex h.get? = He.valX fn [] w) : He.SaysX fa fn [] tf ex w h (KZ h.get? n) := by
  have both := He.ba (congrArg (fun z : He.AlX => z.2) e : (ex (KZ h.get? n) && He.tabsB h.get? tf (KZ h.get? n)) = true)
  have tab : ∀ p ∈ tf, PySem.W.codeHdIn (KZ h.get? n) (He.cT (KZ h.get? n) p).1 (He.cT (KZ h.get? n) p).2 = true ∧ ∃ o, h.get? (He.cT (KZ h.get? n) p).2 = some o ∧ He.emptyTab o = true := by
    intro p hp
    obtain ⟨c1, c2⟩ := He.ba (List.all_eq_true.mp both.2 p hp)
    cases eo : h.get? (He.cT (KZ h.get? n) p).2 with
    | some o => rw [eo] at c2; exact ⟨c1, o, rfl, c2⟩
    | none => rw [eo] at c2; cases c2
  constructor
  · exact congrArg (fun z : He.AlX => z.1) e
  · exact both.1
  · exact fun p hp => (tab p hp).1
  · intro p hp
    obtain ⟨_, o, eo, et⟩ := tab p hp
    exact He.frT_none eo et
  · intro p hp
    obtain ⟨_, o, eo, et⟩ := tab p hp
    exact eo.trans (congrArg some (He.emptyTab_eq et))
def hookZ (n : Nat) (fa : List He.Fa) (fn : List He.DefD) (tf : List He.Defn) (ex : PySem.W.Frag → Bool) : PySem.W.Hook where
  α := He.AlX
  obs := fun s => obsZ n fa fn tf ex s.heap.get?
  val := fun w => He.valX fn [] w
  says := fun w h => ∃ K : PySem.W.Frag, K.In h ∧ He.SaysX fa fn [] tf ex w h K
  of := fun _ _ e => ⟨_, He.frT_in, saysZ e⟩
  keeps := fun _ _ _ ⟨K, k1, k2⟩ kk => ⟨K, PySem.W.Frag.In.keeps k1 kk, ⟨k2.t, k2.more, k2.hd, k2.out, fun p hp => kk _ _ (k2.empty p hp)⟩⟩
theorem obsZ_eq {n : Nat} {fa : List He.Fa} {fn : List He.DefD} {tf : List He.Defn} {ex : PySem.W.Frag → Bool} {g : Addr → Option Obj} {s : Shared} (h : ∀ a, g a = s.heap.get? a) : obsZ n fa fn tf ex g = (hookZ n fa fn tf ex).obs s := by
  obtain rfl : g = s.heap.get? := funext h
  rfl
/-- the law's def, its function object known -/
theorem fnOk_of {P : Program} {w : World} {K : PySem.W.Frag} {mg : Str → Option Value} {base : Heap} {T : List (Addr × Str)} {x : Str} {k n m : Nat} {io : List Nat} {f : Addr} {fd : FuncData} {qual : Str} {params : Arguments} {body : List Stmt} {scope : Scope} {N ps : List Str} {fb : M Fl} (F : FunD K x qual params body scope [] [] f fd)
    (S : FnScope N ps scope) (hn : ps.length = n) (hm2 : N.length = m) (hbody : ∀ (cdv : Value) (A : Around) (outer : List PySem.Env) (s : Shared) (H : Hp) (E : XK), Room k (A.deeper (envOfC qual scope s.heap.objs.size f cdv)) →
      Takes (cxOf (L2.CX P w) P w K mg base N qual scope f cdv A outer s H E) (fun c d _ H => E c d H) → EvSs (cxOf (L2.CX P w) P w K mg base N qual scope f cdv A outer s H E) (fun c d _ H => E c d H) T io body fb) :
    FnOk P w K mg base (L2.CX P w) (k + 1) f fd ps (SpG K T io n (runM fb m)) := by
  obtain ⟨oc, od, dV, kV, doc, pm, an, cdv, ct, osl, e, lk, hcd, _, _⟩ := F.ex
  subst e hn hm2
  exact fnG lk hcd S fun A outer s H E hr tk => hbody cdv A outer s H E hr tk
/-- what the law's def asks of its list -/
theorem sp_law {K : PySem.W.Frag} {T : List (Addr × Str)} {g : Fn} {H : Hp} {a : Addr} {ns : List Int} (hs : SqL K H a (ns.map V.int)) (ht : LamX.Tabs T H) {ρ : Env} (e : g [.scr ns] = some (.ok (.dat (.bool true)), ρ)) : SpG K T [] 1 g [.ref a] H (fun v _ => v = .bl true) (fun _ _ _ => False) := by
  have fin : ∀ w : Wl, w.H = H → Cs K T [some (V.ref a)] [some (.scr ns)] w → SpG K T [] 1 g [.ref a] H (fun v _ => v = .bl true) (fun _ _ _ => False) := fun w eH c => by
    refine ⟨rfl, w, [.scr ns], eH, c, _, _, e, fun w' v fp _ _ r _ _ => ?_⟩
    cases r with
    | dat r => cases r; rfl
  have base : ∀ (F : Hp), (SqL K F a (ns.map V.int) ∨ ∃ o, H a = some (.frz o (.lst (ns.map V.int)))) → (∀ b u, F b = some u → H b = some u ∧ ∀ ps, u ≠ .tbl ps) → Cs K T [some (V.ref a)] [some (.scr ns)] ⟨F, H, fun _ => []⟩ := fun F h le => by
    refine ⟨rfl, fun i o eo => ?_, fun _ _ => rfl, fun i j b z => (by cases z), fun b u eb => .inl (le b u eb), ht⟩
    match i, eo with
    | 0, eo =>
      cases eo
      exact ⟨_, rfl, .scr h⟩
  rcases hs with (h | ⟨o, h⟩) | h
  · refine fin ⟨fun b => if b = a then some (.lst (ns.map V.int)) else none, H, fun _ => []⟩ rfl (base _ (.inl (.inl (.inl (if_pos rfl)))) fun b u eb => ?_)
    by_cases hb : b = a
    · rw [if_pos hb] at eb
      cases eb
      exact ⟨by rw [hb]; exact h, fun ps z => by cases z⟩
    · rw [if_neg hb] at eb
      cases eb
  · exact fin ⟨fun _ => none, H, fun _ => []⟩ rfl (base _ (.inr ⟨o, h⟩) fun b u eb => by cases eb)
  · exact fin ⟨fun _ => none, H, fun _ => []⟩ rfl (base _ (.inl (.inr h)) fun b u eb => by cases eb)
end Sh
set_option Elab.async false
set_option linter.all false
set_option maxRecDepth 100000
set_option maxHeartbeats 2000000
/-! Sh, part AI: a, b, .. = x, y, .. where some name is no plain local one. -/
namespace Sh
open PySem PySem.Spec PyProof.Rows L2
theorem RpOs.out {K : PySem.W.Frag} {w w' : Wl} (x : Lw w w') {vs : List V} {os : List O} {fps : List Addr} (h : RpOs K w.F w.H vs os fps) (n : ∀ a ∈ fps, ¬ w.own a) : RpOs K w'.F w'.H vs os fps ∧ ∀ a ∈ fps, ¬ w'.own a := by
  induction h with
  | nil => exact ⟨.nil, fun a z => by cases z⟩
  | cons r rs d ih =>
    obtain ⟨a1, a2⟩ := x.out r fun a z => n a (List.mem_append_left _ z)
    obtain ⟨b1, b2⟩ := ih fun a z => n a (List.mem_append_right _ z)
    refine ⟨.cons a1 b1 d, fun a z => ?_⟩
    rcases List.mem_append.mp z with z | z
    · exact a2 a z
    · exact b2 a z
theorem setsE_len : ∀ {is : List Nat} {os : List O} {ρ ρ' : Env}, setsE ρ is os = some ρ' → os.length = is.length
  | [], [], _, _, _ => rfl
  | [], _ :: _, _, _, e => by cases e
  | _ :: _, [], _, _, e => by cases e
  | i :: is, o :: os, ρ, ρ', e => by
    unfold setsE at e
    split at e
    · rw [List.length_cons, List.length_cons, setsE_len e]
    · cases e
theorem RpOs.length {K : PySem.W.Frag} {F H : Hp} {vs : List V} {os : List O} {fps : List Addr} (h : RpOs K F H vs os fps) : vs.length = os.length := by
  induction h with
  | nil => rfl
  | cons _ _ _ ih => rw [List.length_cons, List.length_cons, ih]
def gNs : List Nat → TGs
  | [] => gNil
  | i :: is => gCons (gName i) (gNs is)
theorem gNs_sets : ∀ {is : List Nat} {vs : List V} {σ : L2.St} {H : Hp} {Q : L2.St → Hp → Prop}, vs.length = is.length → Q (setsV σ is vs) H → gNs is vs σ H Q
  | [], [], _, _, _, _, q => ⟨rfl, q⟩
  | [], _ :: _, _, _, _, h, _ => by cases h
  | _ :: _, [], _, _, _, h, _ => by cases h
  | i :: is, v :: vs, σ, H, Q, h, q => ⟨v, vs, rfl, gNs_sets (by simpa using h) q⟩
section
variable {X : Cx} {W : WX} {T : List (Addr × Str)} {io : List Nat} {es vs : List Expr} {pos : Pos}
structure EvNs (X : Cx) (es : List Expr) (is : List Nat) : Prop where
  pgs : PGs X es (gNs is)
theorem ens_nil : EvNs X [] [] := ⟨pgs_nil⟩
theorem ens_cons {i : Nat} {x : Str} {is : List Nat} {p : Pos} (hN : X.N.Nodup) (hi : X.N[i]? = some x) (hx : Loc X.env.scope x) (hf : X.fn x = true ∨ X.env.scope.names.lookup x = some .local) (h : EvNs X es is)
    (hs : (assignEach (.Name x p :: es) X.env).map (·.2) = assign (.Name x p) X.env :: (assignEach es X.env).map (·.2)) : EvNs X (.Name x p :: es) (i :: is) := ⟨pgs_cons (pg_name hN hi hx hf) h.pgs hs⟩
theorem es_parC {is : List Nat} {kt k2 pt pt2} {f : M (List O)} (hio : ∀ k ∈ is, k ∉ io) (hl : is.length ≤ sizeLine) (h : EvNs X es is) (hp : ∀ t, PGs X es t → PG X (.Tuple es kt pt) (gTup X.K is.length t)) (ha : EvAO X W T vs f)
    (hs : swapsWithSole [.Tuple es kt pt] (.Tuple vs k2 pt2) pos.line X.env = pure false) (hw : swappedStores [.Tuple es kt pt] (.Tuple vs k2 pt2) X.env = pure none)
    (h1 : (assignEach [.Tuple es kt pt] X.env).map (·.2) = [assign (.Tuple es kt pt) X.env]) :
    EvS X W T io (.Assign [.Tuple es kt pt] (.Tuple vs k2 pt2) pos) (f >>= fun os => setsM is os) := by
  refine ⟨PS.imp (ps_asg (pe_tupZ ha.pa) (hp _ h.pgs) hs hw h1) fun D σ H ⟨w, ρ, eH, c, co⟩ => ?_⟩
  subst eH
  refine ⟨w, ρ, rfl, c, co.bindE.mono fun os ρ1 w1 l1 c1 k us fps r ap nw => ?_⟩
  have hlen : us.length = is.length := by
    obtain ⟨_, _, e1, _⟩ := k
    unfold setsM at e1
    obtain ⟨ρ2, e1, _⟩ := Option.map_eq_some_iff.mp e1
    rw [r.length, setsE_len e1]
  refine ⟨by rw [hlen]; exact hl, fun p o hfree hd => ?_⟩
  obtain ⟨c2, l2⟩ := c1.al0 (u := .frz o (.tup us)) hfree
  obtain ⟨r2, ap2⟩ := RpOs.out l2 r ap
  refine ⟨p, us, rfl, .inl (.inr ⟨o, upd_same⟩), hlen, gNs_sets hlen ?_⟩
  exact CoS.sets hio k (l1.trans l2) c2 r2 ap2 nw
end
end Sh
set_option Elab.async false
set_option linter.all false
set_option maxRecDepth 100000
set_option maxHeartbeats 2000000
/-! Sh, part Run: what the readings make of a state. -/
namespace Sh
open PySem PySem.Spec PyProof.Rows L2
theorem bind_run {α β : Type} {f : M α} {k : α → M β} {ρ : Env} : (f >>= k) ρ = match f ρ with
  | none => none
  | some (.ex x, ρ') => some (.ex x, ρ')
  | some (.ok a, ρ') => k a ρ' := rfl
theorem pure_run {α : Type} {a : α} {ρ : Env} : (Pure.pure a : M α) ρ = some (.ok a, ρ) := rfl
theorem ite_run {α : Type} {c : Prop} [Decidable c] {f g : M α} {ρ : Env} : (if c then f else g) ρ = if c then f ρ else g ρ := by split <;> rfl
theorem lift_some {α : Type} {a : α} {ρ : Env} : lift (some a) ρ = some (.ok a, ρ) := rfl
theorem lift_none {α : Type} {ρ : Env} : lift (none : Option α) ρ = none := rfl
/-- a comprehension that chooses and maps -/
theorem lc_filter {vs : List Nat} {g : G} {ft : M Bool} {fe : M D} {p : D → Bool} {f : D → D} {ρ : Env} : ∀ {ds acc : List D}, (∀ d ∈ ds, ∃ ρ1, g d ρ = some ρ1 ∧ ∃ ρ2, ft ρ1 = some (.ok (p d), ρ2) ∧ (p d = false → wipeE ρ2 vs = ρ) ∧ (p d = true → ∃ ρ3, fe ρ2 = some (.ok (f d), ρ3) ∧ wipeE ρ3 vs = ρ)) →
    acc.length + ds.length ≤ sizeLine → lcLoop vs g ft fe ds acc ρ = some (acc ++ (ds.filter p).map f, ρ)
  | [], acc, _, _ => by
    unfold lcLoop
    simp
  | d :: ds, acc, h, hl => by
    obtain ⟨ρ1, e1, ρ2, e2, h1, h2⟩ := h d List.mem_cons_self
    have hl' : acc.length + ds.length < sizeLine := by rw [List.length_cons] at hl; omega
    unfold lcLoop
    rw [e1]
    dsimp only
    cases q : p d with
    | false =>
      rw [e2, q]
      dsimp only
      rw [h1 q, lc_filter (fun x hx => h x (List.mem_cons_of_mem _ hx)) (by omega), List.filter_cons_of_neg (by simp [q])]
    | true =>
      obtain ⟨ρ3, e3, e4⟩ := h2 q
      rw [e2, q]
      dsimp only
      rw [e3]
      dsimp only
      rw [if_pos (by omega), e4, lc_filter (fun x hx => h x (List.mem_cons_of_mem _ hx)) (by rw [List.length_append]; simp; omega), List.filter_cons_of_pos (by simp [q])]
      simp
theorem lcM_run {vs : List Nat} {fi : M (List D)} {g : G} {ft : M Bool} {fe : M D} {ρ ρ1 ρ2 : Env} {ds ys : List D} (hi : fi ρ = some (.ok ds, ρ1)) (ho : vs.all (fun v => okSlot ρ1[v]?) = true) (hl : lcLoop vs g ft fe ds [] (wipeE ρ1 vs) = some (ys, ρ2)) :
    lcM vs fi g ft fe ρ = some (.ok (.lst ys), restE ρ1 ρ2 vs) := by
  have e : lcM vs fi g ft fe ρ = M.bind fi (fun ds => fun ρ1 => if vs.all (fun v => okSlot ρ1[v]?) = true then (match lcLoop vs g ft fe ds [] (wipeE ρ1 vs) with
    | some (ys, ρ2) => some (Ret.ok (O.lst ys), restE ρ1 ρ2 vs)
    | none => none) else none) ρ := by
    unfold lcM
    rfl
  rw [e]
  unfold M.bind
  rw [hi]
  dsimp only
  rw [if_pos ho, hl]
end Sh
set_option Elab.async false
set_option linter.all false
set_option maxRecDepth 100000
set_option maxHeartbeats 2000000
/-! Pl, part O: the order of data, trees. -/
namespace Sh
open PySem PySem.Spec PyProof.Rows
abbrev DD := PyData
/-- less, of data -/
abbrev dl (x y : DD) : Bool := PySem.W.dataLt x y
theorem dl_irr (x : DD) : dl x x = false := lex_irrefl _
theorem dl_tr {x y z : DD} (h : dl x y = true) (k : dl y z = true) : dl x z = true := lex_trans _ _ _ h k
theorem dl_neg {x z : DD} (y : DD) (h : dl x z = true) : dl x y = true ∨ dl y z = true := lex_negTrans _ _ _ h
theorem dl_asym {x y : DD} (h : dl x y = true) : dl y x = false := by
  cases q : dl y x with
  | false => rfl
  | true => have := dl_tr h q; rw [dl_irr] at this; cases this
theorem dl_nlt {x y z : DD} (h : dl y x = false) (k : dl z y = false) : dl z x = false := by
  cases q : dl z x with
  | false => rfl
  | true =>
    rcases dl_neg y q with a | a
    · rw [a] at k; cases k
    · rw [a] at h; cases h
/-- neither is less: the same -/
theorem dl_tot {x y : DD} (a : PySem.W.alike x y = true) (h : dl x y = false) (k : dl y x = false) : PyData.eqv x y = true := by
  cases q : PyData.eqv x y with
  | true => rfl
  | false =>
    have t := PySem.W.toks_eqv x y a
    have e : PySem.W.keyToks x = PySem.W.keyToks y := lex_total _ _ h k
    have t2 := t.2 q [Sum.inl 0] [Sum.inl 1]
    rw [e] at t2
    have u1 : PyProof.Rows.lexLt itemOrd (PySem.W.keyToks y ++ [Sum.inl 0]) (PySem.W.keyToks y ++ [Sum.inl 1]) = true := (PySem.W.lex_pre _ _ _).trans (by decide)
    rw [u1] at t2
    have u2 := lex_irrefl (O := itemOrd) (PySem.W.keyToks y)
    rw [u2] at t2
    cases t2
theorem dl_int (x y : Int) : dl (.int x) (.int y) = decide (x < y) := PySem.W.dataLt_int x y
theorem dl_nil : dl (.tuple []) (.tuple []) = false := dl_irr _
theorem dl_nilc (x : DD) (xs : List DD) : dl (.tuple []) (.tuple (x :: xs)) = true := by
  show PyProof.Rows.lexLt itemOrd (PySem.W.keyToks (.tuple [])) (PySem.W.keyToks (.tuple (x :: xs))) = true
  rw [PySem.W.keyToks, PySem.W.keyToks, PySem.W.keyToksAll, PySem.W.keyToksAll]
  rw [lex_diff (O := itemOrd) (by simp)]
  decide
theorem dl_cnil (x : DD) (xs : List DD) : dl (.tuple (x :: xs)) (.tuple []) = false := dl_asym (dl_nilc x xs)
theorem dl_cons {x y : DD} (a : PySem.W.alike x y = true) (xs ys : List DD) : dl (.tuple (x :: xs)) (.tuple (y :: ys)) = if PyData.eqv x y = true then dl (.tuple xs) (.tuple ys) else dl x y := by
  rw [dl, PySem.W.dataLt_tuple, PySem.W.dataLt_cons a, dl, PySem.W.dataLt_tuple]
theorem dl_consL {x y : DD} (a : PySem.W.alike x y = true) (xs ys : List DD) : dl (.list (x :: xs)) (.list (y :: ys)) = if PyData.eqv x y = true then dl (.list xs) (.list ys) else dl x y := by
  rw [dl, PySem.W.dataLt_list, PySem.W.dataLt_cons a, dl, PySem.W.dataLt_list]
/-- the least of a row -/
theorem argBest_least {bt : Nat → Nat → Bool} (ir : ∀ i, bt i i = false) (tr : ∀ i j k, bt i j = true → bt j k = true → bt i k = true) : ∀ n, argBest bt n ≤ n ∧ ∀ j, j ≤ n → bt j (argBest bt n) = false
  | 0 => ⟨Nat.le_refl _, fun j h => by rw [Nat.le_zero.mp h]; exact ir 0⟩
  | n + 1 => by
    obtain ⟨h1, h2⟩ := argBest_least ir tr n
    rw [argBest]
    split
    · rename_i q
      refine ⟨Nat.le_refl _, fun j h => ?_⟩
      rcases Nat.lt_or_ge n j with z | z
      · rw [show j = n + 1 by omega]; exact ir _
      · cases e : bt j (n + 1) with
        | false => rfl
        | true => have := tr _ _ _ e q; rw [h2 j z] at this; cases this
    · rename_i q
      refine ⟨by omega, fun j h => ?_⟩
      rcases Nat.lt_or_ge n j with z | z
      · rw [show j = n + 1 by omega]; simpa using q
      · exact h2 j z
/-! ### trees -/
inductive Tr where
  | nd (l : Str) (ps : List Tr)
namespace Tr
def label : Tr → Str
  | .nd l _ => l
def parts : Tr → List Tr
  | .nd _ ps => ps
mutual
def d : Tr → DD
  | .nd l ps => .tuple [.str l, .tuple (ds ps)]
def ds : List Tr → List DD
  | [] => []
  | p :: ps => d p :: ds ps
end
theorem ds_map : ∀ ps : List Tr, ds ps = ps.map d
  | [] => rfl
  | p :: ps => by rw [ds, ds_map ps]; rfl
theorem d_nd (l : Str) (ps : List Tr) : d (.nd l ps) = .tuple [.str l, .tuple (ps.map d)] := by rw [d, ds_map]
mutual
theorem ind {P : Tr → Prop} (h : ∀ l ps, (∀ p ∈ ps, P p) → P (.nd l ps)) : ∀ t, P t
  | .nd l ps => h l ps (inds h ps)
theorem inds {P : Tr → Prop} (h : ∀ l ps, (∀ p ∈ ps, P p) → P (.nd l ps)) : ∀ ps : List Tr, ∀ p ∈ ps, P p
  | [], _, m => by cases m
  | q :: ps, p, m => by
    rcases List.mem_cons.mp m with e | m
    · rw [e]; exact ind h q
    · exact inds h ps p m
end
theorem alike_all {f : Tr → DD} : ∀ {ps qs : List Tr}, (∀ p ∈ ps, ∀ q, PySem.W.alike (d p) (d q) = true) → PySem.W.alikeAll (ps.map d) (qs.map d) = true
  | [], _, _ => by simp [PySem.W.alikeAll]
  | _ :: _, [], _ => by simp [PySem.W.alikeAll]
  | p :: ps, q :: qs, h => by
    simp only [List.map_cons, PySem.W.alikeAll, Bool.and_eq_true]
    exact ⟨h p List.mem_cons_self q, alike_all (f := f) fun r m => h r (List.mem_cons_of_mem _ m)⟩
theorem alike : ∀ s t : Tr, PySem.W.alike (d s) (d t) = true := by
  intro s
  induction s using ind with
  | h l ps ih =>
    intro t
    cases t with
    | nd l' qs =>
      rw [d_nd, d_nd]
      simp only [PySem.W.alike, PySem.W.alikeAll, Bool.and_true, Bool.true_and]
      exact alike_all (f := d) ih
theorem eqv_all : ∀ {ps qs : List Tr}, (∀ p ∈ ps, ∀ q, PyData.eqv (d p) (d q) = true ↔ p = q) → (PyData.eqvAll (ps.map d) (qs.map d) = true ↔ ps = qs)
  | [], [], _ => by simp [PyData.eqvAll]
  | [], _ :: _, _ => by simp [PyData.eqvAll]
  | _ :: _, [], _ => by simp [PyData.eqvAll]
  | p :: ps, q :: qs, h => by
    simp only [List.map_cons, PyData.eqvAll, Bool.and_eq_true, List.cons.injEq]
    rw [h p List.mem_cons_self q, eqv_all fun r m => h r (List.mem_cons_of_mem _ m)]
theorem eqv : ∀ s t : Tr, PyData.eqv (d s) (d t) = true ↔ s = t := by
  intro s
  induction s using ind with
  | h l ps ih =>
    intro t
    cases t with
    | nd l' qs =>
      rw [d_nd, d_nd]
      simp only [PyData.eqv, PyData.eqvAll, Bool.and_true, Bool.and_eq_true, beq_iff_eq, nd.injEq]
      rw [eqv_all ih]
theorem d_inj {s t : Tr} (h : d s = d t) : s = t := (eqv s t).mp (by rw [h]; exact (eqv t t).mpr rfl)
/-- less, of trees -/
def lt (s t : Tr) : Bool := dl (d s) (d t)
theorem lt_irr (s : Tr) : lt s s = false := dl_irr _
theorem lt_tot {s t : Tr} (h : lt s t = false) (k : lt t s = false) : s = t := (eqv s t).mp (dl_tot (alike s t) h k)
end Tr
end Sh
set_option Elab.async false
set_option linter.all false
set_option maxRecDepth 100000
set_option maxHeartbeats 2000000
/-! Pl, part M: kinds of trees, trees of one form, the nearest ones. -/
namespace Sh
open PySem PySem.Spec PyProof.Rows
abbrev Rl := Int × Str × List Int
mutual
/-- a tree is of a kind -/
def ofK (R : List Rl) : Tr → Int → Prop
  | .nd l ps, k => ∃ ks, (k, l, ks) ∈ R ∧ ofKs R ps ks
def ofKs (R : List Rl) : List Tr → List Int → Prop
  | [], [] => True
  | p :: ps, k :: ks => ofK R p k ∧ ofKs R ps ks
  | [], _ :: _ => False
  | _ :: _, [] => False
end
mutual
/-- trees of one form -/
def form : Tr → Tr → Prop
  | .nd _ ps, .nd _ qs => forms ps qs
def forms : List Tr → List Tr → Prop
  | [], [] => True
  | p :: ps, q :: qs => form p q ∧ forms ps qs
  | [], _ :: _ => False
  | _ :: _, [] => False
end
mutual
/-- how many labels are unlike -/
def chg : Tr → Tr → Int
  | .nd l ps, .nd l' qs => (if l = l' then 0 else 1) + chgs ps qs
def chgs : List Tr → List Tr → Int
  | p :: ps, q :: qs => chg p q + chgs ps qs
  | [], _ => 0
  | _ :: _, [] => 0
end
theorem ofK_nd {R : List Rl} {l : Str} {ps : List Tr} {k : Int} : ofK R (.nd l ps) k ↔ ∃ ks, (k, l, ks) ∈ R ∧ ofKs R ps ks := by rw [ofK]
theorem form_nd {l l' : Str} {ps qs : List Tr} : form (.nd l ps) (.nd l' qs) ↔ forms ps qs := by rw [form]
theorem chg_nd {l l' : Str} {ps qs : List Tr} : chg (.nd l ps) (.nd l' qs) = (if l = l' then 0 else 1) + chgs ps qs := by rw [chg]
theorem ofKs_len {R : List Rl} : ∀ {ps : List Tr} {ks : List Int}, ofKs R ps ks → ps.length = ks.length
  | [], [], _ => rfl
  | p :: ps, k :: ks, h => by
    rw [ofKs] at h
    rw [List.length_cons, List.length_cons, ofKs_len h.2]
  | [], _ :: _, h => by rw [ofKs] at h; exact h.elim
  | _ :: _, [], h => by rw [ofKs] at h; exact h.elim
theorem forms_len : ∀ {ps qs : List Tr}, forms ps qs → ps.length = qs.length
  | [], [], _ => rfl
  | p :: ps, q :: qs, h => by
    rw [forms] at h
    rw [List.length_cons, List.length_cons, forms_len h.2]
  | [], _ :: _, h => by rw [forms] at h; exact h.elim
  | _ :: _, [], h => by rw [forms] at h; exact h.elim
theorem chgs_nn_of : ∀ {ps : List Tr}, (∀ p ∈ ps, ∀ q, 0 ≤ chg p q) → ∀ qs, 0 ≤ chgs ps qs
  | [], _, qs => by rw [chgs]; exact Int.le_refl _
  | _ :: _, _, [] => by rw [chgs]; exact Int.le_refl _
  | p :: ps, h, q :: qs => by
    rw [chgs]
    have := h p List.mem_cons_self q
    have := chgs_nn_of (fun r m => h r (List.mem_cons_of_mem _ m)) qs
    omega
theorem chg_nn (t s : Tr) : 0 ≤ chg t s := by
  revert s
  induction t using Tr.ind with
  | h l ps ih =>
    intro s
    cases s with
    | nd l' qs =>
      rw [chg_nd]
      have := chgs_nn_of ih qs
      split <;> omega
theorem chgs_nn (ps qs : List Tr) : 0 ≤ chgs ps qs := chgs_nn_of (fun p _ => chg_nn p) qs
theorem forms_self_of : ∀ {ps : List Tr}, (∀ p ∈ ps, form p p) → forms ps ps
  | [], _ => by rw [forms]; trivial
  | p :: ps, h => by
    rw [forms]
    exact ⟨h p List.mem_cons_self, forms_self_of fun r m => h r (List.mem_cons_of_mem _ m)⟩
theorem form_self (t : Tr) : form t t := by
  induction t using Tr.ind with
  | h l ps ih => rw [form]; exact forms_self_of ih
theorem chgs_self_of : ∀ {ps : List Tr}, (∀ p ∈ ps, chg p p = 0) → chgs ps ps = 0
  | [], _ => by rw [chgs]
  | p :: ps, h => by
    rw [chgs, h p List.mem_cons_self, chgs_self_of fun r m => h r (List.mem_cons_of_mem _ m)]
    rfl
theorem chg_self (t : Tr) : chg t t = 0 := by
  induction t using Tr.ind with
  | h l ps ih => rw [chg, chgs_self_of ih]; simp
theorem chgs_zero_of : ∀ {ps : List Tr}, (∀ p ∈ ps, ∀ q, form p q → chg p q = 0 → p = q) → ∀ {qs : List Tr}, forms ps qs → chgs ps qs = 0 → ps = qs
  | [], _, [], _, _ => rfl
  | [], _, _ :: _, h, _ => by rw [forms] at h; exact h.elim
  | _ :: _, _, [], h, _ => by rw [forms] at h; exact h.elim
  | p :: ps, k, q :: qs, h, e => by
    rw [forms] at h
    rw [chgs] at e
    have a := chg_nn p q
    have b := chgs_nn ps qs
    rw [k p List.mem_cons_self q h.1 (by omega), chgs_zero_of (fun r m => k r (List.mem_cons_of_mem _ m)) h.2 (by omega)]
/-- nought only of itself -/
theorem chg_zero {t s : Tr} : form t s → chg t s = 0 → t = s := by
  revert s
  induction t using Tr.ind with
  | h l ps ih =>
    intro s
    cases s with
    | nd l' qs =>
      rw [form_nd, chg_nd]
      intro h e
      have b := chgs_nn ps qs
      by_cases q : l = l'
      · subst q
        rw [chgs_zero_of (fun p m q => ih p m) h (by simpa using e)]
      · rw [if_neg q] at e
        omega
/-! ### pairs -/
abbrev Pr := Int × Tr
def encP (p : Pr) : DD := .tuple [.int p.1, p.2.d]
def ltP (a b : Pr) : Bool := dl (encP a) (encP b)
theorem alikeP (a b : Pr) : PySem.W.alike (encP a) (encP b) = true := by
  simp only [encP, PySem.W.alike, PySem.W.alikeAll, Bool.and_true, Bool.true_and]
  exact Tr.alike _ _
theorem ltP_eq (a b : Pr) : ltP a b = if a.1 = b.1 then Tr.lt a.2 b.2 else decide (a.1 < b.1) := by
  unfold ltP encP
  rw [dl_cons (by simp [PySem.W.alike])]
  by_cases h : a.1 = b.1
  · rw [if_pos (by simp [PyData.eqv, h]), if_pos h, dl_cons (Tr.alike _ _), dl_nil]
    split
    · rename_i q
      rw [(Tr.eqv _ _).mp q, Tr.lt_irr]
    · rfl
  · rw [if_neg (by simp [PyData.eqv, h]), if_neg h, dl_int]
theorem encP_inj {a b : Pr} (h : encP a = encP b) : a = b := by
  simp only [encP, PyData.tuple.injEq, List.cons.injEq, PyData.int.injEq, and_true] at h
  exact Prod.ext h.1 (Tr.d_inj h.2)
theorem ltP_irr (a : Pr) : ltP a a = false := dl_irr _
theorem ltP_tot {a b : Pr} (h : ltP a b = false) (k : ltP b a = false) : a = b := by
  rw [ltP_eq] at h k
  by_cases e : a.1 = b.1
  · rw [if_pos e] at h
    rw [if_pos e.symm] at k
    exact Prod.ext e (Tr.lt_tot h k)
  · rw [if_neg e] at h
    rw [if_neg (Ne.symm e)] at k
    simp at h k
    omega
/-- the least of those of S, by what they cost -/
structure Best (S : Tr → Prop) (c : Tr → Int) (b : Pr) : Prop where
  of : S b.2
  cost : b.1 = c b.2
  least : ∀ s, S s → ltP (c s, s) b = false
theorem Best.uniq {S : Tr → Prop} {c : Tr → Int} {a b : Pr} (h : Best S c a) (k : Best S c b) : a = b := by
  refine ltP_tot ?_ ?_
  · have := k.least _ h.of
    rw [← h.cost] at this
    exact this
  · have := h.least _ k.of
    rw [← k.cost] at this
    exact this
theorem Best.congr {S S' : Tr → Prop} {c : Tr → Int} {b : Pr} (h : Best S c b) (e : ∀ s, S s ↔ S' s) : Best S' c b := ⟨(e _).mp h.of, h.cost, fun s k => h.least s ((e s).mpr k)⟩
/-! ### parts -/
def Bests (R : List Rl) : List Tr → List Int → List Pr → Prop
  | [], [], [] => True
  | p :: ps, k :: ks, b :: bs => Best (fun s => form p s ∧ ofK R s k) (chg p) b ∧ Bests R ps ks bs
  | _, _, _ => False
def sumP : List Pr → Int
  | [] => 0
  | b :: bs => b.1 + sumP bs
theorem bests_self {R : List Rl} : ∀ {ps : List Tr} {ks : List Int} {bs : List Pr}, Bests R ps ks bs → forms ps (bs.map (·.2)) ∧ ofKs R (bs.map (·.2)) ks ∧ chgs ps (bs.map (·.2)) = sumP bs
  | [], [], [], _ => ⟨by rw [List.map_nil, forms]; trivial, by rw [List.map_nil, ofKs]; trivial, by rw [List.map_nil, chgs, sumP]⟩
  | p :: ps, k :: ks, b :: bs, h => by
    rw [Bests] at h
    obtain ⟨i1, i2, i3⟩ := bests_self h.2
    refine ⟨?_, ?_, ?_⟩
    · rw [List.map_cons, forms]; exact ⟨h.1.of.1, i1⟩
    · rw [List.map_cons, ofKs]; exact ⟨h.1.of.2, i2⟩
    · rw [List.map_cons, chgs, sumP, i3, ← h.1.cost]
  | [], [], _ :: _, h => by simp [Bests] at h
  | [], _ :: _, _, h => by simp [Bests] at h
  | _ :: _, [], _, h => by simp [Bests] at h
  | _ :: _, _ :: _, [], h => by simp [Bests] at h
theorem bests_least {R : List Rl} : ∀ {ps : List Tr} {ks : List Int} {bs : List Pr}, Bests R ps ks bs → ∀ {qs : List Tr}, forms ps qs → ofKs R qs ks →
    sumP bs ≤ chgs ps qs ∧ (chgs ps qs = sumP bs → dl (.tuple (qs.map Tr.d)) (.tuple (bs.map (·.2.d))) = false)
  | [], [], [], _, [], _, _ => ⟨by rw [sumP, chgs]; exact Int.le_refl _, fun _ => dl_nil⟩
  | [], [], [], _, _ :: _, h, _ => by rw [forms] at h; exact h.elim
  | p :: ps, k :: ks, b :: bs, h, [], f, _ => by rw [forms] at f; exact f.elim
  | p :: ps, k :: ks, b :: bs, h, q :: qs, f, o => by
    rw [Bests] at h
    rw [forms] at f
    rw [ofKs] at o
    obtain ⟨i1, i2⟩ := bests_least h.2 f.2 o.2
    have l := h.1.least q ⟨f.1, o.1⟩
    rw [ltP_eq] at l
    have lc : b.1 ≤ chg p q := by
      by_cases e : chg p q = b.1
      · omega
      · rw [if_neg e] at l
        simp at l
        exact l
    rw [sumP, chgs]
    refine ⟨by omega, fun e => ?_⟩
    rw [if_pos (by omega)] at l
    rw [List.map_cons, List.map_cons, dl_cons (Tr.alike _ _)]
    split
    · exact i2 (by omega)
    · exact l
  | [], [], _ :: _, h, _, _, _ => by simp [Bests] at h
  | [], _ :: _, _, h, _, _, _ => by simp [Bests] at h
  | _ :: _, [], _, h, _, _, _ => by simp [Bests] at h
  | _ :: _, _ :: _, [], h, _, _, _ => by simp [Bests] at h
/-- the best one of a rule -/
theorem best_rule {R : List Rl} {l l' : Str} {ps : List Tr} {ks : List Int} {bs : List Pr} (h : Bests R ps ks bs) :
    Best (fun s => form (.nd l ps) s ∧ ∃ qs, s = .nd l' qs ∧ ofKs R qs ks) (chg (.nd l ps)) ((if l = l' then 0 else 1) + sumP bs, .nd l' (bs.map (·.2))) := by
  obtain ⟨i1, i2, i3⟩ := bests_self h
  refine ⟨⟨by rw [form]; exact i1, _, rfl, i2⟩, by rw [chg, i3], fun s k => ?_⟩
  obtain ⟨f, qs, e, o⟩ := k
  subst e
  rw [form] at f
  obtain ⟨a1, a2⟩ := bests_least h f o
  rw [ltP_eq, chg]
  dsimp only
  by_cases e : chgs ps qs = sumP bs
  · rw [if_pos (by rw [e]), Tr.lt, Tr.d_nd, Tr.d_nd, dl_cons (by simp [PySem.W.alike]), if_pos (by simp [PyData.eqv]), List.map_map]
    have al : PySem.W.alike (.tuple (qs.map Tr.d)) (.tuple ((bs.map (·.2)).map Tr.d)) = true := by
      have := Tr.alike (.nd l' qs) (.nd l' (bs.map (·.2)))
      rw [Tr.d_nd, Tr.d_nd] at this
      simpa [PySem.W.alike, PySem.W.alikeAll] using this
    rw [List.map_map] at al
    rw [dl_cons al]
    by_cases z : PyData.eqv (.tuple (qs.map Tr.d)) (.tuple (bs.map (Tr.d ∘ fun x => x.2))) = true
    · rw [if_pos z]; exact dl_nil
    · rw [if_neg z]; exact a2 e
  · rw [if_neg (by omega)]
    simp
    omega
end Sh
set_option Elab.async false
set_option linter.all false
set_option maxRecDepth 100000
set_option maxHeartbeats 2000000
/-! Pl, part N: tables of the nearest trees. -/
namespace Sh
open PySem PySem.Spec PyProof.Rows
section
variable {β : Type}
def alook (m : List (Int × β)) (k : Int) : Option β := (m.find? fun p => decide (p.1 = k)).map (·.2)
def aput (m : List (Int × β)) (k : Int) (b : β) : List (Int × β) := if (m.any fun p => decide (p.1 = k)) = true then m.map (fun p => if p.1 = k then (p.1, b) else p) else m ++ [(k, b)]
theorem alook_nil (k : Int) : alook ([] : List (Int × β)) k = none := rfl
theorem alook_cons (p : Int × β) (m : List (Int × β)) (k : Int) : alook (p :: m) k = if p.1 = k then some p.2 else alook m k := by
  unfold alook
  rw [List.find?_cons]
  by_cases h : p.1 = k <;> simp [h]
theorem alook_app (m : List (Int × β)) (k k' : Int) (b : β) : alook (m ++ [(k, b)]) k' = match alook m k' with
  | some x => some x
  | none => if k = k' then some b else none := by
  induction m with
  | nil => rw [List.nil_append, alook_cons, alook_nil]
  | cons p m ih =>
    rw [List.cons_append, alook_cons, alook_cons, ih]
    by_cases h : p.1 = k' <;> simp [h]
theorem alook_map (m : List (Int × β)) (k k' : Int) (b : β) : alook (m.map fun p => if p.1 = k then (p.1, b) else p) k' = match alook m k' with
  | some x => some (if k' = k then b else x)
  | none => none := by
  induction m with
  | nil => rfl
  | cons p m ih =>
    rw [List.map_cons, alook_cons, alook_cons, ih]
    have e : (if p.1 = k then (p.1, b) else p).1 = p.1 := by split <;> rfl
    rw [e]
    by_cases h : p.1 = k'
    · rw [if_pos h, if_pos h]
      by_cases q : p.1 = k
      · rw [if_pos q]; simp [← h, q]
      · rw [if_neg q]; simp [← h, q]
    · rw [if_neg h, if_neg h]
theorem alook_any (m : List (Int × β)) (k : Int) : (m.any fun p => decide (p.1 = k)) = (alook m k).isSome := by
  induction m with
  | nil => rfl
  | cons p m ih =>
    rw [List.any_cons, alook_cons, ih]
    by_cases h : p.1 = k <;> simp [h]
theorem alook_aput (m : List (Int × β)) (k k' : Int) (b : β) : alook (aput m k b) k' = if k' = k then some b else alook m k' := by
  unfold aput
  rw [alook_any]
  cases h : alook m k with
  | some x =>
    rw [Option.isSome_some, if_pos rfl, alook_map]
    by_cases q : k' = k
    · subst q; rw [h]; simp
    · cases e : alook m k' <;> simp [q]
  | none =>
    rw [Option.isSome_none, if_neg (by simp), alook_app]
    by_cases q : k' = k
    · subst q; rw [h]
    · cases e : alook m k' <;> simp [q, Ne.symm q]
theorem aput_keys (m : List (Int × β)) (k : Int) (b : β) : ∀ p ∈ aput m k b, p.1 = k ∨ ∃ q ∈ m, q.1 = p.1 := by
  intro p h
  unfold aput at h
  split at h
  · obtain ⟨q, m1, e⟩ := List.mem_map.mp h
    refine .inr ⟨q, m1, ?_⟩
    rw [← e]
    split <;> rfl
  · rcases List.mem_append.mp h with h | h
    · exact .inr ⟨p, h, rfl⟩
    · rw [List.mem_singleton.mp h]; exact .inl rfl
end
abbrev Mt := List (Int × Pr)
def lookAll : List Int → List Mt → Option (List Pr)
  | [], [] => some []
  | k :: ks, m :: ms => (alook m k).bind fun b => (lookAll ks ms).map (b :: ·)
  | [], _ :: _ => none
  | _ :: _, [] => none
def candOf (l : Str) (r : Rl) (bs : List Pr) : Pr := ((if l = r.2.1 then 0 else 1) + sumP bs, .nd r.2.1 (bs.map (·.2)))
def betterF (m : Mt) (k : Int) (b : Pr) : Mt := match alook m k with
  | none => aput m k b
  | some b0 => if ltP b b0 = true then aput m k b else m
def mendStep (l : Str) (ms : List Mt) (acc : Mt) (r : Rl) : Mt := match lookAll r.2.2 ms with
  | none => acc
  | some bs => betterF acc r.1 (candOf l r bs)
def mendF (R : List Rl) (l : Str) (ms : List Mt) : Mt := R.foldl (mendStep l ms) []
mutual
def mendT (R : List Rl) : Tr → Mt
  | .nd l ps => mendF R l (mendTs R ps)
def mendTs (R : List Rl) : List Tr → List Mt
  | [] => []
  | p :: ps => mendT R p :: mendTs R ps
end
theorem mendTs_map (R : List Rl) : ∀ ps, mendTs R ps = ps.map (mendT R)
  | [] => by rw [mendTs]; rfl
  | p :: ps => by rw [mendTs, mendTs_map R ps]; rfl
/-- what a table is to tell: T the trees of a kind -/
def Told (T : Tr → Int → Prop) (t : Tr) (m : Mt) : Prop := ∀ k, match alook m k with
  | none => ∀ s, form t s → ¬ T s k
  | some b => Best (fun s => form t s ∧ T s k) (chg t) b
def ofRs (R pre : List Rl) (s : Tr) (k : Int) : Prop := ∃ l ps ks, s = .nd l ps ∧ (k, l, ks) ∈ pre ∧ ofKs R ps ks
theorem lookAll_some {R : List Rl} : ∀ {ps : List Tr} {ks : List Int} {bs : List Pr}, (∀ p ∈ ps, Told (ofK R) p (mendT R p)) → lookAll ks (mendTs R ps) = some bs → Bests R ps ks bs
  | [], [], bs, _, e => by
    rw [mendTs, lookAll] at e
    cases e
    rw [Bests]
    trivial
  | [], _ :: _, _, _, e => by rw [mendTs, lookAll] at e; cases e
  | _ :: _, [], _, _, e => by rw [mendTs, lookAll] at e; cases e
  | p :: ps, k :: ks, bs, h, e => by
    rw [mendTs, lookAll] at e
    cases q : alook (mendT R p) k with
    | none => rw [q] at e; cases e
    | some b =>
      rw [q] at e
      cases r : lookAll ks (mendTs R ps) with
      | none => rw [r] at e; cases e
      | some bs' =>
        rw [r] at e
        cases e
        have t := h p List.mem_cons_self k
        rw [q] at t
        rw [Bests]
        exact ⟨t, lookAll_some (fun x m => h x (List.mem_cons_of_mem _ m)) r⟩
theorem lookAll_none {R : List Rl} : ∀ {ps : List Tr} {ks : List Int}, (∀ p ∈ ps, Told (ofK R) p (mendT R p)) → lookAll ks (mendTs R ps) = none → ∀ qs, forms ps qs → ¬ ofKs R qs ks
  | [], [], _, e => by rw [mendTs, lookAll] at e; cases e
  | [], k :: ks, _, _ => fun qs f o => by
    have a := forms_len f
    have b := ofKs_len o
    rw [← a] at b
    simp at b
  | p :: ps, [], _, _ => fun qs f o => by
    have a := forms_len f
    have b := ofKs_len o
    rw [b] at a
    simp at a
  | p :: ps, k :: ks, h, e => fun qs f o => by
    cases qs with
    | nil => rw [forms] at f; exact f
    | cons x qs =>
      rw [forms] at f
      rw [ofKs] at o
      rw [mendTs, lookAll] at e
      have t := h p List.mem_cons_self k
      cases q : alook (mendT R p) k with
      | none =>
        rw [q] at t
        exact t x f.1 o.1
      | some b =>
        rw [q] at e
        cases r : lookAll ks (mendTs R ps) with
        | some bs' => rw [r] at e; cases e
        | none => exact lookAll_none (fun x m => h x (List.mem_cons_of_mem _ m)) r qs f.2 o.2
theorem told_step {R pre : List Rl} {l : Str} {ps : List Tr} {acc : Mt} {r : Rl} (h : ∀ p ∈ ps, Told (ofK R) p (mendT R p)) (t : Told (ofRs R pre) (.nd l ps) acc) :
    Told (ofRs R (pre ++ [r])) (.nd l ps) (mendStep l (mendTs R ps) acc r) := by
  obtain ⟨k0, l', ks⟩ := r
  have sp : ∀ s k, ofRs R (pre ++ [(k0, l', ks)]) s k ↔ (ofRs R pre s k ∨ (k = k0 ∧ ∃ qs, s = .nd l' qs ∧ ofKs R qs ks)) := by
    intro s k
    constructor
    · rintro ⟨a, qs, ks', e, m, o⟩
      rcases List.mem_append.mp m with m | m
      · exact .inl ⟨a, qs, ks', e, m, o⟩
      · have := List.mem_singleton.mp m
        cases this
        exact .inr ⟨rfl, qs, e, o⟩
    · rintro (⟨a, qs, ks', e, m, o⟩ | ⟨rfl, qs, e, o⟩)
      · exact ⟨a, qs, ks', e, List.mem_append_left _ m, o⟩
      · exact ⟨l', qs, ks, e, List.mem_append_right _ List.mem_cons_self, o⟩
  unfold mendStep
  cases q : lookAll ks (mendTs R ps) with
  | none =>
    dsimp only
    have no := lookAll_none h q
    have sm : ∀ s k, form (.nd l ps) s → (ofRs R (pre ++ [(k0, l', ks)]) s k ↔ ofRs R pre s k) := fun s k f => by
      rw [sp]
      constructor
      · rintro (y | ⟨_, qs, e, o⟩)
        · exact y
        · subst e
          rw [form] at f
          exact (no qs f o).elim
      · exact .inl
    intro k
    have tk := t k
    cases e : alook acc k with
    | none =>
      rw [e] at tk
      exact fun s f y => tk s f ((sm s k f).mp y)
    | some b =>
      rw [e] at tk
      exact tk.congr fun s => and_congr_right fun f => (sm s k f).symm
  | some bs =>
    have br := best_rule (l := l) (l' := l') (lookAll_some h q)
    have ec : candOf l (k0, l', ks) bs = ((if l = l' then 0 else 1) + sumP bs, .nd l' (bs.map (·.2))) := rfl
    dsimp only
    rw [ec]
    generalize hc : (((if l = l' then 0 else 1) + sumP bs, .nd l' (bs.map (·.2))) : Pr) = cand at br
    intro k
    have tk := t k
    by_cases ek : k = k0
    · subst ek
      have un : ∀ s, (form (.nd l ps) s ∧ ofRs R (pre ++ [(k, l', ks)]) s k) ↔ ((form (.nd l ps) s ∧ ofRs R pre s k) ∨ (form (.nd l ps) s ∧ ∃ qs, s = .nd l' qs ∧ ofKs R qs ks)) := fun s => by
        rw [sp]
        constructor
        · rintro ⟨f, y | ⟨_, y⟩⟩
          · exact .inl ⟨f, y⟩
          · exact .inr ⟨f, y⟩
        · rintro (⟨f, y⟩ | ⟨f, y⟩)
          · exact ⟨f, .inl y⟩
          · exact ⟨f, .inr ⟨rfl, y⟩⟩
      unfold betterF
      cases e : alook acc k with
      | none =>
        rw [e] at tk
        dsimp only
        rw [alook_aput, if_pos rfl]
        dsimp only
        refine br.congr fun s => ?_
        rw [un]
        exact ⟨.inr, fun y => y.elim (fun z => (tk s z.1 z.2).elim) id⟩
      | some b0 =>
        rw [e] at tk
        dsimp only at tk ⊢
        by_cases z : ltP cand b0 = true
        · rw [if_pos z, alook_aput, if_pos rfl]
          dsimp only
          refine ⟨(un _).mpr (.inr br.of), br.cost, fun s y => ?_⟩
          rcases (un s).mp y with y | y
          · have a := tk.least s y
            cases w : ltP (chg (.nd l ps) s, s) cand with
            | false => rfl
            | true =>
              have := dl_tr w z
              have a' : dl (encP (chg (.nd l ps) s, s)) (encP b0) = false := a
              rw [this] at a'
              cases a'
          · exact br.least s y
        · rw [if_neg z, e]
          dsimp only
          refine ⟨(un _).mpr (.inl tk.of), tk.cost, fun s y => ?_⟩
          rcases (un s).mp y with y | y
          · exact tk.least s y
          · have a := br.least s y
            exact dl_nlt (y := encP cand) (Bool.eq_false_iff.mpr z) a
    · have sm : ∀ s, (form (.nd l ps) s ∧ ofRs R (pre ++ [(k0, l', ks)]) s k) ↔ (form (.nd l ps) s ∧ ofRs R pre s k) := fun s => by
        rw [sp]
        simp [ek]
      have same : alook (betterF acc k0 cand) k = alook acc k := by
        unfold betterF
        cases e : alook acc k0 with
        | none => dsimp only; rw [alook_aput, if_neg ek]
        | some b0 =>
          dsimp only
          split
          · rw [alook_aput, if_neg ek]
          · rfl
      rw [same]
      cases e : alook acc k with
      | none =>
        rw [e] at tk
        exact fun s f y => tk s f ((sm s).mp ⟨f, y⟩).2
      | some b =>
        rw [e] at tk
        exact tk.congr fun s => (sm s).symm
theorem told_fold {R : List Rl} {l : Str} {ps : List Tr} (h : ∀ p ∈ ps, Told (ofK R) p (mendT R p)) : ∀ (rs pre : List Rl) (acc : Mt), Told (ofRs R pre) (.nd l ps) acc → Told (ofRs R (pre ++ rs)) (.nd l ps) (rs.foldl (mendStep l (mendTs R ps)) acc)
  | [], pre, acc, t => by simpa using t
  | r :: rs, pre, acc, t => by
    have := told_fold h rs (pre ++ [r]) _ (told_step h t)
    rw [List.foldl_cons]
    simpa using this
/-- the table of a tree tells the nearest ones -/
theorem told_mend (R : List Rl) (t : Tr) : Told (ofK R) t (mendT R t) := by
  induction t using Tr.ind with
  | h l ps ih =>
    have b := told_fold (l := l) ih R [] [] (fun k => by rw [alook_nil]; rintro s f ⟨_, _, _, _, m, _⟩; cases m)
    rw [List.nil_append] at b
    rw [mendT]
    have e : ∀ s k, ofRs R R s k ↔ ofK R s k := fun s k => by
      cases s with
      | nd a qs =>
        rw [ofK]
        constructor
        · rintro ⟨_, _, ks, e, m, o⟩
          cases e
          exact ⟨ks, m, o⟩
        · rintro ⟨ks, m, o⟩
          exact ⟨a, qs, ks, rfl, m, o⟩
    intro k
    have bk := b k
    unfold mendF
    cases q : alook (R.foldl (mendStep l (mendTs R ps)) []) k with
    | none =>
      rw [q] at bk
      exact fun s f y => bk s f ((e s k).mpr y)
    | some x =>
      rw [q] at bk
      exact bk.congr fun s => and_congr_right fun _ => e s k
end Sh
set_option Elab.async false
set_option linter.all false
set_option maxRecDepth 100000
set_option maxHeartbeats 2000000
/-! Pl, part E: the readings evaluated. -/
namespace Sh
open PySem PySem.Spec PyProof.Rows L2
section
variable {α β : Type} {ρ : Env}
def bnd (r : Option (Ret α × Env)) (k : α → M β) : Option (Ret β × Env) := match r with
  | none => none
  | some (.ex x, ρ) => some (.ex x, ρ)
  | some (.ok a, ρ) => k a ρ
@[simp] theorem bnd_ok {a : α} {k : α → M β} : bnd (some (.ok a, ρ)) k = k a ρ := id rfl
@[simp] theorem bnd_ex {x : Ex} {k : α → M β} : bnd (some (.ex x, ρ)) k = some (.ex x, ρ) := id rfl
@[simp] theorem bnd_no {k : α → M β} : bnd none k = none := id rfl
@[simp ↓] theorem e_bind {f : M α} {k : α → M β} : (f >>= k) ρ = bnd (f ρ) k := id rfl
@[simp ↓] theorem e_pure {a : α} : (Pure.pure a : M α) ρ = some (.ok a, ρ) := id rfl
@[simp] theorem e_ite {c : Prop} [Decidable c] {f g : M α} : (if c then f else g) ρ = if c then f ρ else g ρ := by split <;> rfl
@[simp ↓] theorem e_lift {a : Option α} : lift a ρ = a.map fun x => (Ret.ok x, ρ) := by cases a <;> rfl
@[simp ↓] theorem e_guard {b : Bool} : guardM b ρ = if b = true then some (.ok (), ρ) else none := id rfl
@[simp ↓] theorem e_toD {f : M O} : toD f ρ = bnd (f ρ) fun o => guardM (!o.isScr) >>= fun _ => Pure.pure o.view := id rfl
@[simp ↓] theorem e_toO {f : M D} : toO f ρ = bnd (f ρ) fun d => Pure.pure (.dat d) := id rfl
@[simp ↓] theorem e_cD {d : D} : cD d ρ = some (.ok d, ρ) := id rfl
@[simp ↓] theorem e_bin {g : D → D → Option O} {fa fb : M D} : bin g fa fb ρ = bnd (fa ρ) fun x => fb >>= fun y => lift (g x y) := id rfl
@[simp ↓] theorem e_cmpD {g : D → D → Option Bool} {fa fb : M D} : cmpD g fa fb ρ = bnd (fa ρ) fun x => fb >>= fun y => lift (g x y) >>= fun k => Pure.pure (.bool k) := id rfl
@[simp ↓] theorem e_cmpT {g : D → D → Option Bool} {fa fb : M D} : cmpT g fa fb ρ = bnd (fa ρ) fun x => fb >>= fun y => lift (g x y) := id rfl
@[simp ↓] theorem e_chainM {g g' : D → D → Option Bool} {fa fb fc : M D} : chainM g g' fa fb fc ρ = bnd (fa ρ) fun x => fb >>= fun y => lift (g x y) >>= fun k => if k = true then fc >>= fun z => lift (g' y z) else Pure.pure false := id rfl
@[simp ↓] theorem e_chainD {g g' : D → D → Option Bool} {fa fb fc : M D} : chainD g g' fa fb fc ρ = bnd (chainM g g' fa fb fc ρ) fun k => Pure.pure (.bool k) := id rfl
@[simp ↓] theorem e_truT {f : M D} : truT f ρ = bnd (f ρ) fun d => lift (truD d) := id rfl
@[simp ↓] theorem e_notT {f : M Bool} : notT f ρ = bnd (f ρ) fun x => Pure.pure (!x) := id rfl
@[simp ↓] theorem e_notD {f : M D} : notD f ρ = bnd (f ρ) fun x => lift (boolD x) >>= fun k => Pure.pure (.bool (!k)) := id rfl
@[simp ↓] theorem e_negM {f : M D} : negM f ρ = bnd (f ρ) fun x => lift (negD x) := id rfl
@[simp ↓] theorem e_subM {f g : M D} : subM f g ρ = bnd (f ρ) fun d => g >>= fun k => lift (ixD d k) := id rfl
@[simp ↓] theorem e_slM {f : M D} {gl gh : M (Option Int)} : slM f gl gh ρ = bnd (f ρ) fun d => gl >>= fun l => gh >>= fun h => lift (slD d l h) := id rfl
@[simp ↓] theorem e_slN {i : Nat} {gl gh : M (Option Int)} : slN i gl gh ρ = bnd (chkN i ρ) fun _ => gl >>= fun l => gh >>= fun h => bor i >>= fun o => lift (slO o l h) := id rfl
@[simp ↓] theorem e_optM {f : M D} : optM f ρ = bnd (f ρ) fun d => lift (intD d) >>= fun i => Pure.pure (some i) := id rfl
@[simp ↓] theorem e_noM : noM ρ = some (.ok none, ρ) := id rfl
@[simp ↓] theorem e_revM {f : M D} : revM f ρ = bnd (f ρ) fun d => lift (revG d) := id rfl
@[simp ↓] theorem e_nilM : nilM ρ = some (.ok [], ρ) := id rfl
@[simp ↓] theorem e_consM {f : M D} {g : M (List D)} : consM f g ρ = bnd (f ρ) fun x => g >>= fun xs => Pure.pure (x :: xs) := id rfl
@[simp ↓] theorem e_tupM {f : M (List D)} : tupM f ρ = bnd (f ρ) fun xs => fitM xs >>= fun _ => Pure.pure (.tuple xs) := id rfl
@[simp ↓] theorem e_lstM {f : M (List D)} : lstM f ρ = bnd (f ρ) fun xs => fitM xs >>= fun _ => Pure.pure (.lst xs) := id rfl
@[simp ↓] theorem e_fitM {xs : List D} : fitM xs ρ = if xs.length ≤ sizeLine then some (.ok (), ρ) else none := by
  unfold fitM guardM
  simp
@[simp ↓] theorem e_dicM : dicM ρ = some (.ok (.dic []), ρ) := id rfl
@[simp ↓] theorem e_fnD {g : List D → Option D} {f : M (List D)} : fnD g f ρ = bnd (f ρ) fun ds => lift (g ds) := id rfl
@[simp ↓] theorem e_fnO {g : List D → Option O} {f : M (List D)} : fnO g f ρ = bnd (f ρ) fun ds => lift (g ds) := id rfl
@[simp ↓] theorem e_isM {tn : String} {f : M D} : isM tn f ρ = bnd (f ρ) fun d => Pure.pure (.bool (isD tn d)) := id rfl
@[simp ↓] theorem e_lzM {f : M (List D)} : lzM f ρ = bnd (f ρ) fun ds => lift (lzG ds) >>= fun zs => Pure.pure (.lst zs) := id rfl
@[simp ↓] theorem e_lrgM {f : M D} : lrgM f ρ = bnd (f ρ) fun d => lift (rgL d) := id rfl
@[simp ↓] theorem e_seqI {f : M D} : seqI f ρ = bnd (f ρ) fun d => lift (seqD d) := id rfl
@[simp ↓] theorem e_argI {g : List D → Option (List D)} {f : M (List D)} : argI g f ρ = bnd (f ρ) fun ds => lift (g ds) := id rfl
@[simp ↓] theorem e_andM {f g : M Bool} : andM f g ρ = bnd (f ρ) fun x => if x = true then g else Pure.pure false := id rfl
@[simp ↓] theorem e_orM {f g : M Bool} : orM f g ρ = bnd (f ρ) fun x => if x = true then Pure.pure true else g := id rfl
@[simp ↓] theorem e_andD {f g : M D} : andD f g ρ = bnd (f ρ) fun x => lift (boolD x) >>= fun k => if k = true then g else Pure.pure (.bool false) := id rfl
@[simp ↓] theorem e_orD {f g : M D} : orD f g ρ = bnd (f ρ) fun x => lift (boolD x) >>= fun k => if k = true then Pure.pure (.bool true) else g := id rfl
@[simp ↓] theorem e_iteM {f : M Bool} {g h : M α} : iteM f g h ρ = bnd (f ρ) fun x => if x = true then g else h := id rfl
@[simp ↓] theorem e_trueM : trueM ρ = some (.ok true, ρ) := id rfl
@[simp ↓] theorem e_lendM {i : Nat} {f : M (List D)} : lendM i f ρ = bnd (chkN i ρ) fun _ => f := id rfl
/-! slots -/
@[simp ↓] theorem e_chkN {i : Nat} : chkN i ρ = match ρ[i]? with
  | some (some _) => some (.ok (), ρ)
  | _ => none := id rfl
@[simp ↓] theorem e_bor {i : Nat} : bor i ρ = match ρ[i]? with
  | some (some o) => some (.ok o, ρ)
  | _ => none := id rfl
@[simp ↓] theorem e_getD {i : Nat} : getD i ρ = match ρ[i]? with
  | some (some o) => if o.isScr = true then none else some (.ok o.view, ρ.set i (some (.dat o.view)))
  | _ => none := id rfl
@[simp ↓] theorem e_subN {i : Nat} {g : M D} : subN i g ρ = bnd (chkN i ρ) fun _ => g >>= fun k => bor i >>= fun o => if o.isDil = true then getD i >>= fun d => lift (ixD d k) else lift (ixO o k) := id rfl
@[simp ↓] theorem e_lenN {i : Nat} : lenN i ρ = bnd (bor i ρ) fun o => lift (lenO o) >>= fun n => Pure.pure (.int n) := id rfl
@[simp ↓] theorem e_inN {i : Nat} {f : M D} : inN i f ρ = bnd (f ρ) fun d => bor i >>= fun o => lift (inOG d o) := id rfl
@[simp ↓] theorem e_notinN {i : Nat} {f : M D} : notinN i f ρ = bnd (f ρ) fun d => bor i >>= fun o => lift (inOG d o) >>= fun b => Pure.pure (!b) := id rfl
@[simp ↓] theorem e_modM {i : Nat} {f : O → Option (D × O)} : modM i f ρ = match ρ[i]? with
  | some (some o) => (f o).map fun p => (.ok p.1, ρ.set i (some p.2))
  | _ => none := id rfl
@[simp ↓] theorem e_chkO {p : O → Bool} {i : Nat} : chkO p i ρ = match ρ[i]? with
  | some (some o) => if p o = true then some (.ok (), ρ) else none
  | _ => none := id rfl
@[simp ↓] theorem e_appM {i : Nat} {f : M (List D)} : appM i f ρ = bnd (chkO isLst i ρ) fun _ => f >>= fun ds => modM i (appG ds) := id rfl
@[simp ↓] theorem e_extM {i : Nat} {f : M (List D)} : extM i f ρ = bnd (chkO isLst i ρ) fun _ => f >>= fun ds => modM i (extG ds) := id rfl
@[simp ↓] theorem e_popM {i : Nat} : popM i ρ = bnd (chkO isLst i ρ) fun _ => modM i (popG []) := id rfl
@[simp ↓] theorem e_takeO {i : Nat} : takeO i ρ = match ρ[i]? with
  | some (some o) => some (.ok o, ρ.set i none)
  | _ => none := id rfl
@[simp ↓] theorem e_putO {i : Nat} {o : O} : putO i o ρ = if i < ρ.length then some (.ok (), ρ.set i (some o)) else none := id rfl
@[simp ↓] theorem e_dilApp {i : Nat} {fk fd : M D} : dilApp i fk fd ρ = bnd (takeO i ρ) fun o => fk >>= fun k => lift (dilKey o k) >>= fun r => fd >>= fun d => guardM (decide (r.2.2.length < sizeLine)) >>= fun _ => putO i (.dil (lSet r.1 r.2.1 (r.2.2 ++ [d]))) >>= fun _ => Pure.pure .none := id rfl
@[simp ↓] theorem e_setM {i : Nat} {o : O} : setM i o ρ = if i < ρ.length then some (.ok .nx, ρ.set i (some o)) else none := id rfl
@[simp ↓] theorem e_asgM {g : G} {d : D} : asgM g d ρ = (g d ρ).map fun ρ' => (.ok .nx, ρ') := id rfl
@[simp ↓] theorem e_augM {op : Int → Int → Int} {i : Nat} {f : M D} : augM op i f ρ = bnd (bor i ρ) fun o => f >>= fun d => lift (match o, d with
  | .dat (.int a), .int b => some (.int (op a b))
  | _, _ => none) >>= fun z => setM i (.dat z) := id rfl
@[simp ↓] theorem e_stoM {i : Nat} {fv fk : M D} : stoM i fv fk ρ = bnd (fv ρ) fun d => chkN i >>= fun _ => fk >>= fun k => modM i (stoG k d) >>= fun _ => Pure.pure .nx := id rfl
@[simp ↓] theorem e_setO {i : Nat} {f : M O} : setO i f ρ = bnd (f ρ) fun o => setM i o := id rfl
@[simp ↓] theorem e_setD {i : Nat} {f : M D} : setD i f ρ = bnd (f ρ) fun d => setM i (.dat d) := id rfl
@[simp ↓] theorem e_asgD {g : G} {f : M D} : asgD g f ρ = bnd (f ρ) fun d => asgM g d := id rfl
@[simp ↓] theorem e_parM {is : List Nat} {f : M (List O)} : parM is f ρ = bnd (f ρ) fun os => setsM is os := id rfl
@[simp ↓] theorem e_setsM {is : List Nat} {os : List O} : setsM is os ρ = (setsE ρ is os).map fun ρ' => (.ok .nx, ρ') := id rfl
@[simp] theorem e_setsE0 : setsE ρ [] [] = some ρ := id rfl
@[simp] theorem e_setsE {i : Nat} {is : List Nat} {o : O} {os : List O} : setsE ρ (i :: is) (o :: os) = if i < ρ.length then setsE (ρ.set i (some o)) is os else none := id rfl
@[simp ↓] theorem e_nilO : nilO ρ = some (.ok [], ρ) := id rfl
@[simp ↓] theorem e_consO {f : M O} {g : M (List O)} : consO f g ρ = bnd (f ρ) fun x => g >>= fun xs => Pure.pure (x :: xs) := id rfl
@[simp ↓] theorem e_gNm {i : Nat} {d : D} : gNm i d ρ = if i < ρ.length then some (ρ.set i (some (.dat d))) else none := id rfl
@[simp] theorem e_gsNil : gsNil [] ρ = some ρ := id rfl
@[simp] theorem e_gsCons {g : G} {gs : Gs} {d : D} {r : List D} : gsCons g gs (d :: r) ρ = (g d ρ).bind fun ρ' => gs r ρ' := id rfl
@[simp] theorem e_gTp {n : Nat} {gs : Gs} {ds : List D} : gTp n gs (.tuple ds) ρ = if ds.length = n then gs ds ρ else none := id rfl
/-! statements -/
def sq (r : Option (Ret Fl × Env)) (g : M Fl) : Option (Ret Fl × Env) := match r with
  | none => none
  | some (.ex x, ρ) => some (.ex x, ρ)
  | some (.ok .nx, ρ) => g ρ
  | some (.ok (.rt o), ρ) => some (.ok (.rt o), ρ)
  | some (.ok .bk, ρ) => some (.ok .bk, ρ)
  | some (.ok .ct, ρ) => some (.ok .ct, ρ)
@[simp] theorem sq_nx {g : M Fl} : sq (some (.ok .nx, ρ)) g = g ρ := id rfl
@[simp] theorem sq_rt {g : M Fl} {o : O} : sq (some (.ok (.rt o), ρ)) g = some (.ok (.rt o), ρ) := id rfl
@[simp] theorem sq_bk {g : M Fl} : sq (some (.ok .bk, ρ)) g = some (.ok .bk, ρ) := id rfl
@[simp] theorem sq_ct {g : M Fl} : sq (some (.ok .ct, ρ)) g = some (.ok .ct, ρ) := id rfl
@[simp] theorem sq_ex {g : M Fl} {x : Ex} : sq (some (.ex x, ρ)) g = some (.ex x, ρ) := id rfl
@[simp] theorem sq_no {g : M Fl} : sq none g = none := id rfl
@[simp ↓] theorem e_seqM {f g : M Fl} : seqM f g ρ = sq (f ρ) g := by
  show M.bind f _ ρ = _
  unfold M.bind sq
  cases f ρ with
  | none => rfl
  | some p =>
    obtain ⟨r, ρ'⟩ := p
    cases r with
    | ex x => rfl
    | ok fl => cases fl <;> rfl
@[simp ↓] theorem e_retO {f : M O} : retO f ρ = bnd (f ρ) fun o => Pure.pure (.rt o) := id rfl
@[simp ↓] theorem e_retD {f : M D} : retD f ρ = bnd (f ρ) fun d => Pure.pure (.rt (.dat d)) := id rfl
@[simp ↓] theorem e_retV {i : Nat} : retV i ρ = bnd (takeO i ρ) fun o => Pure.pure (.rt o) := id rfl
@[simp ↓] theorem e_retN : retN ρ = some (.ok (.rt (.dat .none)), ρ) := id rfl
@[simp ↓] theorem e_nxM : nxM ρ = some (.ok .nx, ρ) := id rfl
@[simp ↓] theorem e_bkM : bkM ρ = some (.ok .bk, ρ) := id rfl
@[simp ↓] theorem e_ctnM : ctnM ρ = some (.ok .ct, ρ) := id rfl
@[simp ↓] theorem e_exprD {f : M D} : exprD f ρ = bnd (f ρ) fun _ => Pure.pure .nx := id rfl
@[simp ↓] theorem e_exprO {f : M O} : exprO f ρ = bnd (f ρ) fun _ => Pure.pure .nx := id rfl
@[simp ↓] theorem e_raiseM {cls : Str} : raiseM cls ρ = some (.ex ⟨cls, none⟩, ρ) := id rfl
@[simp ↓] theorem e_forM {g : G} {fi : M (List D)} {fb : M Fl} : forM' g fi fb ρ = bnd (fi ρ) fun ds => forL g fb ds := id rfl
def lcE (vs : List Nat) (ρ1 : Env) (r : Option (List D × Env)) : Option (Ret O × Env) := r.map fun p => (.ok (.lst p.1), restE ρ1 p.2 vs)
@[simp] theorem lcE_some {vs : List Nat} {ρ1 ρ2 : Env} {ys : List D} : lcE vs ρ1 (some (ys, ρ2)) = some (.ok (.lst ys), restE ρ1 ρ2 vs) := id rfl
def lcR (vs : List Nat) (g : G) (ft : M Bool) (fe : M D) (ds : List D) : M O := fun ρ1 => if vs.all (fun v => okSlot ρ1[v]?) = true then lcE vs ρ1 (lcLoop vs g ft fe ds [] (wipeE ρ1 vs)) else none
@[simp ↓] theorem e_lcR {vs : List Nat} {g : G} {ft : M Bool} {fe : M D} {ds : List D} : lcR vs g ft fe ds ρ = if vs.all (fun v => okSlot ρ[v]?) = true then lcE vs ρ (lcLoop vs g ft fe ds [] (wipeE ρ vs)) else none := id rfl
@[simp ↓] theorem e_lcM {vs : List Nat} {fi : M (List D)} {g : G} {ft : M Bool} {fe : M D} : lcM vs fi g ft fe ρ = bnd (fi ρ) fun ds => lcR vs g ft fe ds := by
  show M.bind fi _ ρ = _
  unfold M.bind bnd
  cases fi ρ with
  | none => rfl
  | some p =>
    obtain ⟨r, ρ'⟩ := p
    cases r with
    | ex x => rfl
    | ok ds =>
      dsimp only
      unfold lcR lcE
      split
      · cases lcLoop vs g ft fe ds [] (wipeE ρ' vs) <;> rfl
      · rfl
def dcE (vs : List Nat) (ρ1 : Env) (r : Option (O × Env)) : Option (Ret O × Env) := r.map fun p => (.ok p.1, restE ρ1 p.2 vs)
@[simp] theorem dcE_some {vs : List Nat} {ρ1 ρ2 : Env} {o : O} : dcE vs ρ1 (some (o, ρ2)) = some (.ok o, restE ρ1 ρ2 vs) := id rfl
def dcR (vs : List Nat) (o0 : O) (g : G) (ft : M Bool) (fk : M D) (fv : M O) (ds : List D) : M O := fun ρ1 => if vs.all (fun v => okSlot ρ1[v]?) = true ∧ o0.dk0 = true then dcE vs ρ1 (dcLoop vs g ft fk fv ds o0 (wipeE ρ1 vs)) else none
@[simp ↓] theorem e_dcR {vs : List Nat} {o0 : O} {g : G} {ft : M Bool} {fk : M D} {fv : M O} {ds : List D} : dcR vs o0 g ft fk fv ds ρ = if vs.all (fun v => okSlot ρ[v]?) = true ∧ o0.dk0 = true then dcE vs ρ (dcLoop vs g ft fk fv ds o0 (wipeE ρ vs)) else none := id rfl
@[simp] theorem e_dk0 : (O.dic []).dk0 = true := id rfl
@[simp] theorem e_dl0 : (O.dil []).dk0 = true := id rfl
@[simp ↓] theorem e_dcM {vs : List Nat} {o0 : O} {fi : M (List D)} {g : G} {ft : M Bool} {fk : M D} {fv : M O} : dcM vs o0 fi g ft fk fv ρ = bnd (fi ρ) fun ds => dcR vs o0 g ft fk fv ds := by
  show M.bind fi _ ρ = _
  unfold M.bind bnd
  cases fi ρ with
  | none => rfl
  | some p =>
    obtain ⟨r, ρ'⟩ := p
    cases r with
    | ex x => rfl
    | ok ds =>
      dsimp only
      unfold dcR dcE
      split
      · cases dcLoop vs g ft fk fv ds o0 (wipeE ρ' vs) <;> rfl
      · rfl
/-! calls: what they give alone -/
def val (r : Option (Ret O × Env)) : Option (Ret O) := r.map (·.1)
def valN (p : Nat) (r : Option (Ret O × Env)) : Option (Ret O × Option O) := r.map fun x => (x.1, (x.2[p]?).join)
def cl (r : Option (Ret O)) : M O := fun ρ => r.map fun x => (x, ρ)
def clN (i : Nat) (r : Option (Ret O × Option O)) : M O := fun ρ => r.map fun x => (x.1, ρ.set i x.2)
@[simp] theorem cl_some {r : Ret O} : cl (some r) ρ = some (r, ρ) := id rfl
@[simp] theorem clN_some {i : Nat} {r : Ret O} {o : Option O} : clN i (some (r, o)) ρ = some (r, ρ.set i o) := id rfl
def callR (g : Fn) (n : Nat) (ds : List D) : M O := fun ρ => if ds.length = n then (val (g (ds.map .dat))).map fun x => (x, ρ) else none
@[simp ↓] theorem e_callR {g : Fn} {n : Nat} {ds : List D} : callR g n ds ρ = if ds.length = n then cl (val (g (ds.map .dat))) ρ else none := id rfl
@[simp ↓] theorem e_callM {g : Fn} {n : Nat} {f : M (List D)} : callM g n f ρ = bnd (f ρ) fun ds => callR g n ds := by
  show M.bind f _ ρ = _
  unfold M.bind bnd
  cases f ρ with
  | none => rfl
  | some p =>
    obtain ⟨r, ρ'⟩ := p
    cases r with
    | ex x => rfl
    | ok ds =>
      dsimp only
      unfold callR
      split
      · unfold val
        cases h : g (ds.map .dat) with
        | none => rfl
        | some q =>
          obtain ⟨r, o⟩ := q
          cases r <;> rfl
      · rfl
def callNR (g : Fn) (n p i : Nat) (ds : List D) : M O := fun ρ => match ρ[i]? with
  | some (some o) => if ds.length + 1 = n ∧ p ≤ ds.length then (valN p (g (ins p o (ds.map .dat)))).map fun x => (x.1, ρ.set i x.2) else none
  | _ => none
@[simp ↓] theorem e_callNR {g : Fn} {n p i : Nat} {ds : List D} : callNR g n p i ds ρ = match ρ[i]? with
  | some (some o) => if ds.length + 1 = n ∧ p ≤ ds.length then clN i (valN p (g (ins p o (ds.map .dat)))) ρ else none
  | _ => none := id rfl
@[simp ↓] theorem e_callN {g : Fn} {n p i : Nat} {f : M (List D)} : callN g n p i f ρ = bnd (f ρ) fun ds => callNR g n p i ds := by
  show M.bind f _ ρ = _
  unfold M.bind bnd
  cases f ρ with
  | none => rfl
  | some q =>
    obtain ⟨r, ρ'⟩ := q
    cases r with
    | ex x => rfl
    | ok ds =>
      dsimp only
      unfold callNR
      cases ρ'[i]? with
      | none => rfl
      | some s =>
        cases s with
        | none => rfl
        | some o =>
          dsimp only
          split
          · unfold valN
            cases h : g (ins p o (ds.map .dat)) with
            | none => rfl
            | some q =>
              obtain ⟨r, o⟩ := q
              rfl
          · rfl
def rn (r : Option (Ret Fl × Env)) : Option (Ret O) := match r with
  | some (.ok (.rt o), _) => some (.ok o)
  | some (.ok .nx, _) => some (.ok (.dat .none))
  | some (.ex x, _) => some (.ex x)
  | _ => none
def rnN (p : Nat) (r : Option (Ret Fl × Env)) : Option (Ret O × Option O) := match r with
  | some (.ok (.rt o), ρ) => some (.ok o, (ρ[p]?).join)
  | some (.ok .nx, ρ) => some (.ok (.dat .none), (ρ[p]?).join)
  | some (.ex x, ρ) => some (.ex x, (ρ[p]?).join)
  | _ => none
@[simp] theorem rn_rt {o : O} : rn (some (.ok (.rt o), ρ)) = some (.ok o) := id rfl
@[simp] theorem rn_nx : rn (some (.ok .nx, ρ)) = some (.ok (.dat .none)) := id rfl
@[simp] theorem rn_ex {x : Ex} : rn (some (.ex x, ρ)) = some (.ex x) := id rfl
@[simp] theorem rnN_rt {p : Nat} {o : O} : rnN p (some (.ok (.rt o), ρ)) = some (.ok o, (ρ[p]?).join) := id rfl
@[simp] theorem rnN_nx {p : Nat} : rnN p (some (.ok .nx, ρ)) = some (.ok (.dat .none), (ρ[p]?).join) := id rfl
@[simp] theorem rnN_ex {p : Nat} {x : Ex} : rnN p (some (.ex x, ρ)) = some (.ex x, (ρ[p]?).join) := id rfl
@[simp] theorem val_run {f : M Fl} {N : Nat} {os : List O} : val (runM f N os) = rn (f (os.map some ++ List.replicate (N - os.length) none)) := by
  unfold val runM rn
  cases f (os.map some ++ List.replicate (N - os.length) none) with
  | none => rfl
  | some p =>
    obtain ⟨r, ρ'⟩ := p
    cases r with
    | ex x => rfl
    | ok fl => cases fl <;> rfl
@[simp] theorem valN_run {p : Nat} {f : M Fl} {N : Nat} {os : List O} : valN p (runM f N os) = rnN p (f (os.map some ++ List.replicate (N - os.length) none)) := by
  unfold valN runM rnN
  cases f (os.map some ++ List.replicate (N - os.length) none) with
  | none => rfl
  | some q =>
    obtain ⟨r, ρ'⟩ := q
    cases r with
    | ex x => rfl
    | ok fl => cases fl <;> rfl
@[simp] theorem e_view {d : D} : (O.dat d).view = d := id rfl
@[simp] theorem e_viewL {ds : List D} : (O.lst ds).view = .list ds := id rfl
@[simp] theorem e_viewK {ds : List (Key × D)} : (O.dic ds).view = .dict (ds.map fun p => (kD p.1, p.2)) := id rfl
@[simp] theorem e_scr {d : D} : (O.dat d).isScr = false := id rfl
@[simp] theorem e_scrL {d : List D} : (O.lst d).isScr = false := id rfl
@[simp] theorem e_scrK {d : List (Key × D)} : (O.dic d).isScr = false := id rfl
@[simp] theorem e_scrI {d : List (Key × List D)} : (O.dil d).isScr = false := id rfl
@[simp] theorem e_dilD {d : D} : (O.dat d).isDil = false := id rfl
@[simp] theorem e_dilL {d : List D} : (O.lst d).isDil = false := id rfl
@[simp] theorem e_dilK {d : List (Key × D)} : (O.dic d).isDil = false := id rfl
@[simp] theorem e_dilI {d : List (Key × List D)} : (O.dil d).isDil = true := id rfl
@[simp] theorem e_boolD {b : Bool} : boolD (.bool b) = some b := id rfl
@[simp] theorem e_truB {b : Bool} : truD (.bool b) = some b := id rfl
@[simp] theorem e_intD {b : Int} : intD (.int b) = some b := id rfl
@[simp] theorem e_negD {b : Int} : negD (.int b) = some (.int (-b)) := id rfl
@[simp] theorem e_lenL {ds : List D} : lenO (.lst ds) = some (ds.length : Int) := id rfl
@[simp] theorem e_lenK {ds : List (Key × D)} : lenO (.dic ds) = some (ds.length : Int) := id rfl
@[simp] theorem e_lenT {ds : List D} : lenO (.dat (.tuple ds)) = some (ds.length : Int) := id rfl
@[simp] theorem e_lenDL {ds : List D} : lenO (.dat (.list ds)) = some (ds.length : Int) := id rfl
@[simp] theorem e_lenG {d : D} : lenG [d] = (lenO (.dat d)).map .int := id rfl
@[simp] theorem e_leB {i j : Int} : leB (.int i) (.int j) = some (decide (i ≤ j)) := id rfl
@[simp] theorem e_gtB {i j : Int} : gtB (.int i) (.int j) = some (decide (j < i)) := id rfl
@[simp] theorem e_geB {i j : Int} : geB (.int i) (.int j) = some (decide (j ≤ i)) := id rfl
@[simp] theorem e_add {i j : Int} : addO (.int i) (.int j) = some (.dat (.int (i + j))) := id rfl
@[simp] theorem e_sub {i j : Int} : subO (.int i) (.int j) = some (.dat (.int (i - j))) := id rfl
@[simp] theorem e_div {i j : Int} : divO (.int i) (.int j) = if j ≠ 0 ∧ j.natAbs < 1073741824 then some (.dat (.int (i.fdiv j))) else none := id rfl
@[simp] theorem e_mod {i j : Int} : modO (.int i) (.int j) = if j ≠ 0 then some (.dat (.int (i.fmod j))) else none := id rfl
@[simp] theorem e_mul {i j : Int} : mulO (.int i) (.int j) = if CMul i j then some (.dat (.int (i * j))) else none := id rfl
@[simp] theorem e_pow {i j : Int} : powO (.int i) (.int j) = if CPow i j then some (.dat (.int (i ^ j.toNat))) else none := id rfl
@[simp] theorem e_addT {xs ys : List D} : addO (.tuple xs) (.tuple ys) = if xs.length + ys.length ≤ sizeLine then some (.dat (.tuple (xs ++ ys))) else none := id rfl
@[simp] theorem e_addL {xs ys : List D} : addO (.list xs) (.list ys) = if xs.length + ys.length ≤ sizeLine then some (.lst (xs ++ ys)) else none := id rfl
@[simp] theorem e_int1 {i : Int} : intG [.int i] = some (.int i) := id rfl
@[simp] theorem e_int2 {b : Bool} : intG [.bool b] = some (.int (if b then 1 else 0)) := id rfl
@[simp] theorem e_abs {i : Int} : absG [.int i] = some (.int (if i < 0 then -i else i)) := id rfl
@[simp] theorem e_seqL {ds : List D} : seqD (.list ds) = some ds := id rfl
@[simp] theorem e_seqT {ds : List D} : seqD (.tuple ds) = some ds := id rfl
@[simp] theorem e_tupL {ds : List D} : tupG [.list ds] = some (.tuple ds) := id rfl
@[simp] theorem e_tupT {ds : List D} : tupG [.tuple ds] = some (.tuple ds) := id rfl
@[simp] theorem e_lstL {ds : List D} : listG [.list ds] = some (.lst ds) := id rfl
@[simp] theorem e_lstT {ds : List D} : listG [.tuple ds] = some (.lst ds) := id rfl
@[simp] theorem e_revL {ds : List D} : revG (.list ds) = some (.lst ds.reverse) := id rfl
@[simp] theorem e_revT {ds : List D} : revG (.tuple ds) = some (.dat (.tuple ds.reverse)) := id rfl
@[simp] theorem e_isLst {ds : List D} : isLst (.lst ds) = true := id rfl
@[simp] theorem e_appG {d : D} {ds : List D} : appG [d] (.lst ds) = if ds.length < sizeLine then some (.none, .lst (ds ++ [d])) else none := id rfl
@[simp] theorem e_extL {es ds : List D} : extG [.list es] (.lst ds) = if ds.length + es.length ≤ sizeLine then some (.none, .lst (ds ++ es)) else none := id rfl
@[simp] theorem e_extT {es ds : List D} : extG [.tuple es] (.lst ds) = if ds.length + es.length ≤ sizeLine then some (.none, .lst (ds ++ es)) else none := id rfl
@[simp] theorem e_popG {ds : List D} : popG [] (.lst ds) = (ds[ds.length - 1]?).map fun d => (d, .lst ds.dropLast) := id rfl
@[simp] theorem e_ixT {xs : List D} {i : Int} : ixD (.tuple xs) (.int i) = atI xs i := id rfl
@[simp] theorem e_ixL {xs : List D} {i : Int} : ixD (.list xs) (.int i) = atI xs i := id rfl
@[simp] theorem e_ixOd {d k : D} : ixO (.dat d) k = ixD d k := id rfl
@[simp] theorem e_ixOl {xs : List D} {i : Int} : ixO (.lst xs) (.int i) = atI xs i := id rfl
@[simp] theorem e_sizeLine : sizeLine = 16777216 := sizeLine_eq
@[simp] theorem e_okNo : okSlot (some none) = true := id rfl
@[simp] theorem e_okD {d : D} : okSlot (some (some (.dat d))) = true := id rfl
@[simp] theorem e_wipe0 : wipeE ρ [] = ρ := id rfl
@[simp] theorem e_wipe {v : Nat} {vs : List Nat} : wipeE ρ (v :: vs) = (wipeE ρ vs).set v none := id rfl
theorem atI_nat {α : Type} {xs : List α} {n : Nat} : atI xs (n : Int) = xs[n]? := by
  unfold atI ixN
  rw [if_pos (by omega)]
  by_cases h : n < xs.length
  · rw [if_pos (by omega)]; simp
  · rw [if_neg (by omega), List.getElem?_eq_none (by omega)]; rfl
@[simp] theorem atI_0 {α : Type} {x : α} {xs : List α} : atI (x :: xs) 0 = some x := by
  have := atI_nat (xs := x :: xs) (n := 0)
  simpa using this
@[simp] theorem atI_1 {α : Type} {x y : α} {xs : List α} : atI (x :: y :: xs) 1 = some y := by
  have := atI_nat (xs := x :: y :: xs) (n := 1)
  simpa using this
@[simp] theorem atI_2 {α : Type} {x y z : α} {xs : List α} : atI (x :: y :: z :: xs) 2 = some z := by
  have := atI_nat (xs := x :: y :: z :: xs) (n := 2)
  simpa using this
@[simp] theorem atI_3 {α : Type} {x y z u : α} {xs : List α} : atI (x :: y :: z :: u :: xs) 3 = some u := by
  have := atI_nat (xs := x :: y :: z :: u :: xs) (n := 3)
  simpa using this
@[simp] theorem atI_4 {α : Type} {x y z u v : α} {xs : List α} : atI (x :: y :: z :: u :: v :: xs) 4 = some v := by
  have := atI_nat (xs := x :: y :: z :: u :: v :: xs) (n := 4)
  simpa using this
/-- one turn -/
theorem forL_cons {g : G} {fb : M Fl} {d : D} {ds : List D} : forL g fb (d :: ds) ρ = match g d ρ with
  | none => none
  | some ρ1 => (match fb ρ1 with
    | none => none
    | some (.ex x, ρ2) => some (.ex x, ρ2)
    | some (.ok .nx, ρ2) => forL g fb ds ρ2
    | some (.ok .ct, ρ2) => forL g fb ds ρ2
    | some (.ok .bk, ρ2) => some (.ok .nx, ρ2)
    | some (.ok (.rt o), ρ2) => some (.ok (.rt o), ρ2)) := by
  rw [forL]
  dsimp only
  cases g d ρ with
  | none => rfl
  | some ρ1 =>
    dsimp only
    show M.bind fb _ ρ1 = _
    unfold M.bind
    cases fb ρ1 with
    | none => rfl
    | some p =>
      obtain ⟨r, ρ2⟩ := p
      cases r with
      | ex x => rfl
      | ok fl => cases fl <;> rfl
/-- a loop by what holds behind each turn; it may end at a turn -/
theorem forL_run {g : G} {fb : M Fl} {ds : List D} (I : List D → Env → Prop) (Q : Ret Fl → Env → Prop) (hs : ∀ pre d post ρ, ds = pre ++ d :: post → I pre ρ → ∃ ρ1 r ρ2, g d ρ = some ρ1 ∧ fb ρ1 = some (r, ρ2) ∧ match r with
    | .ok .nx => I (pre ++ [d]) ρ2
    | .ok .ct => I (pre ++ [d]) ρ2
    | .ok .bk => Q (.ok .nx) ρ2
    | .ok (.rt o) => Q (.ok (.rt o)) ρ2
    | .ex x => Q (.ex x) ρ2) (he : ∀ ρ, I ds ρ → Q (.ok .nx) ρ) : ∀ (post pre : List D) (ρ : Env), ds = pre ++ post → I pre ρ → ∃ r ρ', forL g fb post ρ = some (r, ρ') ∧ Q r ρ'
  | [], pre, ρ, e, h => ⟨_, ρ, rfl, he ρ (by rw [e, List.append_nil]; exact h)⟩
  | d :: post, pre, ρ, e, h => by
    obtain ⟨ρ1, r, ρ2, h1, h2, h3⟩ := hs pre d post ρ e h
    have e' : ds = (pre ++ [d]) ++ post := by rw [e]; simp
    rw [forL_cons, h1]
    dsimp only
    rw [h2]
    cases r with
    | ex x => exact ⟨_, _, rfl, h3⟩
    | ok fl =>
      cases fl with
      | nx => exact forL_run I Q hs he post (pre ++ [d]) ρ2 e' h3
      | ct => exact forL_run I Q hs he post (pre ++ [d]) ρ2 e' h3
      | bk => exact ⟨_, _, rfl, h3⟩
      | rt o => exact ⟨_, _, rfl, h3⟩
theorem forL_all {g : G} {fb : M Fl} {ds : List D} {ρ : Env} (I : List D → Env → Prop) (h0 : I [] ρ) (hs : ∀ pre d post ρ, ds = pre ++ d :: post → I pre ρ → ∃ ρ1 ρ2, g d ρ = some ρ1 ∧ fb ρ1 = some (.ok .nx, ρ2) ∧ I (pre ++ [d]) ρ2) :
    ∃ ρ', forL g fb ds ρ = some (.ok .nx, ρ') ∧ I ds ρ' := by
  obtain ⟨r, ρ', e, q⟩ := forL_run (g := g) (fb := fb) (ds := ds) I (fun r ρ => r = .ok .nx ∧ I ds ρ) (fun pre d post ρ e h => by
    obtain ⟨ρ1, ρ2, h1, h2, h3⟩ := hs pre d post ρ e h
    exact ⟨ρ1, _, ρ2, h1, h2, h3⟩) (fun ρ h => ⟨rfl, h⟩) ds [] ρ rfl h0
  obtain ⟨rfl, q⟩ := q
  exact ⟨ρ', e, q⟩
/-- a while by a measure; it may end at a turn -/
theorem whileU_run {σ : Type} {ft : M Bool} {fb : M Fl} (R : σ → Env → Prop) (μ : σ → Nat) (Q : Ret Fl → Env → Prop) (hs : ∀ s ρ, R s ρ → (∃ ρ1, ft ρ = some (.ok false, ρ1) ∧ Q (.ok .nx) ρ1) ∨ ∃ ρ1 r ρ2, ft ρ = some (.ok true, ρ1) ∧ fb ρ1 = some (r, ρ2) ∧ match r with
    | .ok .nx => ∃ s', μ s' < μ s ∧ R s' ρ2
    | .ok .ct => ∃ s', μ s' < μ s ∧ R s' ρ2
    | .ok .bk => Q (.ok .nx) ρ2
    | .ok (.rt o) => Q (.ok (.rt o)) ρ2
    | .ex x => Q (.ex x) ρ2) (s : σ) (ρ : Env) (h : R s ρ) : ∃ r ρ', whileU ft fb ρ = some (r, ρ') ∧ Q r ρ' := by
  have key : ∀ (n : Nat) (s : σ) (ρ : Env), μ s ≤ n → R s ρ → ∃ r ρ', whileM ft fb (n + 1) ρ = some (r, ρ') ∧ Q r ρ' := by
    intro n
    induction n with
    | zero =>
      intro s ρ hm h
      rcases hs s ρ h with ⟨ρ1, e, q⟩ | ⟨ρ1, r, ρ2, e1, e2, q⟩
      · refine ⟨_, _, ?_, q⟩
        show M.bind ft _ ρ = _
        unfold M.bind
        rw [e]
        rfl
      · have go : ∀ (f : M Fl), (M.bind ft (fun b => if b = true then f else Pure.pure .nx)) ρ = f ρ1 := fun f => by
          unfold M.bind
          rw [e1]
          rfl
        cases r with
        | ex x => exact ⟨_, _, (go _).trans (by show M.bind fb _ ρ1 = _; unfold M.bind; rw [e2]), q⟩
        | ok fl =>
          cases fl with
          | nx => obtain ⟨s', l, _⟩ := q; omega
          | ct => obtain ⟨s', l, _⟩ := q; omega
          | bk => exact ⟨_, _, (go _).trans (by show M.bind fb _ ρ1 = _; unfold M.bind; rw [e2]; rfl), q⟩
          | rt o => exact ⟨_, _, (go _).trans (by show M.bind fb _ ρ1 = _; unfold M.bind; rw [e2]; rfl), q⟩
    | succ n ih =>
      intro s ρ hm h
      rcases hs s ρ h with ⟨ρ1, e, q⟩ | ⟨ρ1, r, ρ2, e1, e2, q⟩
      · refine ⟨_, _, ?_, q⟩
        show M.bind ft _ ρ = _
        unfold M.bind
        rw [e]
        rfl
      · have go : ∀ (f : M Fl), (M.bind ft (fun b => if b = true then f else Pure.pure .nx)) ρ = f ρ1 := fun f => by
          unfold M.bind
          rw [e1]
          rfl
        cases r with
        | ex x => exact ⟨_, _, (go _).trans (by show M.bind fb _ ρ1 = _; unfold M.bind; rw [e2]), q⟩
        | ok fl =>
          cases fl with
          | nx =>
            obtain ⟨s', l, q⟩ := q
            obtain ⟨r, ρ', e3, q3⟩ := ih s' ρ2 (by omega) q
            exact ⟨r, ρ', (go _).trans (by show M.bind fb _ ρ1 = _; unfold M.bind; rw [e2]; exact e3), q3⟩
          | ct =>
            obtain ⟨s', l, q⟩ := q
            obtain ⟨r, ρ', e3, q3⟩ := ih s' ρ2 (by omega) q
            exact ⟨r, ρ', (go _).trans (by show M.bind fb _ ρ1 = _; unfold M.bind; rw [e2]; exact e3), q3⟩
          | bk => exact ⟨_, _, (go _).trans (by show M.bind fb _ ρ1 = _; unfold M.bind; rw [e2]; rfl), q⟩
          | rt o => exact ⟨_, _, (go _).trans (by show M.bind fb _ ρ1 = _; unfold M.bind; rw [e2]; rfl), q⟩
  obtain ⟨r, ρ', e, q⟩ := key (μ s) s ρ (Nat.le_refl _) h
  exact ⟨r, ρ', whileU_eq e, q⟩
/-- a comprehension by what holds behind each turn -/
theorem lc_run {vs : List Nat} {g : G} {ft : M Bool} {fe : M D} {ds : List D} (I : List D → List D → Env → Prop) (hl : ds.length ≤ sizeLine) (hs : ∀ pre d post out ρ, ds = pre ++ d :: post → I pre out ρ → ∃ ρ1 b ρ2, g d ρ = some ρ1 ∧ ft ρ1 = some (.ok b, ρ2) ∧ match b with
    | false => I (pre ++ [d]) out (wipeE ρ2 vs)
    | true => ∃ y ρ3, fe ρ2 = some (.ok y, ρ3) ∧ I (pre ++ [d]) (out ++ [y]) (wipeE ρ3 vs)) : ∀ (post pre out : List D) (ρ : Env), ds = pre ++ post → out.length ≤ pre.length → I pre out ρ → ∃ ys ρ', lcLoop vs g ft fe post out ρ = some (ys, ρ') ∧ I ds ys ρ'
  | [], pre, out, ρ, e, _, h => ⟨out, ρ, rfl, by rw [e, List.append_nil]; exact h⟩
  | d :: post, pre, out, ρ, e, l, h => by
    obtain ⟨ρ1, b, ρ2, h1, h2, h3⟩ := hs pre d post out ρ e h
    have e' : ds = (pre ++ [d]) ++ post := by rw [e]; simp
    have el : ds.length = pre.length + (post.length + 1) := by rw [e]; simp
    rw [lcLoop, h1]
    dsimp only
    rw [h2]
    cases b with
    | false => exact lc_run I hl hs post (pre ++ [d]) out _ e' (by simp; omega) h3
    | true =>
      obtain ⟨y, ρ3, h4, h5⟩ := h3
      dsimp only
      rw [h4]
      dsimp only
      rw [if_pos (by omega)]
      exact lc_run I hl hs post (pre ++ [d]) (out ++ [y]) _ e' (by simp; omega) h5
end
end Sh
set_option Elab.async false
set_option linter.all false
set_option maxRecDepth 100000
set_option maxHeartbeats 2000000
/-! Pl, part F: loops told by what holds. -/
namespace Sh
open PySem PySem.Spec PyProof.Rows L2
section
variable {ρ : Env}
def turn (r : Option (Ret Fl × Env)) (P : Env → Prop) (C : Option (Ret Fl × Env) → Prop) : Prop := match r with
  | some (.ok .nx, ρ) => P ρ
  | some (.ok .ct, ρ) => P ρ
  | some (.ok .bk, ρ) => C (some (.ok .nx, ρ))
  | some (.ok (.rt o), ρ) => C (some (.ok (.rt o), ρ))
  | some (.ex x, ρ) => C (some (.ex x, ρ))
  | none => False
@[simp] theorem turn_nx {P : Env → Prop} {C : Option (Ret Fl × Env) → Prop} : turn (some (.ok .nx, ρ)) P C = P ρ := id rfl
@[simp] theorem turn_ct {P : Env → Prop} {C : Option (Ret Fl × Env) → Prop} : turn (some (.ok .ct, ρ)) P C = P ρ := id rfl
@[simp] theorem turn_bk {P : Env → Prop} {C : Option (Ret Fl × Env) → Prop} : turn (some (.ok .bk, ρ)) P C = C (some (.ok .nx, ρ)) := id rfl
@[simp] theorem turn_rt {P : Env → Prop} {C : Option (Ret Fl × Env) → Prop} {o : O} : turn (some (.ok (.rt o), ρ)) P C = C (some (.ok (.rt o), ρ)) := id rfl
@[simp] theorem turn_ex {P : Env → Prop} {C : Option (Ret Fl × Env) → Prop} {x : Ex} : turn (some (.ex x, ρ)) P C = C (some (.ex x, ρ)) := id rfl
def gb (r : Option Env) (f : M Fl) : Option (Ret Fl × Env) := match r with
  | some ρ => f ρ
  | none => none
@[simp] theorem gb_some {f : M Fl} : gb (some ρ) f = f ρ := id rfl
theorem for_C {g : G} {fb : M Fl} {ds : List D} {C : Option (Ret Fl × Env) → Prop} (I : List D → Env → Prop) (h0 : I [] ρ) (hs : ∀ pre d post ρ, ds = pre ++ d :: post → I pre ρ → turn (gb (g d ρ) fb) (I (pre ++ [d])) C) (he : ∀ ρ', I ds ρ' → C (some (.ok .nx, ρ'))) : C (forL g fb ds ρ) := by
  obtain ⟨r, ρ', e, q⟩ := forL_run (g := g) (fb := fb) (ds := ds) I (fun r ρ => C (some (r, ρ))) (fun pre d post ρ e h => by
    have t := hs pre d post ρ e h
    cases q : g d ρ with
    | none => rw [q] at t; exact t.elim
    | some ρ1 =>
      rw [q] at t
      have t : turn (fb ρ1) (I (pre ++ [d])) C := t
      cases q2 : fb ρ1 with
      | none => rw [q2] at t; exact t.elim
      | some p =>
        obtain ⟨r, ρ2⟩ := p
        rw [q2] at t
        refine ⟨ρ1, r, ρ2, rfl, q2, ?_⟩
        cases r with
        | ex x => exact t
        | ok fl => cases fl <;> exact t) he ds [] ρ rfl h0
  rw [e]
  exact q
def wturn (ft : M Bool) (fb : M Fl) (ρ : Env) (P : Env → Prop) (C : Option (Ret Fl × Env) → Prop) : Prop := turn (bnd (ft ρ) fun b => if b = true then fb else Pure.pure .bk) P C
theorem while_C {σ : Type} {ft : M Bool} {fb : M Fl} {C : Option (Ret Fl × Env) → Prop} (R : σ → Env → Prop) (μ : σ → Nat) (s : σ) (h0 : R s ρ) (hs : ∀ s ρ, R s ρ → ∃ b ρ1, ft ρ = some (.ok b, ρ1) ∧ match b with
    | true => turn (fb ρ1) (fun ρ' => ∃ s', μ s' < μ s ∧ R s' ρ') C
    | false => C (some (.ok .nx, ρ1))) : C (whileU ft fb ρ) := by
  obtain ⟨r, ρ', e, q⟩ := whileU_run (ft := ft) (fb := fb) R μ (fun r ρ => C (some (r, ρ))) (fun s ρ h => by
    obtain ⟨b, ρ1, e, t⟩ := hs s ρ h
    cases b with
    | false => exact .inl ⟨ρ1, e, t⟩
    | true =>
      refine .inr ?_
      dsimp only at t
      cases q2 : fb ρ1 with
      | none => rw [q2] at t; exact t.elim
      | some p =>
        obtain ⟨r, ρ2⟩ := p
        rw [q2] at t
        refine ⟨ρ1, r, ρ2, e, q2, ?_⟩
        cases r with
        | ex x => exact t
        | ok fl => cases fl <;> exact t) s ρ h0
  rw [e]
  exact q
/-- a turn of a comprehension -/
def lturn (vs : List Nat) (r : Option Env) (ft : M Bool) (fe : M D) : Option (Ret (Option D) × Env) := r.bind fun ρ1 => (bnd (ft ρ1) fun b => if b = true then (fe >>= fun y => Pure.pure (some y)) else Pure.pure none).map fun q => (q.1, wipeE q.2 vs)
theorem lturn_inv {vs : List Nat} {r : Option Env} {ft : M Bool} {fe : M D} {o : Option D} {ρ' : Env} (h : lturn vs r ft fe = some (.ok o, ρ')) : ∃ ρ1 b ρ2, r = some ρ1 ∧ ft ρ1 = some (.ok b, ρ2) ∧ match b with
    | false => o = none ∧ ρ' = wipeE ρ2 vs
    | true => ∃ y ρ3, fe ρ2 = some (.ok y, ρ3) ∧ o = some y ∧ ρ' = wipeE ρ3 vs := by
  unfold lturn at h
  cases r with
  | none => cases h
  | some ρ1 =>
    refine ⟨ρ1, ?_⟩
    rw [Option.bind_some] at h
    cases e : ft ρ1 with
    | none => rw [e] at h; cases h
    | some p =>
      obtain ⟨b, ρ2⟩ := p
      rw [e] at h
      cases b with
      | ex x => cases h
      | ok b =>
        refine ⟨b, ρ2, rfl, rfl, ?_⟩
        rw [bnd_ok] at h
        cases b with
        | false => cases h; exact ⟨rfl, rfl⟩
        | true =>
          rw [if_pos rfl, e_bind] at h
          dsimp only
          cases e2 : fe ρ2 with
          | none => rw [e2] at h; cases h
          | some p =>
            obtain ⟨y, ρ3⟩ := p
            rw [e2] at h
            cases y with
            | ex x => cases h
            | ok y => cases h; exact ⟨y, ρ3, rfl, rfl, rfl⟩
def addO? (out : List D) : Option D → List D
  | none => out
  | some y => out ++ [y]
@[simp] theorem addO_none {out : List D} : addO? out none = out := id rfl
@[simp] theorem addO_some {out : List D} {y : D} : addO? out (some y) = out ++ [y] := id rfl
theorem lc_ex {vs : List Nat} {g : G} {ft : M Bool} {fe : M D} {ds : List D} (I : List D → List D → Env → Prop) (h0 : I [] [] ρ) (hl : ds.length ≤ sizeLine) (hs : ∀ pre d post out ρ, ds = pre ++ d :: post → I pre out ρ → ∃ o ρ', lturn vs (g d ρ) ft fe = some (.ok o, ρ') ∧ I (pre ++ [d]) (addO? out o) ρ') :
    ∃ ys ρ', lcLoop vs g ft fe ds [] ρ = some (ys, ρ') ∧ I ds ys ρ' := by
  refine lc_run I hl (fun pre d post out ρ e h => ?_) ds [] [] ρ rfl (Nat.le_refl _) h0
  obtain ⟨o, ρ', t, i⟩ := hs pre d post out ρ e h
  obtain ⟨ρ1, b, ρ2, e1, e2, k⟩ := lturn_inv t
  refine ⟨ρ1, b, ρ2, e1, e2, ?_⟩
  cases b with
  | false => obtain ⟨rfl, rfl⟩ := k; exact i
  | true => obtain ⟨y, ρ3, e3, rfl, rfl⟩ := k; exact ⟨y, ρ3, e3, i⟩
/-- a comprehension that leaves the slots -/
theorem lc_all {vs : List Nat} {g : G} {ft : M Bool} {fe : M D} {ds : List D} (f : D → Option D) (hl : ds.length ≤ sizeLine) (hs : ∀ d ∈ ds, lturn vs (g d ρ) ft fe = some (.ok (f d), ρ)) : lcLoop vs g ft fe ds [] ρ = some (ds.filterMap f, ρ) := by
  obtain ⟨ys, ρ', e, h1, h2⟩ := lc_ex (ρ := ρ) (vs := vs) (g := g) (ft := ft) (fe := fe) (ds := ds) (fun pre out ρ1 => out = pre.filterMap f ∧ ρ1 = ρ) ⟨rfl, rfl⟩ hl (fun pre d post out ρ1 e h => by
    obtain ⟨rfl, rfl⟩ := h
    refine ⟨_, _, hs d (by rw [e]; simp), ?_, rfl⟩
    rw [List.filterMap_append]
    cases q : f d <;> simp [q])
  rw [e, h1, h2]
theorem lc_map {vs : List Nat} {g : G} {fe : M D} {ds : List D} (f : D → D) (hl : ds.length ≤ sizeLine) (hs : ∀ d ∈ ds, lturn vs (g d ρ) trueM fe = some (.ok (some (f d)), ρ)) : lcLoop vs g trueM fe ds [] ρ = some (ds.map f, ρ) := by
  have h := lc_all (ρ := ρ) (fun d => some (f d)) hl hs
  rw [h]
  have : (fun d => some (f d)) = some ∘ f := rfl
  rw [this, List.filterMap_eq_map]
theorem lc_mapE {α : Type} {vs : List Nat} {g : G} {fe : M D} {xs : List α} {e : α → D} (f : α → D) (hl : xs.length ≤ sizeLine) (hs : ∀ x ∈ xs, lturn vs (g (e x) ρ) trueM fe = some (.ok (some (f x)), ρ)) : lcLoop vs g trueM fe (xs.map e) [] ρ = some (xs.map f, ρ) := by
  obtain ⟨ys, ρ', e1, h1, h2⟩ := lc_ex (ρ := ρ) (vs := vs) (g := g) (ft := trueM) (fe := fe) (ds := xs.map e) (fun pre out ρ1 => out = (xs.take pre.length).map f ∧ ρ1 = ρ) ⟨rfl, rfl⟩ (by simpa using hl) (fun pre d post out ρ1 q h => by
    obtain ⟨rfl, rfl⟩ := h
    have hp : (xs.map e)[pre.length]? = some d := by rw [q]; simp
    rw [List.getElem?_map] at hp
    cases hx : xs[pre.length]? with
    | none => rw [hx] at hp; cases hp
    | some x =>
      rw [hx] at hp
      cases hp
      refine ⟨_, _, hs x (List.mem_of_getElem? hx), ?_, rfl⟩
      rw [addO_some, List.length_append, List.length_singleton, List.take_add_one, hx]
      simp)
  rw [e1, h1, h2]
  simp
theorem lc_filE {α : Type} {vs : List Nat} {g : G} {ft : M Bool} {fe : M D} {xs : List α} {e : α → D} (p : α → Bool) (f : α → D) (hl : xs.length ≤ sizeLine) (hs : ∀ x ∈ xs, lturn vs (g (e x) ρ) ft fe = some (.ok (if p x = true then some (f x) else none), ρ)) : lcLoop vs g ft fe (xs.map e) [] ρ = some ((xs.filter p).map f, ρ) := by
  obtain ⟨ys, ρ', e1, h1, h2⟩ := lc_ex (ρ := ρ) (vs := vs) (g := g) (ft := ft) (fe := fe) (ds := xs.map e) (fun pre out ρ1 => out = ((xs.take pre.length).filter p).map f ∧ ρ1 = ρ) ⟨rfl, rfl⟩ (by simpa using hl) (fun pre d post out ρ1 q h => by
    obtain ⟨rfl, rfl⟩ := h
    have hp : (xs.map e)[pre.length]? = some d := by rw [q]; simp
    rw [List.getElem?_map] at hp
    cases hx : xs[pre.length]? with
    | none => rw [hx] at hp; cases hp
    | some x =>
      rw [hx] at hp
      cases hp
      refine ⟨_, _, hs x (List.mem_of_getElem? hx), ?_, rfl⟩
      rw [List.length_append, List.length_singleton, List.take_add_one, hx]
      by_cases z : p x = true <;> simp [z])
  rw [e1, h1, h2]
  simp
/-- the first turn may freeze something -/
theorem lc_mapZ {α : Type} {vs : List Nat} {g : G} {fe : M D} {xs : List α} {e : α → D} {X : Option (List D × Env)} (hX : lcLoop vs g trueM fe (xs.map e) [] ρ = X) (f : α → D) (ρ1 : Env) (hl : xs.length ≤ sizeLine)
    (hs : ∀ x ∈ xs, ∀ ρ', ρ' = ρ ∨ ρ' = ρ1 → lturn vs (g (e x) ρ') trueM fe = some (.ok (some (f x)), ρ1)) : ∃ ρ', X = some (xs.map f, ρ') ∧ (ρ' = ρ ∨ ρ' = ρ1) := by
  obtain ⟨ys, ρ', e1, ⟨h1, h2⟩⟩ := lc_ex (ρ := ρ) (vs := vs) (g := g) (ft := trueM) (fe := fe) (ds := xs.map e) (fun pre out ρ' => out = (xs.take pre.length).map f ∧ (ρ' = ρ ∨ ρ' = ρ1)) ⟨rfl, .inl rfl⟩ (by simpa using hl) (fun pre d post out ρ' q h => by
    obtain ⟨rfl, k⟩ := h
    have hp : (xs.map e)[pre.length]? = some d := by rw [q]; simp
    rw [List.getElem?_map] at hp
    cases hx : xs[pre.length]? with
    | none => rw [hx] at hp; cases hp
    | some x =>
      rw [hx] at hp
      cases hp
      refine ⟨_, _, hs x (List.mem_of_getElem? hx) ρ' k, ?_, .inr rfl⟩
      rw [addO_some, List.length_append, List.length_singleton, List.take_add_one, hx]
      simp)
  refine ⟨ρ', ?_, h2⟩
  rw [← hX, e1, h1]
  simp
theorem lc_X {vs : List Nat} {g : G} {ft : M Bool} {fe : M D} {ds : List D} {X : Option (List D × Env)} (hX : lcLoop vs g ft fe ds [] ρ = X) (I : List D → List D → Env → Prop) (h0 : I [] [] ρ) (hl : ds.length ≤ sizeLine) (hs : ∀ pre d post out ρ, ds = pre ++ d :: post → I pre out ρ → ∃ o ρ', lturn vs (g d ρ) ft fe = some (.ok o, ρ') ∧ I (pre ++ [d]) (addO? out o) ρ') :
    ∃ ys ρ', X = some (ys, ρ') ∧ I ds ys ρ' := by
  obtain ⟨ys, ρ', e, h⟩ := lc_ex I h0 hl hs
  exact ⟨ys, ρ', by rw [← hX, e], h⟩
theorem for_X {g : G} {fb : M Fl} {ds : List D} {X : Option (Ret Fl × Env)} (hX : forL g fb ds ρ = X) (I : List D → Env → Prop) (h0 : I [] ρ) (hs : ∀ pre d post ρ, ds = pre ++ d :: post → I pre ρ → turn (gb (g d ρ) fb) (I (pre ++ [d])) fun _ => False) : ∃ ρ', X = some (.ok .nx, ρ') ∧ I ds ρ' := by
  have := for_C (C := fun r => ∃ ρ', r = some (.ok .nx, ρ') ∧ I ds ρ') I h0 (fun pre d post ρ e h => by
    have t := hs pre d post ρ e h
    revert t
    cases gb (g d ρ) fb with
    | none => exact id
    | some p =>
      obtain ⟨r, ρ2⟩ := p
      cases r with
      | ex x => exact fun z => z.elim
      | ok fl =>
        cases fl with
        | nx => exact id
        | ct => exact id
        | bk => exact fun z => z.elim
        | rt o => exact fun z => z.elim) (fun ρ' h => ⟨ρ', rfl, h⟩)
  rw [hX] at this
  exact this
theorem for_XE {α : Type} {g : G} {fb : M Fl} {xs : List α} {e : α → D} {X : Option (Ret Fl × Env)} (hX : forL g fb (xs.map e) ρ = X) (I : List α → Env → Prop) (h0 : I [] ρ) (hs : ∀ pre x post ρ, xs = pre ++ x :: post → I pre ρ → turn (gb (g (e x) ρ) fb) (I (pre ++ [x])) fun _ => False) : ∃ ρ', X = some (.ok .nx, ρ') ∧ I xs ρ' := by
  obtain ⟨ρ', e1, h⟩ := for_X hX (fun pre ρ => I (xs.take pre.length) ρ) h0 (fun pre d post ρ q h => by
    have hp : (xs.map e)[pre.length]? = some d := by rw [q]; simp
    rw [List.getElem?_map] at hp
    cases hx : xs[pre.length]? with
    | none => rw [hx] at hp; cases hp
    | some x =>
      rw [hx] at hp
      cases hp
      obtain ⟨hl, hx2⟩ := List.getElem?_eq_some_iff.mp hx
      have e2 : xs = xs.take pre.length ++ x :: xs.drop (pre.length + 1) := by
        rw [← hx2, ← List.drop_eq_getElem_cons hl, List.take_append_drop]
      have t := hs _ x _ ρ e2 h
      have e3 : (pre ++ [e x]).length = pre.length + 1 := by simp
      rw [e3, List.take_add_one, hx]
      exact t)
  refine ⟨ρ', e1, ?_⟩
  simpa using h
theorem lc_XE {α : Type} {vs : List Nat} {g : G} {ft : M Bool} {fe : M D} {xs : List α} {e : α → D} {X : Option (List D × Env)} (hX : lcLoop vs g ft fe (xs.map e) [] ρ = X) (I : List α → List D → Env → Prop) (h0 : I [] [] ρ) (hl : xs.length ≤ sizeLine) (hs : ∀ pre x post out ρ, xs = pre ++ x :: post → I pre out ρ → ∃ o ρ', lturn vs (g (e x) ρ) ft fe = some (.ok o, ρ') ∧ I (pre ++ [x]) (addO? out o) ρ') :
    ∃ ys ρ', X = some (ys, ρ') ∧ I xs ys ρ' := by
  obtain ⟨ys, ρ', e1, h⟩ := lc_X hX (fun pre out ρ => I (xs.take pre.length) out ρ) h0 (by simpa using hl) (fun pre d post out ρ q h => by
    have hp : (xs.map e)[pre.length]? = some d := by rw [q]; simp
    rw [List.getElem?_map] at hp
    cases hx : xs[pre.length]? with
    | none => rw [hx] at hp; cases hp
    | some x =>
      rw [hx] at hp
      cases hp
      obtain ⟨hl, hx2⟩ := List.getElem?_eq_some_iff.mp hx
      have e2 : xs = xs.take pre.length ++ x :: xs.drop (pre.length + 1) := by
        rw [← hx2, ← List.drop_eq_getElem_cons hl, List.take_append_drop]
      obtain ⟨o, ρ', t, k⟩ := hs _ x _ out ρ e2 h
      have e3 : (pre ++ [e x]).length = pre.length + 1 := by simp
      refine ⟨o, ρ', t, ?_⟩
      rw [e3, List.take_add_one, hx]
      exact k)
  refine ⟨ys, ρ', e1, ?_⟩
  simpa using h
@[simp] theorem e_lturn {vs : List Nat} {ρ1 : Env} {ft : M Bool} {fe : M D} : lturn vs (some ρ1) ft fe = (bnd (ft ρ1) fun b => if b = true then (fe >>= fun y => Pure.pure (some y)) else Pure.pure none).map fun q => (q.1, wipeE q.2 vs) := id rfl
theorem e_eqI {i j : Int} : PyData.eqv (.int i) (.int j) = decide (i = j) := by
  unfold PyData.eqv
  by_cases h : i = j <;> simp [h]
theorem e_eqS {i j : Str} : PyData.eqv (.str i) (.str j) = decide (i = j) := by
  unfold PyData.eqv
  by_cases h : i = j <;> simp [h]
theorem e_eqO {i j : Bool} : PyData.eqv (.bool i) (.bool j) = decide (i = j) := by
  unfold PyData.eqv
  by_cases h : i = j <;> simp [h]
@[simp] theorem e_shI {i : Int} : SeqAt.shaped (.int i) = true := id rfl
@[simp] theorem e_shB {i : Bool} : SeqAt.shaped (.bool i) = true := id rfl
@[simp] theorem e_shN : SeqAt.shaped .none = true := id rfl
@[simp] theorem e_eqBI {i j : Int} : eqB (.int i) (.int j) = some (decide (i = j)) := by
  unfold eqB
  rw [if_pos ⟨e_shI, e_shI⟩, e_eqI]
@[simp] theorem e_neBI {i j : Int} : neB (.int i) (.int j) = some (!decide (i = j)) := by
  unfold neB
  rw [e_eqBI]
  rfl
@[simp] theorem e_eqBB {i j : Bool} : eqB (.bool i) (.bool j) = some (decide (i = j)) := by
  unfold eqB
  rw [if_pos ⟨e_shB, e_shB⟩, e_eqO]
@[simp] theorem e_neBB {i j : Bool} : neB (.bool i) (.bool j) = some (!decide (i = j)) := by
  unfold neB
  rw [e_eqBB]
  rfl
theorem e_shS {x : Str} (h : (PyData.str x).canLay0 = true) : SeqAt.shaped (.str x) = true := by
  unfold SeqAt.shaped
  simp [h, PyData.depth]
theorem e_eqBS {x y : Str} (h : (PyData.str x).canLay0 = true) (k : (PyData.str y).canLay0 = true) : eqB (.str x) (.str y) = some (decide (x = y)) := by
  unfold eqB
  rw [if_pos ⟨e_shS h, e_shS k⟩, e_eqS]
theorem e_neBS {x y : Str} (h : (PyData.str x).canLay0 = true) (k : (PyData.str y).canLay0 = true) : neB (.str x) (.str y) = some (!decide (x = y)) := by
  unfold neB
  rw [e_eqBS h k]
  rfl
@[simp] theorem e_isN {d : D} : isB d .none = some (isNone d) := id rfl
@[simp] theorem e_notN {d : D} : notB d .none = some (!isNone d) := id rfl
@[simp] theorem e_isBB {a b : Bool} : isB (.bool a) (.bool b) = some (decide (a = b)) := id rfl
@[simp] theorem e_notBB {a b : Bool} : notB (.bool a) (.bool b) = some (!decide (a = b)) := id rfl
/-- what a row of tests says -/
theorem bools_map {α : Type} {f : α → Bool} : ∀ {xs : List α}, boolsD (xs.map fun x => .bool (f x)) = some (xs.map f)
  | [] => rfl
  | x :: xs => by simp [boolsD, bools_map (xs := xs)]
@[simp] theorem e_all {α : Type} {f : α → Bool} {xs : List α} : allG [.list (xs.map fun x => .bool (f x))] = some (.bool (xs.all f)) := by
  simp [allG, bools_map]
theorem ints_map {α : Type} {f : α → Int} : ∀ {xs : List α}, intsD (xs.map fun x => .int (f x)) = some (xs.map f)
  | [] => rfl
  | x :: xs => by simp [intsD, ints_map (xs := xs)]
@[simp] theorem e_sum {α : Type} {f : α → Int} {xs : List α} : sumG [.list (xs.map fun x => .int (f x))] = some (.int (xs.map f).sum) := by
  simp [sumG, ints_map]
end
end Sh
set_option Elab.async false
set_option linter.all false
set_option maxRecDepth 100000
set_option maxHeartbeats 2000000
/-! Pl, part G: signatures, trees of them; rows that rise; dicts. -/
namespace Sh
open PySem PySem.Spec PyProof.Rows L2
@[simp] theorem atI_n {α : Type} {xs : List α} {n : Nat} : atI xs (n : Int) = xs[n]? := atI_nat
@[simp] theorem atI_ns {α : Type} {xs : List α} {n : Nat} : atI xs ((n : Int) + 1) = xs[n + 1]? := by
  have := atI_nat (xs := xs) (n := n + 1)
  simpa using this
/-! ### rows that rise -/
def risingD : List D → Bool
  | a :: b :: r => dl a b && risingD (b :: r)
  | _ => true
/-- neighbours can be compared -/
def CmpN (ds : List D) : Prop := ∀ i a b, ds[i]? = some a → ds[i + 1]? = some b → ltB a b = some (dl a b)
theorem rising_range : ∀ ds : List D, ((List.range (ds.length - 1)).all fun i => dl (ds.getD i .none) (ds.getD (i + 1) .none)) = risingD ds
  | [] => rfl
  | [_] => rfl
  | a :: b :: r => by
    rw [risingD, ← rising_range (b :: r)]
    simp only [List.length_cons, Nat.add_sub_cancel]
    rw [List.range_succ_eq_map, List.all_cons, List.all_map]
    simp [Function.comp_def]
def cmpOk (d : D) : Bool := d.canLay0 && !isNone d && decide (d.depth ≤ 64)
theorem ltB_some {a b : D} (ha : cmpOk a = true) (hb : b.canLay0 = true) (h : PySem.W.alike a b = true) : ltB a b = some (dl a b) := by
  simp only [cmpOk, Bool.and_eq_true, decide_eq_true_eq, Bool.not_eq_true'] at ha
  unfold ltB
  rw [if_pos ⟨ha.1.1, hb, h, ha.1.2, ha.2⟩]
theorem cmpN_of {ds : List D} (h : ∀ d ∈ ds, cmpOk d = true) (k : ∀ a ∈ ds, ∀ b ∈ ds, PySem.W.alike a b = true) : CmpN ds := fun i a b e1 e2 => by
  have m1 := List.mem_of_getElem? e1
  have m2 := List.mem_of_getElem? e2
  have hb := h b m2
  simp only [cmpOk, Bool.and_eq_true] at hb
  exact ltB_some (h a m1) hb.1.1 (k a m1 b m2)
/-! ### dicts -/
theorem dval_kD (k : Key) (kds : List (Key × D)) : dval (kds.map fun p => (kD p.1, p.2)) k = dlook kds k := dval_map k kds
theorem dlook_nil (k : Key) : dlook [] k = none := rfl
theorem dlook_cons (p : Key × D) (m : List (Key × D)) (k : Key) : dlook (p :: m) k = if p.1 = k then some p.2 else dlook m k := by
  unfold dlook
  rw [List.find?_cons]
  by_cases h : p.1 = k <;> simp [h]
theorem putD_new {m : List (Key × D)} {k : Key} {d : D} (h : k ∉ m.map (·.1)) : putD m k d = m ++ [(k, d)] := by
  unfold putD
  rw [if_neg]
  intro z
  obtain ⟨p, h1, h2⟩ := List.any_eq_true.mp z
  exact h (List.mem_map.mpr ⟨p, h1, by simpa using h2⟩)
theorem mergeD_new : ∀ {more acc : List (Key × D)}, ((acc ++ more).map (·.1)).Nodup → mergeD acc more = acc ++ more
  | [], acc, _ => by simp [mergeD]
  | p :: more, acc, h => by
    have h1 : p.1 ∉ acc.map (·.1) := by
      intro z
      rw [List.map_append, List.nodup_append] at h
      exact h.2.2 p.1 z p.1 (by simp) rfl
    have e : mergeD acc (p :: more) = mergeD (putD acc p.1 p.2) more := rfl
    rw [e, putD_new h1, mergeD_new (by simpa using h)]
    simp
/-! ### signatures -/
abbrev Sg := List (Str × Int)
def prD (p : Str × Int) : D := .tuple [.str p.1, .int p.2]
def sgD (g : Sg) : D := .tuple (g.map prD)
def rk (g : Sg) (l : Str) : Option Int := (g.find? fun p => decide (p.1 = l)).map (·.2)
def rkD (g : Sg) : List (Key × D) := g.map fun p => (.inr p.1, .int p.2)
theorem pairs_sg : ∀ g : Sg, pairsD (g.map prD) = some (rkD g)
  | [] => rfl
  | p :: g => by
    rw [List.map_cons]
    show pairsD (.tuple [.str p.1, .int p.2] :: g.map prD) = _
    rw [pairsD, pairs_sg g]
    rfl
theorem dlook_rk : ∀ (g : Sg) (l : Str), dlook (rkD g) (.inr l) = (rk g l).map .int
  | [], _ => rfl
  | p :: g, l => by
    have ih := dlook_rk g l
    unfold rkD at ih ⊢
    rw [List.map_cons, dlook_cons, ih]
    unfold rk
    rw [List.find?_cons]
    by_cases h : p.1 = l <;> simp [h]
theorem rk_mem {g : Sg} {l : Str} {r : Int} (h : rk g l = some r) : (l, r) ∈ g := by
  unfold rk at h
  cases e : g.find? (fun p => decide (p.1 = l)) with
  | none => rw [e] at h; cases h
  | some p =>
    rw [e] at h
    have m := List.mem_of_find?_eq_some e
    have q := List.find?_some e
    simp at q h
    rw [← q, ← h]
    exact m
theorem rk_of_mem : ∀ {g : Sg} {l : Str} {r : Int}, (g.map (·.1)).Nodup → (l, r) ∈ g → rk g l = some r
  | p :: g, l, r, h, m => by
    unfold rk
    rw [List.find?_cons]
    rw [List.map_cons, List.nodup_cons] at h
    rcases List.mem_cons.mp m with e | m
    · rw [← e]; simp
    · have ne : p.1 ≠ l := fun e => h.1 (List.mem_map.mpr ⟨_, m, e.symm⟩)
      simp only [ne, decide_false]
      exact rk_of_mem h.2 m
theorem nodup_inr {xs : List Str} (h : xs.Nodup) : (xs.map (Sum.inr : Str → Key)).Nodup := by
  rw [List.nodup_iff_pairwise_ne] at h ⊢
  rw [List.pairwise_map]
  exact h.imp fun h e => h (Sum.inr.inj e)
theorem dict_sg {g : Sg} (h : (g.map (·.1)).Nodup) : dictG [sgD g] = some (.dic (rkD g)) := by
  have e : dictG [sgD g] = (pairsD (g.map prD)).map fun kds => .dic (mergeD [] kds) := rfl
  rw [e, pairs_sg, Option.map_some, mergeD_new]
  · simp
  · rw [List.nil_append]
    have q : (rkD g).map (·.1) = (g.map (·.1)).map Sum.inr := by
      unfold rkD
      rw [List.map_map, List.map_map]
      rfl
    rw [q]
    exact nodup_inr h
mutual
/-- a tree of a signature -/
def okT (g : Sg) : Tr → Prop
  | .nd l ps => rk g l = some (ps.length : Int) ∧ okTs g ps
def okTs (g : Sg) : List Tr → Prop
  | [] => True
  | p :: ps => okT g p ∧ okTs g ps
end
theorem okTs_iff {g : Sg} : ∀ {ps : List Tr}, okTs g ps ↔ ∀ p ∈ ps, okT g p
  | [] => by rw [okTs]; simp
  | p :: ps => by rw [okTs, okTs_iff]; simp
theorem okT_nd {g : Sg} {l : Str} {ps : List Tr} : okT g (.nd l ps) ↔ rk g l = some (ps.length : Int) ∧ ∀ p ∈ ps, okT g p := by rw [okT, okTs_iff]
/-- a datum that is a tree of a signature -/
def isTr (g : Sg) (d : D) : Prop := ∃ t, d = Tr.d t ∧ okT g t
theorem isTr_iff {g : Sg} {l : Str} {ds : List D} : isTr g (.tuple [.str l, .tuple ds]) ↔ rk g l = some (ds.length : Int) ∧ ∀ d ∈ ds, isTr g d := by
  constructor
  · rintro ⟨t, e, o⟩
    cases t with
    | nd l' ps =>
      rw [Tr.d_nd] at e
      simp only [PyData.tuple.injEq, List.cons.injEq, PyData.str.injEq, and_true] at e
      obtain ⟨rfl, rfl⟩ := e
      rw [okT_nd] at o
      refine ⟨by simpa using o.1, fun d h => ?_⟩
      obtain ⟨p, m, rfl⟩ := List.mem_map.mp h
      exact ⟨p, rfl, o.2 p m⟩
  · rintro ⟨h1, h2⟩
    have : ∃ ps : List Tr, ds = ps.map Tr.d ∧ ∀ p ∈ ps, okT g p := by
      clear h1
      induction ds with
      | nil => exact ⟨[], rfl, by simp⟩
      | cons d ds ih =>
        obtain ⟨p, e, o⟩ := h2 d List.mem_cons_self
        obtain ⟨ps, e2, o2⟩ := ih fun x m => h2 x (List.mem_cons_of_mem _ m)
        refine ⟨p :: ps, by rw [e, e2]; rfl, fun q m => ?_⟩
        rcases List.mem_cons.mp m with z | m
        · rw [z]; exact o
        · exact o2 q m
    obtain ⟨ps, rfl, o⟩ := this
    exact ⟨.nd l ps, by rw [Tr.d_nd], by rw [okT_nd]; exact ⟨by simpa using h1, o⟩⟩
theorem isTr_form {g : Sg} {d : D} (h : isTr g d) : ∃ l ds, d = .tuple [.str l, .tuple ds] := by
  obtain ⟨t, e, _⟩ := h
  cases t with
  | nd l ps => exact ⟨l, _, by rw [e, Tr.d_nd]⟩
mutual
/-- how much a datum is -/
def wD : D → Nat
  | .list xs => wDs xs + 1
  | .tuple xs => wDs xs + 1
  | .none => 1
  | .bool _ => 1
  | .int _ => 1
  | .str _ => 1
  | .dict _ => 1
def wDs : List D → Nat
  | [] => 0
  | x :: xs => wD x + wDs xs
end
theorem wD_pos (d : D) : 0 < wD d := by cases d <;> simp [wD]
theorem wDs_len : ∀ ds : List D, ds.length ≤ wDs ds
  | [] => by simp
  | d :: ds => by
    have := wD_pos d
    have := wDs_len ds
    simp [wDs]
    omega
theorem wDs_app : ∀ xs ys : List D, wDs (xs ++ ys) = wDs xs + wDs ys
  | [], _ => by simp [wDs]
  | x :: xs, ys => by rw [List.cons_append, wDs, wDs, wDs_app xs ys]; omega
theorem wD_tup (ds : List D) : wD (.tuple ds) = wDs ds + 1 := by rw [wD]
namespace Tr
mutual
/-- how many nodes -/
def size : Tr → Nat
  | .nd _ ps => sizes ps + 1
def sizes : List Tr → Nat
  | [] => 0
  | p :: ps => size p + sizes ps
end
theorem size_pos (t : Tr) : 0 < size t := by cases t; rw [size]; omega
theorem sizes_app : ∀ xs ys : List Tr, sizes (xs ++ ys) = sizes xs + sizes ys
  | [], _ => by simp [sizes]
  | x :: xs, ys => by rw [List.cons_append, sizes, sizes, sizes_app xs ys]; omega
theorem sizes_rev : ∀ xs : List Tr, sizes xs.reverse = sizes xs
  | [] => rfl
  | x :: xs => by rw [List.reverse_cons, sizes_app, sizes_rev xs, sizes, sizes, sizes]; omega
theorem sizes_len : ∀ ps : List Tr, ps.length ≤ sizes ps
  | [] => by simp
  | p :: ps => by
    have := size_pos p
    have := sizes_len ps
    simp [sizes]
    omega
theorem size_mem : ∀ {ps : List Tr} {p : Tr}, p ∈ ps → size p ≤ sizes ps
  | q :: ps, p, h => by
    rw [sizes]
    rcases List.mem_cons.mp h with e | h
    · rw [e]; omega
    · have := size_mem h; omega
theorem wDs_ps {ps : List Tr} (h : ∀ p ∈ ps, wD (d p) = 3 * size p) : wDs (ps.map d) = 3 * sizes ps := by
  induction ps with
  | nil => rfl
  | cons p ps ih =>
    rw [List.map_cons, wDs, sizes, h p List.mem_cons_self, ih fun q m => h q (List.mem_cons_of_mem _ m)]
    omega
theorem wD_t (t : Tr) : wD (d t) = 3 * size t := by
  induction t using ind with
  | h l ps ih =>
    rw [d_nd, wD_tup, wDs, wDs, wDs, wD_tup, wDs_ps ih, size]
    simp [wD]
    omega
theorem canLays {ps : List Tr} (h : ∀ p ∈ ps, (d p).canLay0 = true) : PyData.canLayAll0 (ps.map d) = true := by
  induction ps with
  | nil => rfl
  | cons p ps ih => rw [List.map_cons, PyData.canLayAll0, h p List.mem_cons_self, ih fun q m => h q (List.mem_cons_of_mem _ m)]; rfl
end Tr
end Sh
set_option Elab.async false
set_option linter.all false
set_option maxRecDepth 100000
set_option maxHeartbeats 2000000
/-! Pl, part H: nodes of trees, the least of some. -/
namespace Sh
open PySem PySem.Spec PyProof.Rows L2
@[simp] theorem e_ixP0 {p : Pr} : ixD (encP p) (.int 0) = some (.int p.1) := by simp [encP]
@[simp] theorem e_ixP1 {p : Pr} : ixD (encP p) (.int 1) = some p.2.d := by simp [encP]
namespace Tr
mutual
/-- the nodes, each ahead of its parts -/
def pre : Tr → List Tr
  | .nd l ps => .nd l ps :: pres ps
def pres : List Tr → List Tr
  | [] => []
  | p :: ps => pre p ++ pres ps
end
theorem pres_app : ∀ xs ys : List Tr, pres (xs ++ ys) = pres xs ++ pres ys
  | [], _ => by simp [pres]
  | x :: xs, ys => by rw [List.cons_append, pres, pres, pres_app xs ys, List.append_assoc]
theorem pres_len {ps : List Tr} (h : ∀ p ∈ ps, (pre p).length = size p) : (pres ps).length = sizes ps := by
  induction ps with
  | nil => simp [pres, sizes]
  | cons p ps ih => rw [pres, sizes, List.length_append, h p List.mem_cons_self, ih fun q m => h q (List.mem_cons_of_mem _ m)]
theorem pre_len (t : Tr) : (pre t).length = size t := by
  induction t using ind with
  | h l ps ih => rw [pre, size, List.length_cons, pres_len ih]
theorem depths {ps : List Tr} (h : ∀ p ∈ ps, (d p).depth ≤ 2 * size p) : PyData.depthAll (ps.map d) ≤ 2 * sizes ps := by
  induction ps with
  | nil => simp [PyData.depthAll]
  | cons p ps ih =>
    rw [List.map_cons, PyData.depthAll, sizes]
    have a := h p List.mem_cons_self
    have b := ih fun q m => h q (List.mem_cons_of_mem _ m)
    omega
theorem depth_le (t : Tr) : (d t).depth ≤ 2 * size t := by
  induction t using ind with
  | h l ps ih =>
    have := depths ih
    rw [d_nd, size]
    simp only [PyData.depth, PyData.depthAll]
    omega
/-- what is made of nodes by what is made of their parts -/
def fold {α : Type} (f : Str → List α → α) : Tr → α
  | .nd l ps => f l (folds f ps)
where
  folds {α : Type} (f : Str → List α → α) : List Tr → List α
  | [] => []
  | p :: ps => fold f p :: folds f ps
theorem folds_map {α : Type} (f : Str → List α → α) : ∀ ps : List Tr, fold.folds f ps = ps.map (fold f)
  | [] => by rw [fold.folds]; rfl
  | p :: ps => by rw [fold.folds, folds_map f ps]; rfl
theorem fold_nd {α : Type} (f : Str → List α → α) (l : Str) (ps : List Tr) : fold f (.nd l ps) = f l (ps.map (fold f)) := by rw [fold, folds_map]
/-- a node's turn at the stack -/
def turnN {α : Type} (f : Str → List α → α) (st : List α) (t : Tr) : List α := st.take (st.length - t.parts.length) ++ [f t.label (st.drop (st.length - t.parts.length)).reverse]
theorem turn_pre {α : Type} (f : Str → List α → α) (t : Tr) : ∀ st : List α, (pre t).reverse.foldl (turnN f) st = st ++ [fold f t] := by
  induction t using ind with
  | h l ps ih =>
    intro st
    have key : ∀ (qs : List Tr) (st : List α), (∀ p ∈ qs, ∀ st : List α, (pre p).reverse.foldl (turnN f) st = st ++ [fold f p]) → (pres qs).reverse.foldl (turnN f) st = st ++ (qs.map (fold f)).reverse := by
      intro qs
      induction qs with
      | nil => intro st _; simp [pres]
      | cons q qs ih2 =>
        intro st hq
        rw [pres, List.reverse_append, List.foldl_append, ih2 st fun p m => hq p (List.mem_cons_of_mem _ m), hq q List.mem_cons_self]
        simp
    rw [pre, List.reverse_cons, List.foldl_append, key ps st ih, List.foldl_cons, List.foldl_nil, turnN, fold_nd]
    simp [parts, label]
end Tr
/-- a tree of a signature whose labels can be laid, not too great -/
structure Sm (t : Tr) : Prop where
  lay : t.d.canLay0 = true
  size : t.size ≤ 28
theorem Sm.depth {t : Tr} (h : Sm t) : t.d.depth ≤ 56 := by
  have := Tr.depth_le t
  have := h.size
  omega
theorem Sm.cmp {t : Tr} (h : Sm t) : cmpOk t.d = true := by
  have := h.depth
  unfold cmpOk
  rw [h.lay]
  cases t with
  | nd l ps =>
    rw [Tr.d_nd] at this ⊢
    simp [isNone]
    omega
theorem Sm.pair {t : Tr} (h : Sm t) (c : Int) : (encP (c, t)).canLay0 = true ∧ (encP (c, t)).depth ≤ 57 ∧ isNone (encP (c, t)) = false := by
  have := h.depth
  refine ⟨?_, ?_, rfl⟩
  · simp only [encP, PyData.canLay0, PyData.canLayAll0, h.lay, Bool.and_self]
  · simp only [encP, PyData.depth, PyData.depthAll]
    omega
theorem Sm.ltB {s t : Tr} (h : Sm s) (k : Sm t) : ltB s.d t.d = some (Tr.lt s t) := ltB_some h.cmp k.lay (Tr.alike s t)
theorem Sm.ltP {s t : Tr} (h : Sm s) (k : Sm t) (a b : Int) : Sh.ltB (encP (a, s)) (encP (b, t)) = some (Sh.ltP (a, s) (b, t)) := by
  obtain ⟨h1, h2, h3⟩ := h.pair a
  refine ltB_some ?_ (k.pair b).1 (alikeP _ _)
  unfold cmpOk
  rw [h1, h3]
  simp
  omega
theorem canLayAll {ds : List D} (h : ∀ d ∈ ds, d.canLay0 = true) : PyData.canLayAll0 ds = true := by
  induction ds with
  | nil => rfl
  | cons d ds ih => rw [PyData.canLayAll0, h d List.mem_cons_self, ih fun q m => h q (List.mem_cons_of_mem _ m)]; rfl
/-- the least of some data that can be compared -/
theorem minG_of {ds : List D} (h0 : ds ≠ []) (ha : ∀ a ∈ ds, ∀ b ∈ ds, PySem.W.alike a b = true) (hd : ∀ a ∈ ds, a.canLay0 = true ∧ a.depth ≤ 60 ∧ isNone a = false) : ∃ m ∈ ds, minG [.list ds] = some m ∧ ∀ a ∈ ds, dl a m = false := by
  have hl : 0 < ds.length := List.length_pos_iff.mpr h0
  have c : 0 < ds.length ∧ alikeB ds = true ∧ (ds.all fun d => !isNone d && decide (d.depth ≤ 60)) = true ∧ PyData.canLayAll0 ds = true := by
    refine ⟨hl, ?_, ?_, canLayAll fun d m => (hd d m).1⟩
    · unfold alikeB
      rw [List.all_eq_true]
      intro a m
      rw [List.all_eq_true]
      exact fun b k => ha a m b k
    · rw [List.all_eq_true]
      intro a m
      simp [(hd a m).2.1, (hd a m).2.2]
  obtain ⟨l1, l2⟩ := argBest_least (bt := ltAt ds) (fun i => dl_irr _) (fun i j k a b => dl_tr a b) (ds.length - 1)
  have lt : argBest (ltAt ds) (ds.length - 1) < ds.length := by omega
  refine ⟨ds[argBest (ltAt ds) (ds.length - 1)], List.getElem_mem _, ?_, fun a m => ?_⟩
  · unfold minG
    dsimp only
    rw [if_pos c]
    unfold minD
    exact List.getElem?_eq_getElem lt
  · obtain ⟨j, hj, rfl⟩ := List.mem_iff_getElem.mp m
    have := l2 j (by omega)
    revert this lt
    generalize argBest (ltAt ds) (ds.length - 1) = i
    intro lt this
    unfold ltAt at this
    rw [List.getD_eq_getElem?_getD, List.getD_eq_getElem?_getD, List.getElem?_eq_getElem hj, List.getElem?_eq_getElem lt] at this
    exact this
theorem minG_P {ps : List Pr} (h0 : ps ≠ []) (hs : ∀ p ∈ ps, Sm p.2) : ∃ m ∈ ps, minG [.list (ps.map encP)] = some (encP m) ∧ ∀ q ∈ ps, ltP q m = false := by
  obtain ⟨x, hx, e, k⟩ := minG_of (ds := ps.map encP) (by simpa using h0) (fun a ha b hb => by
    obtain ⟨p, _, rfl⟩ := List.mem_map.mp ha
    obtain ⟨q, _, rfl⟩ := List.mem_map.mp hb
    exact alikeP p q) (fun a ha => by
    obtain ⟨p, hp, rfl⟩ := List.mem_map.mp ha
    obtain ⟨a1, a2, a3⟩ := (hs p hp).pair p.1
    exact ⟨a1, by show (encP (p.1, p.2)).depth ≤ 60; omega, a3⟩)
  obtain ⟨m, hm, rfl⟩ := List.mem_map.mp hx
  exact ⟨m, hm, e, fun q hq => k _ (List.mem_map.mpr ⟨q, hq, rfl⟩)⟩
end Sh
set_option Elab.async false
set_option linter.all false
set_option maxRecDepth 100000
set_option maxHeartbeats 2000000
/-! Pl, part I: lots, tables by label, stacks. -/
namespace Sh
open PySem PySem.Spec PyProof.Rows L2
/-! ### keys put once -/
def insK (ks : List Int) (k : Int) : List Int := if k ∈ ks then ks else ks ++ [k]
def dkK (ks : List Int) : List (Key × D) := ks.map fun k => (.inl k, .bool true)
theorem putD_dk (ks : List Int) (k : Int) : putD (dkK ks) (.inl k) (.bool true) = dkK (insK ks k) := by
  unfold putD insK dkK
  rw [List.any_map]
  by_cases h : k ∈ ks
  · rw [if_pos h, if_pos (by rw [List.any_eq_true]; exact ⟨k, h, by simp⟩), List.map_map]
    refine List.map_congr_left fun x _ => ?_
    simp only [Function.comp]
    split <;> rfl
  · rw [if_neg h, if_neg]
    · simp
    · rw [List.any_eq_true]
      rintro ⟨x, m, e⟩
      simp at e
      exact h (e ▸ m)
theorem insK_mem {ks : List Int} {k x : Int} : x ∈ insK ks k ↔ x ∈ ks ∨ x = k := by
  unfold insK
  split
  · rename_i h
    constructor
    · exact .inl
    · rintro (m | rfl)
      · exact m
      · exact h
  · simp
theorem insK_nd {ks : List Int} {k : Int} (h : ks.Nodup) : (insK ks k).Nodup := by
  unfold insK
  split
  · exact h
  · rename_i q
    rw [List.nodup_append]
    refine ⟨h, by simp, fun a m b n => ?_⟩
    rw [List.mem_singleton.mp n]
    exact fun e => q (e ▸ m)
theorem foldIns_mem {x : Int} : ∀ (xs ks : List Int), x ∈ xs.foldl insK ks ↔ x ∈ ks ∨ x ∈ xs
  | [], ks => by simp
  | y :: xs, ks => by
    rw [List.foldl_cons, foldIns_mem xs, insK_mem, List.mem_cons]
    constructor
    · rintro ((h | h) | h)
      · exact .inl h
      · exact .inr (.inl h)
      · exact .inr (.inr h)
    · rintro (h | h | h)
      · exact .inl (.inl h)
      · exact .inl (.inr h)
      · exact .inr h
theorem foldIns_nd : ∀ (xs : List Int) {ks : List Int}, ks.Nodup → (xs.foldl insK ks).Nodup
  | [], _, h => h
  | x :: xs, _, h => foldIns_nd xs (insK_nd h)
def srt (ks : List Int) : List Int := ks.mergeSort fun a b => decide (a ≤ b)
theorem srt_mem {ks : List Int} {x : Int} : x ∈ srt ks ↔ x ∈ ks := (List.mergeSort_perm ks _).mem_iff
theorem srt_len (ks : List Int) : (srt ks).length = ks.length := List.length_mergeSort ks
theorem int_below : ∀ (n : Nat) (ks : List Int), ks.Nodup → (∀ k ∈ ks, 0 ≤ k ∧ k < n) → ks.length ≤ n
  | 0, [], _, _ => Nat.le_refl _
  | 0, k :: ks, _, h => by have := h k List.mem_cons_self; omega
  | n + 1, ks, nd, h => by
    have ih := int_below n (ks.erase (n : Int)) (nd.erase _) fun k m => by
      have := h k (List.mem_of_mem_erase m)
      have : k ≠ n := fun e => by
        rw [e] at m
        exact (List.Nodup.not_mem_erase nd) m
      omega
    have := List.length_erase (a := (n : Int)) (l := ks)
    split at this <;> omega
theorem intKeys_dk : ∀ ks : List Int, intKeys ((dkK ks).map fun p => (kD p.1, p.2)) = some ks
  | [] => rfl
  | k :: ks => by
    have := intKeys_dk ks
    unfold dkK at this ⊢
    rw [List.map_cons, List.map_cons]
    show (intKeys _).map _ = _
    rw [this]
    rfl
theorem sorted_dk {ks : List Int} (h : ks.length < 64) : sortedG [.dict ((dkK ks).map fun p => (kD p.1, p.2))] = some (.lst ((srt ks).map .int)) := by
  show (intKeys _).bind _ = _
  rw [intKeys_dk, Option.bind_some, if_pos h]
  rfl
/-! ### lots -/
def ltD (xs : List Int) : D := .tuple (xs.map .int)
theorem flat_ints (xs : List Int) : (xs.map PyData.int).all flatD = true := by
  rw [List.all_map]
  exact List.all_eq_true.mpr fun _ _ => rfl
theorem any_ints (k : Int) (xs : List Int) : ((xs.map PyData.int).any fun x => PyData.eqv x (.int k)) = decide (k ∈ xs) := by
  rw [List.any_map]
  by_cases h : k ∈ xs
  · rw [decide_eq_true h, List.any_eq_true]
    exact ⟨k, h, by simp [e_eqI]⟩
  · rw [decide_eq_false h, Bool.eq_false_iff]
    intro z
    obtain ⟨x, m, e⟩ := List.any_eq_true.mp z
    simp [e_eqI] at e
    exact h (e ▸ m)
@[simp] theorem e_inLt {k : Int} {xs : List Int} : inB (.int k) (ltD xs) = some (decide (k ∈ xs)) := by
  show (if _ then _ else _) = _
  rw [if_pos ⟨rfl, flat_ints xs⟩, any_ints]
@[simp] theorem e_inTup {k : Int} {xs : List Int} : inB (.int k) (.tuple (xs.map .int)) = some (decide (k ∈ xs)) := e_inLt
/-- the kinds lie in the lots -/
def fitsB : List Int → List (List Int) → Bool
  | k :: ks, l :: ls => decide (k ∈ l) && fitsB ks ls
  | _, _ => true
abbrev Rw := Int × List Int
def rwD (r : Rw) : D := .tuple [.int r.1, ltD r.2]
def foundK (rs : List Rw) (lots : List (List Int)) : List Int := ((rs.filter fun r => fitsB r.2 lots).map (·.1)).foldl insK []
def stepL (rs : List Rw) (lots : List (List Int)) : List Int := srt (foundK rs lots)
theorem foundK_app (rs : List Rw) (r : Rw) (lots : List (List Int)) : foundK (rs ++ [r]) lots = if fitsB r.2 lots = true then insK (foundK rs lots) r.1 else foundK rs lots := by
  unfold foundK
  rw [List.filter_append]
  by_cases h : fitsB r.2 lots = true
  · rw [if_pos h]
    simp [h]
  · rw [if_neg h]
    simp [h]
theorem foundK_len {rs : List Rw} {lots : List (List Int)} (h : ∀ r ∈ rs, 0 ≤ r.1 ∧ r.1 < 63) : (foundK rs lots).length ≤ 63 := by
  refine int_below 63 _ (foldIns_nd _ List.nodup_nil) fun k m => ?_
  rw [foundK, foldIns_mem] at m
  rcases m with m | m
  · cases m
  · obtain ⟨r, hr, rfl⟩ := List.mem_map.mp m
    have := h r (List.mem_filter.mp hr).1
    omega
/-- what zip makes of kinds and lots -/
theorem zip_lots : ∀ (ks : List Int) (ls : List (List Int)), zipD (ks.map .int) (ls.map ltD) = (ks.zip ls).map fun p => .tuple [.int p.1, ltD p.2]
  | [], _ => by simp [zipD]
  | _ :: _, [] => by simp [zipD]
  | k :: ks, l :: ls => by simp [zipD, zip_lots ks ls]
theorem zip_fits : ∀ (ks : List Int) (ls : List (List Int)), ((ks.zip ls).all fun p => decide (p.1 ∈ p.2)) = fitsB ks ls
  | [], _ => by simp [fitsB]
  | _ :: _, [] => by simp [fitsB]
  | k :: ks, l :: ls => by simp [fitsB, ← zip_fits ks ls]
/-! ### books -/
structure Bk where
  sg : Sg
  many : Int
  rules : List Rl
def rlD (r : Rl) : D := .tuple [.int r.1, .str r.2.1, ltD r.2.2]
def bkD (B : Bk) : D := .tuple [sgD B.sg, .int B.many, .tuple (B.rules.map rlD)]
/-- the rules with a label -/
def tbl (R : List Rl) (l : Str) : List Rw := (R.filter fun r => decide (r.2.1 = l)).map fun r => (r.1, r.2.2)
theorem tbl_app (R : List Rl) (r : Rl) (l : Str) : tbl (R ++ [r]) l = if r.2.1 = l then tbl R l ++ [(r.1, r.2.2)] else tbl R l := by
  unfold tbl
  rw [List.filter_append]
  by_cases h : r.2.1 = l <;> simp [h]
def dilOf (g : Sg) (R : List Rl) : List (Key × List D) := g.map fun p => (.inr p.1, (tbl R p.1).map rwD)
theorem dilOf_look {R : List Rl} {l : Str} : ∀ {g : Sg}, l ∈ g.map (·.1) → lLook (dilOf g R) (.inr l) = some ((tbl R l).map rwD)
  | [], h => by cases h
  | p :: g, h => by
    unfold lLook dilOf
    rw [List.map_cons, List.find?_cons]
    by_cases e : p.1 = l
    · simp [e]
    · have h2 : l ∈ g.map (·.1) := by
        rw [List.map_cons, List.mem_cons] at h
        rcases h with h | h
        · exact absurd h.symm e
        · exact h
      have := dilOf_look (R := R) h2
      unfold lLook dilOf at this
      simp [e] at this ⊢
      exact this
theorem dilOf_set (g : Sg) (R : List Rl) (r : Rl) : lSet (dilOf g R) (.inr r.2.1) ((tbl R r.2.1).map rwD ++ [rwD (r.1, r.2.2)]) = dilOf g (R ++ [r]) := by
  unfold lSet dilOf
  rw [List.map_map]
  refine List.map_congr_left fun p _ => ?_
  simp only [Function.comp]
  rw [tbl_app]
  by_cases h : p.1 = r.2.1
  · rw [if_pos (by rw [h]), if_pos h.symm, h]
    simp
  · rw [if_neg (fun e => h (Sum.inr.inj e)), if_neg (Ne.symm h)]
theorem dilOf_keys (g : Sg) (R : List Rl) : (dilOf g R).map (·.1) = (g.map (·.1)).map Sum.inr := by
  unfold dilOf
  rw [List.map_map, List.map_map]
  rfl
theorem dval_dil {g : Sg} {R : List Rl} {l : Str} (h : l ∈ g.map (·.1)) : dval ((dilOf g R).map fun p => (kD p.1, .list p.2)) (.inr l) = some (.list ((tbl R l).map rwD)) := by
  have e : (dilOf g R).map (fun p => (kD p.1, PyData.list p.2)) = ((dilOf g R).map fun p => (p.1, PyData.list p.2)).map fun p => (kD p.1, p.2) := by
    rw [List.map_map]
    rfl
  rw [e, dval_kD]
  have k := dilOf_look (R := R) h
  unfold lLook at k
  unfold dlook
  rw [List.find?_map]
  cases q : (dilOf g R).find? (fun p => decide (p.1 = Sum.inr l)) with
  | none => rw [q] at k; cases k
  | some p =>
    rw [q] at k
    simp at k
    have : (dilOf g R).find? ((fun p : Key × D => decide (p.1 = Sum.inr l)) ∘ fun p : Key × List D => (p.1, PyData.list p.2)) = some p := q
    rw [this]
    simp [k]
/-- what the kinds of a tree are -/
def lotT (R : List Rl) (t : Tr) : List Int := Tr.fold (fun l ls => stepL (tbl R l) ls) t
theorem lotT_nd (R : List Rl) (l : Str) (ps : List Tr) : lotT R (.nd l ps) = stepL (tbl R l) (ps.map (lotT R)) := Tr.fold_nd _ _ _
theorem stepL_mem {R : List Rl} {l : Str} {lots : List (List Int)} {k : Int} : k ∈ stepL (tbl R l) lots ↔ ∃ ks, (k, l, ks) ∈ R ∧ fitsB ks lots = true := by
  unfold stepL foundK tbl
  rw [srt_mem, foldIns_mem]
  constructor
  · rintro (h | h)
    · cases h
    · obtain ⟨r, h1, rfl⟩ := List.mem_map.mp h
      obtain ⟨h2, h3⟩ := List.mem_filter.mp h1
      obtain ⟨⟨k, l', ks⟩, h4, rfl⟩ := List.mem_map.mp h2
      obtain ⟨h5, h6⟩ := List.mem_filter.mp h4
      simp at h6
      subst h6
      exact ⟨ks, h5, h3⟩
  · rintro ⟨ks, h1, h2⟩
    exact .inr (List.mem_map.mpr ⟨(k, ks), List.mem_filter.mpr ⟨List.mem_map.mpr ⟨(k, l, ks), List.mem_filter.mpr ⟨h1, by simp⟩, rfl⟩, h2⟩, rfl⟩)
/-- each rule has as many kinds as its label's rank -/
def RkOk (g : Sg) (R : List Rl) : Prop := ∀ r ∈ R, rk g r.2.1 = some (r.2.2.length : Int)
theorem fits_of {R : List Rl} : ∀ {ps : List Tr} {ks : List Int}, (∀ p ∈ ps, ∀ k, k ∈ lotT R p ↔ ofK R p k) → ps.length = ks.length → (fitsB ks (ps.map (lotT R)) = true ↔ ofKs R ps ks)
  | [], [], _, _ => by simp [fitsB, ofKs]
  | p :: ps, k :: ks, h, e => by
    rw [List.map_cons, fitsB, ofKs, Bool.and_eq_true, decide_eq_true_eq, h p List.mem_cons_self, fits_of (fun q m => h q (List.mem_cons_of_mem _ m)) (by simpa using e)]
  | [], _ :: _, _, e => by cases e
  | _ :: _, [], _, e => by cases e
theorem lot_ofK {g : Sg} {R : List Rl} (hr : RkOk g R) {t : Tr} (ho : okT g t) : ∀ k, k ∈ lotT R t ↔ ofK R t k := by
  induction t using Tr.ind with
  | h l ps ih =>
    intro k
    rw [okT_nd] at ho
    rw [lotT_nd, stepL_mem, ofK_nd]
    constructor
    · rintro ⟨ks, h1, h2⟩
      have e := hr _ h1
      rw [ho.1] at e
      have e2 : ps.length = ks.length := by have := Option.some.inj e; dsimp only at this; omega
      exact ⟨ks, h1, (fits_of (fun p m k => ih p m (ho.2 p m) k) e2).mp h2⟩
    · rintro ⟨ks, h1, h2⟩
      exact ⟨ks, h1, (fits_of (fun p m k => ih p m (ho.2 p m) k) (ofKs_len h2)).mpr h2⟩
theorem rep_flat {α : Type} (d : α) : ∀ n : Nat, (List.replicate n [d]).flatten = List.replicate n d
  | 0 => rfl
  | n + 1 => by rw [List.replicate_succ, List.flatten_cons, rep_flat d n]; rfl
theorem mul_list1 (d : D) {n : Nat} (h : n ≤ 1000000) : mulO (.list [d]) (.int n) = some (.lst (List.replicate n d)) := by
  have c : -(2 ^ 63) ≤ (n : Int) ∧ (n : Int) < 2 ^ 63 ∧ [d].length * (n : Int).toNat ≤ sizeLine := by
    rw [sizeLine_eq]
    refine ⟨by omega, by omega, ?_⟩
    simp
    omega
  unfold mulO
  dsimp only
  rw [if_pos c, Int.toNat_natCast, rep_flat]
theorem mul_tup {xs : List D} (h0 : xs ≠ []) (hl : xs.length ≤ 1000) {k : Int} (h1 : 0 ≤ k) (h2 : k ≤ 1000) : mulO (.tuple xs) (.int k) = some (.dat (.tuple (List.replicate k.toNat xs).flatten)) := by
  unfold mulO
  dsimp only
  rw [if_pos ⟨h0, h1, h2, hl⟩]
/-! ### stacks -/
theorem Tr.turn_at {α : Type} (f : Str → List α → α) (t : Tr) : ∀ (st0 : List α) (a b : List Tr) (s : Tr), (pre t).reverse = a ++ s :: b → ∃ st, a.foldl (turnN f) st0 = st ++ (s.parts.map (fold f)).reverse := by
  induction t using ind with
  | h l ps ih =>
    have key : ∀ (qs : List Tr), (∀ p ∈ qs, ∀ (st0 : List α) (a b : List Tr) (s : Tr), (pre p).reverse = a ++ s :: b → ∃ st, a.foldl (turnN f) st0 = st ++ (s.parts.map (fold f)).reverse) →
        ∀ (st0 : List α) (a b : List Tr) (s : Tr), (pres qs).reverse = a ++ s :: b → ∃ st, a.foldl (turnN f) st0 = st ++ (s.parts.map (fold f)).reverse := by
      intro qs
      induction qs with
      | nil => intro _ st0 a b s e; simp [pres] at e
      | cons q qs ih2 =>
        intro hq st0 a b s e
        rw [pres, List.reverse_append] at e
        rcases List.append_eq_append_iff.mp e with ⟨c, e1, e2⟩ | ⟨c, e1, e2⟩
        · rw [e1, List.foldl_append]
          exact hq q List.mem_cons_self _ c b s e2
        · cases c with
          | nil =>
            rw [List.append_nil] at e1
            rw [← e1]
            have := hq q List.mem_cons_self ((pres qs).reverse.foldl (turnN f) st0) [] b s (by simpa using e2.symm)
            exact this
          | cons x c =>
            rw [List.cons_append] at e2
            have ex := (List.cons.inj e2).1
            exact ih2 (fun p m => hq p (List.mem_cons_of_mem _ m)) st0 a c s (by rw [e1, ex])
    intro st0 a b s e
    rw [pre, List.reverse_cons] at e
    rcases List.append_eq_append_iff.mp e with ⟨c, e1, e2⟩ | ⟨c, e1, e2⟩
    · cases c with
      | nil =>
        rw [List.append_nil] at e1
        have ex := (List.cons.inj e2).1
        rw [e1, ← ex]
        have := turn_pres f ps st0
        exact ⟨st0, this⟩
      | cons x c => simp at e2
    · cases c with
      | nil =>
        rw [List.append_nil] at e1
        have ex := (List.cons.inj e2).1
        rw [← e1, ex]
        exact ⟨st0, turn_pres f ps st0⟩
      | cons x c =>
        rw [List.cons_append] at e2
        have ex := (List.cons.inj e2).1
        exact key ps ih st0 a c s (by rw [e1, ex])
where
  turn_pres {α : Type} (f : Str → List α → α) (qs : List Tr) (st : List α) : (pres qs).reverse.foldl (turnN f) st = st ++ (qs.map (fold f)).reverse := by
    induction qs generalizing st with
    | nil => simp [pres]
    | cons q qs ih2 =>
      rw [pres, List.reverse_append, List.foldl_append, ih2 st, turn_pre f q]
      simp
theorem Tr.turn_step {α : Type} (f : Str → List α → α) {st : List α} {s : Tr} : turnN f (st ++ (s.parts.map (fold f)).reverse) s = st ++ [fold f s] := by
  cases s with
  | nd l ps =>
    unfold turnN
    rw [fold_nd]
    simp [parts, label]
section
variable {ρ : Env}
theorem popG_last {xs : List D} {x : D} : popG [] (.lst (xs ++ [x])) = some (x, .lst xs) := by
  rw [e_popG]
  simp
/-- as many popped as there are parts -/
theorem lc_pop {v i : Nat} {ds xs st : List D} (hv : ρ[v]? = some none) (e : ρ[i]? = some (some (.lst (st ++ xs.reverse)))) (hl : ds.length = xs.length) (hm : ds.length ≤ sizeLine) : lcLoop [v] (gNm v) trueM (popM i) ds [] ρ = some (xs, ρ.set i (some (.lst st))) := by
  have ne : i ≠ v := fun z => by rw [z, hv] at e; cases e
  have li : i < ρ.length := (List.getElem?_eq_some_iff.mp e).1
  have lv : v < ρ.length := (List.getElem?_eq_some_iff.mp hv).1
  have ev : ρ.set v none = ρ := by
    refine List.ext_getElem? fun j => ?_
    by_cases q : v = j
    · rw [← q, List.getElem?_set_self lv, hv]
    · rw [List.getElem?_set_ne q]
  obtain ⟨ys, ρ', e1, h1, h2⟩ := lc_ex (ρ := ρ) (vs := [v]) (g := gNm v) (ft := trueM) (fe := popM i) (ds := ds) (fun pre out ρ1 => out = xs.take pre.length ∧ ρ1 = ρ.set i (some (.lst (st ++ (xs.drop pre.length).reverse)))) ⟨rfl, by
      refine List.ext_getElem? fun j => ?_
      by_cases q : i = j
      · rw [← q, List.getElem?_set_self li, e]; rfl
      · rw [List.getElem?_set_ne q]⟩ hm (fun pre d post out ρ1 q h => by
    obtain ⟨rfl, rfl⟩ := h
    have lp : pre.length < xs.length := by rw [← hl, q]; simp
    have ed : xs.drop pre.length = xs[pre.length] :: xs.drop (pre.length + 1) := List.drop_eq_getElem_cons lp
    refine ⟨some xs[pre.length], ρ.set i (some (.lst (st ++ (xs.drop (pre.length + 1)).reverse))), ?_, ?_, ?_⟩
    · have l1 : v < (ρ.set i (some (.lst (st ++ (xs.drop pre.length).reverse)))).length := by simpa using lv
      rw [e_gNm, if_pos l1]
      have g1 : (((ρ.set i (some (.lst (st ++ (xs.drop pre.length).reverse)))).set v (some (.dat d))))[i]? = some (some (.lst (st ++ (xs.drop pre.length).reverse))) := by
        rw [List.getElem?_set_ne (Ne.symm ne), List.getElem?_set_self li]
      rw [e_lturn, e_trueM, bnd_ok, if_pos rfl, e_bind, e_popM, e_chkO, g1]
      simp only [e_isLst, if_pos, bnd_ok, e_modM, g1]
      have g2 : (st ++ (xs.drop pre.length).reverse) = (st ++ (xs.drop (pre.length + 1)).reverse) ++ [xs[pre.length]] := by
        rw [ed]; simp
      rw [g2, popG_last]
      have g3 : ((ρ.set i (some (.lst (st ++ (xs.drop (pre.length + 1)).reverse ++ [xs[pre.length]])))).set v (some (.dat d))).set i (some (.lst (st ++ (xs.drop (pre.length + 1)).reverse))) = (ρ.set i (some (.lst (st ++ (xs.drop (pre.length + 1)).reverse)))).set v (some (.dat d)) := by
        rw [List.set_comm _ _ ne.symm, List.set_set]
      have g4 : wipeE ((ρ.set i (some (.lst (st ++ (xs.drop (pre.length + 1)).reverse)))).set v (some (.dat d))) [v] = ρ.set i (some (.lst (st ++ (xs.drop (pre.length + 1)).reverse))) := by
        show (((ρ.set i _).set v _).set v none) = _
        rw [List.set_set, List.set_comm _ _ ne, ev]
      simp only [Option.map_some, bnd_ok, e_pure]
      rw [g3, g4]
    · rw [addO_some, List.length_append, List.length_singleton, List.take_add_one, List.getElem?_eq_getElem lp]
      rfl
    · rw [List.length_append, List.length_singleton])
  rw [e1, h1, h2, hl]
  simp
end
end Sh
set_option Elab.async false
set_option linter.all false
set_option maxRecDepth 100000
set_option maxHeartbeats 2000000
/-! Pl, part J: tables of the nearest trees as dicts. -/
namespace Sh
open PySem PySem.Spec PyProof.Rows L2
def mtD (m : Mt) : List (Key × D) := m.map fun p => (.inl p.1, encP p.2)
def dictD (m : Mt) : D := .dict ((mtD m).map fun p => (kD p.1, p.2))
theorem dlook_mt : ∀ (m : Mt) (k : Int), dlook (mtD m) (.inl k) = (alook m k).map encP
  | [], _ => rfl
  | p :: m, k => by
    have ih := dlook_mt m k
    unfold mtD at ih ⊢
    rw [List.map_cons, dlook_cons, ih, alook_cons]
    by_cases h : p.1 = k <;> simp [h]
theorem putD_mt (m : Mt) (k : Int) (b : Pr) : putD (mtD m) (.inl k) (encP b) = mtD (aput m k b) := by
  unfold putD aput mtD
  rw [List.any_map]
  have e : (m.any ((fun kv : Key × D => decide (kv.1 = Sum.inl k)) ∘ fun p : Int × Pr => (Sum.inl p.1, encP p.2))) = m.any fun p => decide (p.1 = k) := by
    congr 1
    funext p
    simp
  rw [e]
  split
  · rw [List.map_map, List.map_map]
    refine List.map_congr_left fun p _ => ?_
    simp only [Function.comp]
    by_cases q : p.1 = k
    · rw [if_pos (by rw [q]), if_pos q]
    · rw [if_neg (fun z => q (Sum.inl.inj z)), if_neg q]
  · simp
@[simp] theorem dval_mt (m : Mt) (k : Int) : dval ((mtD m).map fun p => (kD p.1, p.2)) (.inl k) = (alook m k).map encP := by rw [dval_kD, dlook_mt]
@[simp] theorem in_dictD {k : Int} {m : Mt} : inB (.int k) (dictD m) = some (alook m k).isSome := by
  unfold inB dictD
  simp [keyD]
@[simp] theorem ix_dictD {k : Int} {m : Mt} : ixD (dictD m) (.int k) = (alook m k).map encP := by
  unfold ixD dictD
  simp [keyD]
theorem mt_len (m : Mt) : (mtD m).length = m.length := by unfold mtD; rw [List.length_map]
def dfl : Pr := (0, .nd ⟨#[]⟩ [])
theorem lookAll_yes : ∀ {ks : List Int} {ms : List Mt}, ks.length = ms.length → ((ks.zip ms).all fun p => (alook p.2 p.1).isSome) = true → lookAll ks ms = some ((ks.zip ms).map fun p => (alook p.2 p.1).getD dfl)
  | [], [], _, _ => rfl
  | k :: ks, m :: ms, h, a => by
    simp only [List.zip_cons_cons, List.all_cons, Bool.and_eq_true] at a
    obtain ⟨b, hb⟩ := Option.isSome_iff_exists.mp a.1
    rw [lookAll, lookAll_yes (by simpa using h) a.2, hb]
    simp [hb]
  | [], _ :: _, h, _ => by cases h
  | _ :: _, [], h, _ => by cases h
theorem lookAll_no : ∀ {ks : List Int} {ms : List Mt}, ks.length = ms.length → ((ks.zip ms).all fun p => (alook p.2 p.1).isSome) = false → lookAll ks ms = none
  | [], [], _, a => by simp at a
  | k :: ks, m :: ms, h, a => by
    simp only [List.zip_cons_cons, List.all_cons, Bool.and_eq_false_iff] at a
    rw [lookAll]
    cases q : alook m k with
    | none => rfl
    | some b =>
      rw [q] at a
      have a2 : ((ks.zip ms).all fun p => (alook p.2 p.1).isSome) = false := by simpa using a
      rw [lookAll_no (by simpa using h) a2]
      rfl
  | [], _ :: _, h, _ => by cases h
  | _ :: _, [], h, _ => by cases h
theorem lookAll_len : ∀ {ks : List Int} {ms : List Mt}, ks.length ≠ ms.length → lookAll ks ms = none
  | [], [], h => absurd rfl h
  | k :: ks, m :: ms, h => by
    rw [lookAll, lookAll_len (by simpa using h)]
    cases alook m k <;> rfl
  | [], _ :: _, _ => rfl
  | _ :: _, [], _ => rfl
theorem zip_dicts : ∀ (ks : List Int) (ms : List Mt), zipD (ks.map .int) (ms.map dictD) = (ks.zip ms).map fun p => .tuple [.int p.1, dictD p.2]
  | [], _ => by simp [zipD]
  | _ :: _, [] => by simp [zipD]
  | k :: ks, m :: ms => by simp [zipD, zip_dicts ks ms]
theorem sumP_map : ∀ bs : List Pr, (bs.map (·.1)).sum = sumP bs
  | [] => rfl
  | b :: bs => by rw [List.map_cons, List.sum_cons, sumP, sumP_map bs]
theorem alook_mem {m : Mt} {k : Int} {b : Pr} (h : alook m k = some b) : ∃ e ∈ m, e.2 = b := by
  unfold alook at h
  cases e : m.find? (fun p => decide (p.1 = k)) with
  | none => rw [e] at h; cases h
  | some p =>
    rw [e] at h
    exact ⟨p, List.mem_of_find?_eq_some e, by simpa using h⟩
theorem mendT_fold (R : List Rl) (t : Tr) : mendT R t = Tr.fold (mendF R) t := by
  induction t using Tr.ind with
  | h l ps ih =>
    rw [mendT, mendTs_map, Tr.fold_nd]
    congr 1
    exact List.map_congr_left ih
/-! ### what stands in the tables -/
theorem forms_sizes : ∀ {ps qs : List Tr}, (∀ p ∈ ps, ∀ q, form p q → q.size = p.size) → forms ps qs → Tr.sizes qs = Tr.sizes ps
  | [], [], _, _ => rfl
  | p :: ps, q :: qs, h, f => by
    rw [forms] at f
    rw [Tr.sizes, Tr.sizes, h p List.mem_cons_self q f.1, forms_sizes (fun r m => h r (List.mem_cons_of_mem _ m)) f.2]
  | [], _ :: _, _, f => by rw [forms] at f; exact f.elim
  | _ :: _, [], _, f => by rw [forms] at f; exact f.elim
theorem form_size {t s : Tr} : form t s → s.size = t.size := by
  revert s
  induction t using Tr.ind with
  | h l ps ih =>
    intro s f
    cases s with
    | nd l' qs =>
      rw [form_nd] at f
      rw [Tr.size, Tr.size, forms_sizes (fun p m q => ih p m) f]
/-- all trees of a table are of the form, of the signature -/
def MtOk (g : Sg) (t : Tr) (m : Mt) : Prop := ∀ e ∈ m, form t e.2.2 ∧ okT g e.2.2
theorem aput_mem {m : Mt} {k : Int} {b : Pr} : ∀ e ∈ aput m k b, e.2 = b ∨ e ∈ m := by
  intro e h
  unfold aput at h
  split at h
  · obtain ⟨q, m1, rfl⟩ := List.mem_map.mp h
    split
    · exact .inl rfl
    · exact .inr m1
  · rcases List.mem_append.mp h with h | h
    · exact .inr h
    · rw [List.mem_singleton.mp h]; exact .inl rfl
theorem MtOk.better {g : Sg} {t : Tr} {m : Mt} (h : MtOk g t m) {k : Int} {b : Pr} (hb : form t b.2 ∧ okT g b.2) : MtOk g t (betterF m k b) := by
  have put : MtOk g t (aput m k b) := fun e he => by
    rcases aput_mem e he with q | q
    · rw [q]; exact hb
    · exact h e q
  unfold betterF
  split
  · exact put
  · split
    · exact put
    · exact h
theorem lookAll_ok {g : Sg} : ∀ {ps : List Tr} {ks : List Int} {ms : List Mt} {bs : List Pr}, ms.length = ps.length → (∀ x ∈ ps.zip ms, MtOk g x.1 x.2) → lookAll ks ms = some bs → forms ps (bs.map (·.2)) ∧ (∀ b ∈ bs, okT g b.2) ∧ bs.length = ks.length
  | [], [], [], bs, _, _, e => by
    rw [lookAll] at e
    cases e
    exact ⟨by rw [List.map_nil, forms]; trivial, by simp, rfl⟩
  | p :: ps, k :: ks, m :: ms, bs, hl, h, e => by
    rw [lookAll] at e
    cases q : alook m k with
    | none => rw [q] at e; cases e
    | some b =>
      rw [q] at e
      cases r : lookAll ks ms with
      | none => rw [r] at e; cases e
      | some bs' =>
        rw [r] at e
        cases e
        obtain ⟨i1, i2, i3⟩ := lookAll_ok (by simpa using hl) (fun x hx => h x (by rw [List.zip_cons_cons]; exact List.mem_cons_of_mem _ hx)) r
        obtain ⟨e, he, hb⟩ := alook_mem q
        obtain ⟨f, o⟩ := h (p, m) (by rw [List.zip_cons_cons]; exact List.mem_cons_self) e he
        rw [hb] at f o
        refine ⟨by rw [List.map_cons, forms]; exact ⟨f, i1⟩, fun c hc => ?_, by simp [i3]⟩
        rcases List.mem_cons.mp hc with z | hc
        · rw [z]; exact o
        · exact i2 c hc
  | [], _, _ :: _, _, hl, _, _ => by cases hl
  | _ :: _, _, [], _, hl, _, _ => by cases hl
  | [], _ :: _, [], _, _, _, e => by rw [lookAll] at e; cases e
  | _ :: _, [], _ :: _, _, _, _, e => by rw [lookAll] at e; cases e
theorem cand_ok {g : Sg} {l : Str} {ps : List Tr} {ms : List Mt} {r : Rl} {bs : List Pr} (hr : rk g r.2.1 = some (r.2.2.length : Int)) (hl : ms.length = ps.length) (h : ∀ x ∈ ps.zip ms, MtOk g x.1 x.2) (e : lookAll r.2.2 ms = some bs) :
    form (.nd l ps) (candOf l r bs).2 ∧ okT g (candOf l r bs).2 := by
  obtain ⟨h1, h2, h3⟩ := lookAll_ok hl h e
  unfold candOf
  refine ⟨by rw [form_nd]; exact h1, ?_⟩
  rw [okT_nd, hr]
  refine ⟨by simp [h3], fun p hp => ?_⟩
  obtain ⟨b, hb, rfl⟩ := List.mem_map.mp hp
  exact h2 b hb
theorem MtOk.step {g : Sg} {l : Str} {ps : List Tr} {ms : List Mt} {r : Rl} {acc : Mt} (ha : MtOk g (.nd l ps) acc) (hr : rk g r.2.1 = some (r.2.2.length : Int)) (hl : ms.length = ps.length) (h : ∀ x ∈ ps.zip ms, MtOk g x.1 x.2) : MtOk g (.nd l ps) (mendStep l ms acc r) := by
  unfold mendStep
  cases e : lookAll r.2.2 ms with
  | none => exact ha
  | some bs => exact ha.better (cand_ok hr hl h e)
theorem MtOk.fold {g : Sg} {l : Str} {ps : List Tr} {ms : List Mt} (hl : ms.length = ps.length) (h : ∀ x ∈ ps.zip ms, MtOk g x.1 x.2) : ∀ {R : List Rl} {acc : Mt}, RkOk g R → MtOk g (.nd l ps) acc → MtOk g (.nd l ps) (R.foldl (mendStep l ms) acc)
  | [], _, _, ha => ha
  | r :: R, acc, hr, ha => by
    show MtOk g (.nd l ps) (R.foldl (mendStep l ms) (mendStep l ms acc r))
    exact MtOk.fold hl h (fun q m => hr q (List.mem_cons_of_mem _ m)) (ha.step (hr r List.mem_cons_self) hl h)
theorem zip_mends {R : List Rl} {g : Sg} : ∀ {ps : List Tr}, (∀ p ∈ ps, MtOk g p (mendT R p)) → ∀ x ∈ ps.zip (ps.map (mendT R)), MtOk g x.1 x.2
  | [], _, x, h => by simp at h
  | p :: ps, k, x, h => by
    rw [List.map_cons, List.zip_cons_cons, List.mem_cons] at h
    rcases h with rfl | h
    · exact k p List.mem_cons_self
    · exact zip_mends (fun q m => k q (List.mem_cons_of_mem _ m)) x h
theorem mendT_ok {g : Sg} {R : List Rl} (hr : RkOk g R) (t : Tr) : MtOk g t (mendT R t) := by
  induction t using Tr.ind with
  | h l ps ih =>
    rw [mendT, mendTs_map]
    exact MtOk.fold (by simp) (zip_mends ih) hr (fun e he => by cases he)
theorem aput_len {m : Mt} {k : Int} {b : Pr} : (aput m k b).length ≤ m.length + 1 := by
  unfold aput
  split
  · rw [List.length_map]; omega
  · simp
theorem step_len {l : Str} {ms : List Mt} {r : Rl} {acc : Mt} : (mendStep l ms acc r).length ≤ acc.length + 1 := by
  unfold mendStep
  split
  · omega
  · unfold betterF
    split
    · exact aput_len
    · split
      · exact aput_len
      · omega
theorem mends_len {l : Str} {ms : List Mt} : ∀ (R : List Rl) (acc : Mt), (R.foldl (mendStep l ms) acc).length ≤ acc.length + R.length
  | [], acc => by simp
  | r :: R, acc => by
    rw [List.foldl_cons, List.length_cons]
    have := mends_len (l := l) (ms := ms) R (mendStep l ms acc r)
    have := step_len (l := l) (ms := ms) (r := r) (acc := acc)
    omega
end Sh
set_option Elab.async false
set_option linter.all false
set_option maxRecDepth 100000
set_option maxHeartbeats 4000000
/-! printed by emit.py: readings of the functions, each shown. -/
namespace Sh.Own
open PySem PySem.Spec PyProof.Rows L2 Sh
def top (i : Nat) : Stmt := PySem.Challenge.pw_shaperoads_k75_whole_trees_mended_by_all.main.body.getD i (.Pass ⟨0, 0, 0, 0⟩)
def FU : Nat := 12
def emL : List ((Str × Str) × Bool) := [(("NoSignature", "NoBook"), false), (("NoSignature", "NoKind"), false), (("NoSignature", "NoTree"), false), (("NoSignature", "ShapeError"), true), (("NoTree", "NoBook"), false), (("NoTree", "NoKind"), false), (("NoTree", "NoTree"), true), (("NoTree", "ShapeError"), true), (("NoBook", "NoBook"), true), (("NoBook", "NoKind"), false), (("NoBook", "NoTree"), false), (("NoBook", "ShapeError"), true), (("NoKind", "NoBook"), false), (("NoKind", "NoKind"), true), (("NoKind", "NoTree"), false), (("NoKind", "ShapeError"), true)]
def cT (K : PySem.W.Frag) (x : Str) : Addr := He.tabOf K (He.codeOf K (x, none))
def TT (K : PySem.W.Frag) : List (Addr × Str) := [(cT K "_law_are_refused", ("_law_are_refused" ++ ".<locals>.") ++ "<lambda>")]
/-- what the head tells -/
structure Facts (P : Program) (w : World) (K : PySem.W.Frag) (mg : Str → Option Value) (base : Heap) : Prop where
  n_abs : mg "abs" = none
  n_all : mg "all" = none
  n_bool : mg "bool" = none
  n_dict : mg "dict" = none
  n_int : mg "int" = none
  n_isinstance : mg "isinstance" = none
  n_len : mg "len" = none
  n_list : mg "list" = none
  n_min : mg "min" = none
  n_range : mg "range" = none
  n_repr : mg "repr" = none
  n_sorted : mg "sorted" = none
  n_str : mg "str" = none
  n_sum : mg "sum" = none
  n_tuple : mg "tuple" = none
  n_zip : mg "zip" = none
  c_LETTERS : ∃ t, mg "LETTERS" = some (.str "abcdefghijklmnopqrstuvwxyz" t)
  c_MOST_KINDS : ∃ t, mg "MOST_KINDS" = some (.int 200 t)
  c_MOST_LABELS : ∃ t, mg "MOST_LABELS" = some (.int 10 t)
  c_MOST_LETTERS : ∃ t, mg "MOST_LETTERS" = some (.int 8 t)
  c_MOST_RANK : ∃ t, mg "MOST_RANK" = some (.int 2 t)
  c_MOST_RULES : ∃ t, mg "MOST_RULES" = some (.int 2000 t)
  m_NoBook : mg "NoBook" = some (.ref (He.ga K "NoBook"))
  m_NoKind : mg "NoKind" = some (.ref (He.ga K "NoKind"))
  m_NoSignature : mg "NoSignature" = some (.ref (He.ga K "NoSignature"))
  m_NoTree : mg "NoTree" = some (.ref (He.ga K "NoTree"))
  m_ShapeError : mg "ShapeError" = some (.ref (He.ga K "ShapeError"))
  s_ShapeError : SupF K mg "ShapeError"
  e_NoSignature : ExF K mg "NoSignature" (He.ma K (He.ga K "NoSignature") "__init__") ∧ ∃ fd, FunD K "__init__" "NoSignature.__init__" (defArgs (cMeth (top 2) 0)) (defBody (cMeth (top 2) 0)) (defScope (cMeth (top 2) 0)) [] [] (He.ma K (He.ga K "NoSignature") "__init__") fd
  e_NoTree : ExF K mg "NoTree" (He.ma K (He.ga K "NoTree") "__init__") ∧ ∃ fd, FunD K "__init__" "NoTree.__init__" (defArgs (cMeth (top 3) 0)) (defBody (cMeth (top 3) 0)) (defScope (cMeth (top 3) 0)) [] [] (He.ma K (He.ga K "NoTree") "__init__") fd
  e_NoBook : ExF K mg "NoBook" (He.ma K (He.ga K "NoBook") "__init__") ∧ ∃ fd, FunD K "__init__" "NoBook.__init__" (defArgs (cMeth (top 4) 0)) (defBody (cMeth (top 4) 0)) (defScope (cMeth (top 4) 0)) [] [] (He.ma K (He.ga K "NoBook") "__init__") fd
  e_NoKind : ExF K mg "NoKind" (He.ma K (He.ga K "NoKind") "__init__") ∧ ∃ fd, FunD K "__init__" "NoKind.__init__" (defArgs (cMeth (top 5) 0)) (defBody (cMeth (top 5) 0)) (defScope (cMeth (top 5) 0)) [] [] (He.ma K (He.ga K "NoKind") "__init__") fd
  f_is_integer : ∃ fd, FunD K "is_integer" "is_integer" (defArgs (top 9)) (defBody (top 9)) (defScope (top 9)) [] [] (He.ga K "is_integer") fd ∧ mg "is_integer" = some (.ref (He.ga K "is_integer"))
  f_is_within : ∃ fd, FunD K "is_within" "is_within" (defArgs (top 10)) (defBody (top 10)) (defScope (top 10)) [] [] (He.ga K "is_within") fd ∧ mg "is_within" = some (.ref (He.ga K "is_within"))
  f_is_name : ∃ fd, FunD K "is_name" "is_name" (defArgs (top 11)) (defBody (top 11)) (defScope (top 11)) [] [] (He.ga K "is_name") fd ∧ mg "is_name" = some (.ref (He.ga K "is_name"))
  f_is_sized : ∃ fd, FunD K "is_sized" "is_sized" (defArgs (top 12)) (defBody (top 12)) (defScope (top 12)) [] [] (He.ga K "is_sized") fd ∧ mg "is_sized" = some (.ref (He.ga K "is_sized"))
  f_are_rising : ∃ fd, FunD K "are_rising" "are_rising" (defArgs (top 13)) (defBody (top 13)) (defScope (top 13)) [] [] (He.ga K "are_rising") fd ∧ mg "are_rising" = some (.ref (He.ga K "are_rising"))
  f_is_signature : ∃ fd, FunD K "is_signature" "is_signature" (defArgs (top 17)) (defBody (top 17)) (defScope (top 17)) [] [] (He.ga K "is_signature") fd ∧ mg "is_signature" = some (.ref (He.ga K "is_signature"))
  f_check_signature : ∃ fd, FunD K "check_signature" "check_signature" (defArgs (top 18)) (defBody (top 18)) (defScope (top 18)) [] [] (He.ga K "check_signature") fd ∧ mg "check_signature" = some (.ref (He.ga K "check_signature"))
  f_raw_is_tree : ∃ fd, FunD K "raw_is_tree" "raw_is_tree" (defArgs (top 19)) (defBody (top 19)) (defScope (top 19)) [] [] (He.ga K "raw_is_tree") fd ∧ mg "raw_is_tree" = some (.ref (He.ga K "raw_is_tree"))
  f_is_tree : ∃ fd, FunD K "is_tree" "is_tree" (defArgs (top 20)) (defBody (top 20)) (defScope (top 20)) [] [] (He.ga K "is_tree") fd ∧ mg "is_tree" = some (.ref (He.ga K "is_tree"))
  f_check_tree : ∃ fd, FunD K "check_tree" "check_tree" (defArgs (top 21)) (defBody (top 21)) (defScope (top 21)) [] [] (He.ga K "check_tree") fd ∧ mg "check_tree" = some (.ref (He.ga K "check_tree"))
  f_check_both : ∃ fd, FunD K "check_both" "check_both" (defArgs (top 22)) (defBody (top 22)) (defScope (top 22)) [] [] (He.ga K "check_both") fd ∧ mg "check_both" = some (.ref (He.ga K "check_both"))
  f_raw_nodes : ∃ fd, FunD K "raw_nodes" "raw_nodes" (defArgs (top 23)) (defBody (top 23)) (defScope (top 23)) [] [] (He.ga K "raw_nodes") fd ∧ mg "raw_nodes" = some (.ref (He.ga K "raw_nodes"))
  f_raw_nodes_many : ∃ fd, FunD K "raw_nodes_many" "raw_nodes_many" (defArgs (top 24)) (defBody (top 24)) (defScope (top 24)) [] [] (He.ga K "raw_nodes_many") fd ∧ mg "raw_nodes_many" = some (.ref (He.ga K "raw_nodes_many"))
  f_order_key : ∃ fd, FunD K "order_key" "order_key" (defArgs (top 25)) (defBody (top 25)) (defScope (top 25)) [] [] (He.ga K "order_key") fd ∧ mg "order_key" = some (.ref (He.ga K "order_key"))
  f_least_of : ∃ fd, FunD K "least_of" "least_of" (defArgs (top 26)) (defBody (top 26)) (defScope (top 26)) [] [] (He.ga K "least_of") fd ∧ mg "least_of" = some (.ref (He.ga K "least_of"))
  f_is_rule : ∃ fd, FunD K "is_rule" "is_rule" (defArgs (top 30)) (defBody (top 30)) (defScope (top 30)) [] [] (He.ga K "is_rule") fd ∧ mg "is_rule" = some (.ref (He.ga K "is_rule"))
  f_is_book : ∃ fd, FunD K "is_book" "is_book" (defArgs (top 31)) (defBody (top 31)) (defScope (top 31)) [] [] (He.ga K "is_book") fd ∧ mg "is_book" = some (.ref (He.ga K "is_book"))
  f_check_book : ∃ fd, FunD K "check_book" "check_book" (defArgs (top 32)) (defBody (top 32)) (defScope (top 32)) [] [] (He.ga K "check_book") fd ∧ mg "check_book" = some (.ref (He.ga K "check_book"))
  f_check_kind : ∃ fd, FunD K "check_kind" "check_kind" (defArgs (top 33)) (defBody (top 33)) (defScope (top 33)) [] [] (He.ga K "check_kind") fd ∧ mg "check_kind" = some (.ref (He.ga K "check_kind"))
  f_rules_by_label : ∃ fd, FunD K "rules_by_label" "rules_by_label" (defArgs (top 34)) (defBody (top 34)) (defScope (top 34)) [] [] (He.ga K "rules_by_label") fd ∧ mg "rules_by_label" = some (.ref (He.ga K "rules_by_label"))
  f_step_of : ∃ fd, FunD K "step_of" "step_of" (defArgs (top 35)) (defBody (top 35)) (defScope (top 35)) [] [] (He.ga K "step_of") fd ∧ mg "step_of" = some (.ref (He.ga K "step_of"))
  f_lots_in : ∃ fd, FunD K "lots_in" "lots_in" (defArgs (top 36)) (defBody (top 36)) (defScope (top 36)) [] [] (He.ga K "lots_in") fd ∧ mg "lots_in" = some (.ref (He.ga K "lots_in"))
  f_raw_kinds_of : ∃ fd, FunD K "raw_kinds_of" "raw_kinds_of" (defArgs (top 37)) (defBody (top 37)) (defScope (top 37)) [] [] (He.ga K "raw_kinds_of") fd ∧ mg "raw_kinds_of" = some (.ref (He.ga K "raw_kinds_of"))
  f_kinds_of : ∃ fd, FunD K "kinds_of" "kinds_of" (defArgs (top 38)) (defBody (top 38)) (defScope (top 38)) [] [] (He.ga K "kinds_of") fd ∧ mg "kinds_of" = some (.ref (He.ga K "kinds_of"))
  f_check_kind_tree : ∃ fd, FunD K "check_kind_tree" "check_kind_tree" (defArgs (top 39)) (defBody (top 39)) (defScope (top 39)) [] [] (He.ga K "check_kind_tree") fd ∧ mg "check_kind_tree" = some (.ref (He.ga K "check_kind_tree"))
  f_is_tree_of : ∃ fd, FunD K "is_tree_of" "is_tree_of" (defArgs (top 41)) (defBody (top 41)) (defScope (top 41)) [] [] (He.ga K "is_tree_of") fd ∧ mg "is_tree_of" = some (.ref (He.ga K "is_tree_of"))
  f_is_of : ∃ fd, FunD K "is_of" "is_of" (defArgs (top 40)) (defBody (top 40)) (defScope (top 40)) [] [] (He.ga K "is_of") fd ∧ mg "is_of" = some (.ref (He.ga K "is_of"))
  f_raw_changes : ∃ fd, FunD K "raw_changes" "raw_changes" (defArgs (top 43)) (defBody (top 43)) (defScope (top 43)) [] [] (He.ga K "raw_changes") fd ∧ mg "raw_changes" = some (.ref (He.ga K "raw_changes"))
  f_changes_between : ∃ fd, FunD K "changes_between" "changes_between" (defArgs (top 44)) (defBody (top 44)) (defScope (top 44)) [] [] (He.ga K "changes_between") fd ∧ mg "changes_between" = some (.ref (He.ga K "changes_between"))
  f_better_of : ∃ fd, FunD K "better_of" "better_of" (defArgs (top 45)) (defBody (top 45)) (defScope (top 45)) [] [] (He.ga K "better_of") fd ∧ mg "better_of" = some (.ref (He.ga K "better_of"))
  f_mends_of : ∃ fd, FunD K "mends_of" "mends_of" (defArgs (top 46)) (defBody (top 46)) (defScope (top 46)) [] [] (He.ga K "mends_of") fd ∧ mg "mends_of" = some (.ref (He.ga K "mends_of"))
  f_raw_mends : ∃ fd, FunD K "raw_mends" "raw_mends" (defArgs (top 47)) (defBody (top 47)) (defScope (top 47)) [] [] (He.ga K "raw_mends") fd ∧ mg "raw_mends" = some (.ref (He.ga K "raw_mends"))
  f_mended : ∃ fd, FunD K "mended" "mended" (defArgs (top 48)) (defBody (top 48)) (defScope (top 48)) [] [] (He.ga K "mended") fd ∧ mg "mended" = some (.ref (He.ga K "mended"))
  f__law_bag : ∃ fd, FunD K "_law_bag" "_law_bag" (defArgs (top 50)) (defBody (top 50)) (defScope (top 50)) [] [] (He.ga K "_law_bag") fd ∧ mg "_law_bag" = some (.ref (He.ga K "_law_bag"))
  f__law_pick : ∃ fd, FunD K "_law_pick" "_law_pick" (defArgs (top 51)) (defBody (top 51)) (defScope (top 51)) [] [] (He.ga K "_law_pick") fd ∧ mg "_law_pick" = some (.ref (He.ga K "_law_pick"))
  f__law_some : ∃ fd, FunD K "_law_some" "_law_some" (defArgs (top 52)) (defBody (top 52)) (defScope (top 52)) [] [] (He.ga K "_law_some") fd ∧ mg "_law_some" = some (.ref (He.ga K "_law_some"))
  f__law_signature : ∃ fd, FunD K "_law_signature" "_law_signature" (defArgs (top 53)) (defBody (top 53)) (defScope (top 53)) [] [] (He.ga K "_law_signature") fd ∧ mg "_law_signature" = some (.ref (He.ga K "_law_signature"))
  f__law_choices : ∃ fd, FunD K "_law_choices" "_law_choices" (defArgs (top 54)) (defBody (top 54)) (defScope (top 54)) [] [] (He.ga K "_law_choices") fd ∧ mg "_law_choices" = some (.ref (He.ga K "_law_choices"))
  f__law_book : ∃ fd, FunD K "_law_book" "_law_book" (defArgs (top 55)) (defBody (top 55)) (defScope (top 55)) [] [] (He.ga K "_law_book") fd ∧ mg "_law_book" = some (.ref (He.ga K "_law_book"))
  f__law_nodes : ∃ fd, FunD K "_law_nodes" "_law_nodes" (defArgs (top 56)) (defBody (top 56)) (defScope (top 56)) [] [] (He.ga K "_law_nodes") fd ∧ mg "_law_nodes" = some (.ref (He.ga K "_law_nodes"))
  f__law_tree : ∃ fd, FunD K "_law_tree" "_law_tree" (defArgs (top 57)) (defBody (top 57)) (defScope (top 57)) [] [] (He.ga K "_law_tree") fd ∧ mg "_law_tree" = some (.ref (He.ga K "_law_tree"))
  f__law_lot : ∃ fd, FunD K "_law_lot" "_law_lot" (defArgs (top 58)) (defBody (top 58)) (defScope (top 58)) [] [] (He.ga K "_law_lot") fd ∧ mg "_law_lot" = some (.ref (He.ga K "_law_lot"))
  f__law_of_form : ∃ fd, FunD K "_law_of_form" "_law_of_form" (defArgs (top 59)) (defBody (top 59)) (defScope (top 59)) [] [] (He.ga K "_law_of_form") fd ∧ mg "_law_of_form" = some (.ref (He.ga K "_law_of_form"))
  f__law_changes : ∃ fd, FunD K "_law_changes" "_law_changes" (defArgs (top 60)) (defBody (top 60)) (defScope (top 60)) [] [] (He.ga K "_law_changes") fd ∧ mg "_law_changes" = some (.ref (He.ga K "_law_changes"))
  f__law_mended : ∃ fd, FunD K "_law_mended" "_law_mended" (defArgs (top 61)) (defBody (top 61)) (defScope (top 61)) [] [] (He.ga K "_law_mended") fd ∧ mg "_law_mended" = some (.ref (He.ga K "_law_mended"))
  f__law_said : ∃ fd, FunD K "_law_said" "_law_said" (defArgs (top 62)) (defBody (top 62)) (defScope (top 62)) [] [] (He.ga K "_law_said") fd ∧ mg "_law_said" = some (.ref (He.ga K "_law_said"))
  f__law_no_tree : ∃ fd, FunD K "_law_no_tree" "_law_no_tree" (defArgs (top 63)) (defBody (top 63)) (defScope (top 63)) [] [] (He.ga K "_law_no_tree") fd ∧ mg "_law_no_tree" = some (.ref (He.ga K "_law_no_tree"))
  f__law_no_book : ∃ fd, FunD K "_law_no_book" "_law_no_book" (defArgs (top 64)) (defBody (top 64)) (defScope (top 64)) [] [] (He.ga K "_law_no_book") fd ∧ mg "_law_no_book" = some (.ref (He.ga K "_law_no_book"))
  f__law_is_kind_right : ∃ fd, FunD K "_law_is_kind_right" "_law_is_kind_right" (defArgs (top 65)) (defBody (top 65)) (defScope (top 65)) [] [] (He.ga K "_law_is_kind_right") fd ∧ mg "_law_is_kind_right" = some (.ref (He.ga K "_law_is_kind_right"))
  f__law_are_refused : ∃ fd, FunD K "_law_are_refused" "_law_are_refused" (defArgs (top 66)) (defBody (top 66)) (defScope (top 66)) [] [] (He.ga K "_law_are_refused") fd ∧ mg "_law_are_refused" = some (.ref (He.ga K "_law_are_refused"))
  f_law : ∃ fd, FunD K "law" "law" (defArgs (top 67)) (defBody (top 67)) (defScope (top 67)) [] [] (He.ga K "law") fd ∧ mg "law" = some (.ref (He.ga K "law"))
  tb__law_are_refused : LamX.TabB base mg (He.codeOf K ("_law_are_refused", none)) (cT K "_law_are_refused")
  em : emB K emL = true
variable {P : Program} {w : World} {K : PySem.W.Frag} {mg : Str → Option Value} {base : Heap}
theorem x_NoSignature {X : Cx} {k : Nat} {p pos : Pos} (Γ : Facts X.prog X.w X.K X.mg X.base) (hg : Gl X "NoSignature") (hr : Room k X.A) (hk : 3 ≤ k) : PMk X (.Call (.Name "NoSignature" p) [] [] pos) (fun _ H Q => Q (.ref (He.ga X.K "NoSignature")) none H) := by
  obtain ⟨E, fd, F⟩ := Γ.e_NoSignature
  exact pmk_ex (y := "ShapeError") E Γ.s_ShapeError F ⟨rfl, rfl, rfl, by decide +kernel, rfl, by decide +kernel, by decide +kernel⟩ (fun _ _ _ _ _ _ us hl => match us, hl with | [_], _ => rfl) rfl rfl rfl (by decide) (by decide) (fun _ => rfl) hg hr hk
theorem x_NoTree {X : Cx} {k : Nat} {p pos : Pos} (Γ : Facts X.prog X.w X.K X.mg X.base) (hg : Gl X "NoTree") (hr : Room k X.A) (hk : 3 ≤ k) : PMk X (.Call (.Name "NoTree" p) [] [] pos) (fun _ H Q => Q (.ref (He.ga X.K "NoTree")) none H) := by
  obtain ⟨E, fd, F⟩ := Γ.e_NoTree
  exact pmk_ex (y := "ShapeError") E Γ.s_ShapeError F ⟨rfl, rfl, rfl, by decide +kernel, rfl, by decide +kernel, by decide +kernel⟩ (fun _ _ _ _ _ _ us hl => match us, hl with | [_], _ => rfl) rfl rfl rfl (by decide) (by decide) (fun _ => rfl) hg hr hk
theorem x_NoBook {X : Cx} {k : Nat} {p pos : Pos} (Γ : Facts X.prog X.w X.K X.mg X.base) (hg : Gl X "NoBook") (hr : Room k X.A) (hk : 3 ≤ k) : PMk X (.Call (.Name "NoBook" p) [] [] pos) (fun _ H Q => Q (.ref (He.ga X.K "NoBook")) none H) := by
  obtain ⟨E, fd, F⟩ := Γ.e_NoBook
  exact pmk_ex (y := "ShapeError") E Γ.s_ShapeError F ⟨rfl, rfl, rfl, by decide +kernel, rfl, by decide +kernel, by decide +kernel⟩ (fun _ _ _ _ _ _ us hl => match us, hl with | [_], _ => rfl) rfl rfl rfl (by decide) (by decide) (fun _ => rfl) hg hr hk
theorem x_NoKind {X : Cx} {k : Nat} {p pos : Pos} (Γ : Facts X.prog X.w X.K X.mg X.base) (hg : Gl X "NoKind") (hr : Room k X.A) (hk : 3 ≤ k) : PMk X (.Call (.Name "NoKind" p) [] [] pos) (fun _ H Q => Q (.ref (He.ga X.K "NoKind")) none H) := by
  obtain ⟨E, fd, F⟩ := Γ.e_NoKind
  exact pmk_ex (y := "ShapeError") E Γ.s_ShapeError F ⟨rfl, rfl, rfl, by decide +kernel, rfl, by decide +kernel, by decide +kernel⟩ (fun _ _ _ _ _ _ us hl => match us, hl with | [_], _ => rfl) rfl rfl rfl (by decide) (by decide) (fun _ => rfl) hg hr hk
theorem t__law_are_refused : (cT K "_law_are_refused", (("_law_are_refused" ++ ".<locals>.") ++ "<lambda>" : Str)) ∈ TT K := List.mem_cons_self
theorem u__law_are_refused : ∀ p ∈ TT K, p.1 = cT K "_law_are_refused" → p.2 = (("_law_are_refused" ++ ".<locals>.") ++ "<lambda>" : Str) := fun p hp _ => by rw [List.mem_singleton.mp hp]
/-! ### is_integer -/
abbrev N_is_integer : List Str := ["thing"]
abbrev P_is_integer : List Str := ["thing"]
theorem nd_is_integer : N_is_integer.Nodup := by decide +kernel
theorem s_is_integer : FnScope N_is_integer P_is_integer (defScope (top 9)) := ⟨rfl, rfl, rfl, nd_is_integer, rfl, by decide +kernel, by decide +kernel⟩
noncomputable def p_is_integer : M Fl :=
  (retD (andD (isM "int" (getD 0)) (notD (isM "bool" (getD 0)))))
noncomputable def g_is_integer : Fn := runM p_is_integer 1
theorem D_is_integer (Γ : Facts P w K mg base) : DefG P w K mg base (TT K) "is_integer" 1 [] 1 g_is_integer := by
  obtain ⟨fd, F, hm⟩ := Γ.f_is_integer
  exact DefG.mk' F s_is_integer hm (fun _ _ _ _ _ _ us hl => match us, hl with | [u0], _ => rfl) rfl rfl fun cdv A outer s H E hr tk =>
  (ess_one (zRetD (ev_and (zIs (b_isinstance rfl Γ.n_isinstance) (b_int rfl Γ.n_int) kit_int (zN (pv 0)) rfl) (ev_one (zNotD (zIs (b_isinstance rfl Γ.n_isinstance) (b_bool rfl Γ.n_bool) kit_bool (zN (pv 0)) rfl))))))
/-! ### is_within -/
abbrev N_is_within : List Str := ["thing", "low", "high"]
abbrev P_is_within : List Str := ["thing", "low", "high"]
theorem nd_is_within : N_is_within.Nodup := by decide +kernel
theorem s_is_within : FnScope N_is_within P_is_within (defScope (top 10)) := ⟨rfl, rfl, rfl, nd_is_within, rfl, by decide +kernel, by decide +kernel⟩
noncomputable def p_is_within : M Fl :=
  (retD (andD (toD (callM g_is_integer 1 (consM (getD 0) nilM))) (chainD leB leB (getD 1) (getD 0) (getD 2))))
noncomputable def g_is_within : Fn := runM p_is_within 3
theorem D_is_within (Γ : Facts P w K mg base) (D_is_integer : DefG P w K mg base (TT K) "is_integer" 1 [] 1 g_is_integer) : DefG P w K mg base (TT K) "is_within" 2 [] 3 g_is_within := by
  obtain ⟨fd, F, hm⟩ := Γ.f_is_within
  exact DefG.mk' F s_is_within hm (fun _ _ _ _ _ _ us hl => match us, hl with | [u0, u1, u2], _ => rfl) rfl rfl fun cdv A outer s H E hr tk =>
  (ess_one (zRetD (ev_and (zO (eo_call (D_is_integer.on hr (by decide) rfl (by decide)) tk (zCons (zN (pv 0)) zNil rfl) rfl rfl)) (ev_one (zChD op_le opv_cmpI op_le opv_cmpI (zN (pv 1)) (zN (pv 0)) (zN (pv 2)) rfl)))))
/-! ### is_name -/
abbrev N_is_name : List Str := ["thing", "sign"]
abbrev P_is_name : List Str := ["thing"]
theorem nd_is_name : N_is_name.Nodup := by decide +kernel
theorem s_is_name : FnScope N_is_name P_is_name (defScope (top 11)) := ⟨rfl, rfl, rfl, nd_is_name, rfl, by decide +kernel, by decide +kernel⟩
theorem k_is_name_0 : BlkOk N_is_name (defScope (top 11)) ⟨.function, [(".0", .local), ("sign", .local), ("LETTERS", .globalImplicit)], false, false, []⟩ [("sign", 1)] := ⟨rfl, by decide +kernel, by decide +kernel, by decide +kernel, by decide +kernel⟩
noncomputable def p_is_name : M Fl :=
  (seqM (iteM (orM (notT (truT (isM "str" (getD 0)))) (notT (chainM leB leB (cD (.int 1)) (lenN 0) (cD (.int 8))))) (retD (cD (.bool false))) nxM)
  (retD (fnD allG (consM (toD (lcM [1] (seqI (getD 0)) (gNm 1) trueM (cmpD inB (getD 1) (cD (.str "abcdefghijklmnopqrstuvwxyz"))))) nilM))))
noncomputable def g_is_name : Fn := runM p_is_name 2
theorem D_is_name (Γ : Facts P w K mg base) : DefG P w K mg base (TT K) "is_name" 1 [] 1 g_is_name := by
  obtain ⟨fd, F, hm⟩ := Γ.f_is_name
  exact DefG.mk' F s_is_name hm (fun _ _ _ _ _ _ us hl => match us, hl with | [u0], _ => rfl) rfl rfl fun cdv A outer s H E hr tk =>
  (ess_cons (es_if (EvW.t (et_or (zNotT (zTru (zIs (b_isinstance rfl Γ.n_isinstance) (b_str rfl Γ.n_str) kit_str (zN (pv 0)) rfl) (fun _ => rfl))) (et_or1 (zNotT (zChT op_le opv_cmpI op_le opv_cmpI zInt (ev_lenN (b_len rfl Γ.n_len) (pv 0)) (zGInt rfl Γ.c_MOST_LETTERS (by decide)) rfl))))) (ess_one (zRetD zBl)) ess_nil)
  (ess_one (zRetD (zFnD (b_all rfl Γ.n_all) (cr_all rfl) cv_all (zCons (zO (eo_lc (own := [("sign", 1)]) rfl nd_is_name (zSeq (zN (pv 0))) k_is_name_0 (by decide) (fun _ _ _ _ _ => (eg_name nd_is_name rfl (by first | exact Or.inl rfl | exact Or.inr rfl) (by first | exact Or.inr rfl | exact Or.inl rfl))) (fun _ _ _ _ _ => ets_nil) (fun _ _ _ _ _ => (zCmpD (op_inA (hu1 hr)) opv_in (zN (pv 1)) (zGStr rfl Γ.c_LETTERS (by decide)) rfl)) (fun _ => rfl))) zNil rfl) rfl rfl))))
/-! ### is_sized -/
abbrev N_is_sized : List Str := ["thing", "least", "most"]
abbrev P_is_sized : List Str := ["thing", "least", "most"]
theorem nd_is_sized : N_is_sized.Nodup := by decide +kernel
theorem s_is_sized : FnScope N_is_sized P_is_sized (defScope (top 12)) := ⟨rfl, rfl, rfl, nd_is_sized, rfl, by decide +kernel, by decide +kernel⟩
noncomputable def p_is_sized : M Fl :=
  (retD (andD (isM "tuple" (getD 0)) (chainD leB leB (getD 1) (lenN 0) (getD 2))))
noncomputable def g_is_sized : Fn := runM p_is_sized 3
theorem D_is_sized (Γ : Facts P w K mg base) : DefG P w K mg base (TT K) "is_sized" 1 [] 3 g_is_sized := by
  obtain ⟨fd, F, hm⟩ := Γ.f_is_sized
  exact DefG.mk' F s_is_sized hm (fun _ _ _ _ _ _ us hl => match us, hl with | [u0, u1, u2], _ => rfl) rfl rfl fun cdv A outer s H E hr tk =>
  (ess_one (zRetD (ev_and (zIs (b_isinstance rfl Γ.n_isinstance) (b_tuple rfl Γ.n_tuple) kit_tuple (zN (pv 0)) rfl) (ev_one (zChD op_le opv_cmpI op_le opv_cmpI (zN (pv 1)) (ev_lenN (b_len rfl Γ.n_len) (pv 0)) (zN (pv 2)) rfl)))))
/-! ### are_rising -/
abbrev N_are_rising : List Str := ["things", "at"]
abbrev P_are_rising : List Str := ["things"]
theorem nd_are_rising : N_are_rising.Nodup := by decide +kernel
theorem s_are_rising : FnScope N_are_rising P_are_rising (defScope (top 13)) := ⟨rfl, rfl, rfl, nd_are_rising, rfl, by decide +kernel, by decide +kernel⟩
theorem k_are_rising_0 : BlkOk N_are_rising (defScope (top 13)) ⟨.function, [(".0", .local), ("at", .local), ("things", .free)], false, false, []⟩ [("at", 1)] := ⟨rfl, by decide +kernel, by decide +kernel, by decide +kernel, by decide +kernel⟩
noncomputable def p_are_rising : M Fl :=
  (retD (fnD allG (consM (toD (lcM [1] (argI rng1 (consM (toD (bin subO (lenN 0) (cD (.int 1)))) nilM)) (gNm 1) trueM (cmpD ltB (subN 0 (getD 1)) (subN 0 (toD (bin addO (getD 1) (cD (.int 1)))))))) nilM)))
noncomputable def g_are_rising : Fn := runM p_are_rising 2
theorem D_are_rising (Γ : Facts P w K mg base) : DefG P w K mg base (TT K) "are_rising" 1 [] 1 g_are_rising := by
  obtain ⟨fd, F, hm⟩ := Γ.f_are_rising
  exact DefG.mk' F s_are_rising hm (fun _ _ _ _ _ _ us hl => match us, hl with | [u0], _ => rfl) rfl rfl fun cdv A outer s H E hr tk =>
  (ess_one (zRetD (zFnD (b_all rfl Γ.n_all) (cr_all rfl) cv_all (zCons (zO (eo_lc (own := [("at", 1)]) rfl nd_are_rising (ei_rng1 rfl Γ.n_range (zCons (zO (zBin op_sub opv_sub (ev_lenN (b_len rfl Γ.n_len) (pv 0)) zInt)) zNil rfl) rfl) k_are_rising_0 (by decide) (fun _ _ _ _ _ => (eg_name nd_are_rising rfl (by first | exact Or.inl rfl | exact Or.inr rfl) (by first | exact Or.inr rfl | exact Or.inl rfl))) (fun _ _ _ _ _ => ets_nil) (fun _ _ _ _ _ => (zCmpD (op_ltD (hu64 hr)) opv_lt (ev_subN (hu1 hr) (pv 0) (zN (pv 1)) (fun _ _ => rfl)) (ev_subN (hu1 hr) (pv 0) (zO (zBin opr_add opv_add (zN (pv 1)) zInt)) (fun _ _ => rfl)) rfl)) (fun _ => rfl))) zNil rfl) rfl rfl)))
/-! ### is_signature -/
abbrev N_is_signature : List Str := ["thing", "pair"]
abbrev P_is_signature : List Str := ["thing"]
theorem nd_is_signature : N_is_signature.Nodup := by decide +kernel
theorem s_is_signature : FnScope N_is_signature P_is_signature (defScope (top 17)) := ⟨rfl, rfl, rfl, nd_is_signature, rfl, by decide +kernel, by decide +kernel⟩
theorem k_is_signature_0 : BlkOk N_is_signature (defScope (top 17)) ⟨.function, [(".0", .local), ("pair", .local), ("is_sized", .globalImplicit)], false, false, []⟩ [("pair", 1)] := ⟨rfl, by decide +kernel, by decide +kernel, by decide +kernel, by decide +kernel⟩
theorem k_is_signature_1 : BlkOk N_is_signature (defScope (top 17)) ⟨.function, [(".0", .local), ("pair", .local), ("is_name", .globalImplicit), ("is_within", .globalImplicit), ("MOST_RANK", .globalImplicit)], false, false, []⟩ [("pair", 1)] := ⟨rfl, by decide +kernel, by decide +kernel, by decide +kernel, by decide +kernel⟩
theorem k_is_signature_2 : BlkOk N_is_signature (defScope (top 17)) ⟨.function, [(".0", .local), ("pair", .local)], false, false, []⟩ [("pair", 1)] := ⟨rfl, by decide +kernel, by decide +kernel, by decide +kernel, by decide +kernel⟩
noncomputable def p_is_signature : M Fl :=
  (seqM (iteM (orM (notT (truT (toD (callM g_is_sized 3 (consM (getD 0) (consM (cD (.int 1)) (consM (cD (.int 10)) nilM))))))) (notT (truT (fnD allG (consM (toD (lcM [1] (seqI (getD 0)) (gNm 1) trueM (toD (callM g_is_sized 3 (consM (getD 1) (consM (cD (.int 2)) (consM (cD (.int 2)) nilM))))))) nilM))))) (retD (cD (.bool false))) nxM)
  (seqM (iteM (notT (truT (fnD allG (consM (toD (lcM [1] (seqI (getD 0)) (gNm 1) trueM (andD (toD (callM g_is_name 1 (consM (subN 1 (cD (.int 0))) nilM))) (toD (callM g_is_within 3 (consM (subN 1 (cD (.int 1))) (consM (cD (.int 0)) (consM (cD (.int 2)) nilM)))))))) nilM)))) (retD (cD (.bool false))) nxM)
  (retO (callM g_are_rising 1 (consM (toD (lcM [1] (seqI (getD 0)) (gNm 1) trueM (subN 1 (cD (.int 0))))) nilM)))))
noncomputable def g_is_signature : Fn := runM p_is_signature 2
theorem D_is_signature (Γ : Facts P w K mg base) (D_are_rising : DefG P w K mg base (TT K) "are_rising" 1 [] 1 g_are_rising) (D_is_name : DefG P w K mg base (TT K) "is_name" 1 [] 1 g_is_name) (D_is_sized : DefG P w K mg base (TT K) "is_sized" 1 [] 3 g_is_sized) (D_is_within : DefG P w K mg base (TT K) "is_within" 2 [] 3 g_is_within) : DefG P w K mg base (TT K) "is_signature" 3 [] 1 g_is_signature := by
  obtain ⟨fd, F, hm⟩ := Γ.f_is_signature
  exact DefG.mk' F s_is_signature hm (fun _ _ _ _ _ _ us hl => match us, hl with | [u0], _ => rfl) rfl rfl fun cdv A outer s H E hr tk =>
  (ess_cons (es_if (EvW.t (et_or (zNotT (zTru (zO (eo_call (D_is_sized.on hr (by decide) rfl (by decide)) tk (zCons (zN (pv 0)) (zCons zInt (zCons (zGInt rfl Γ.c_MOST_LABELS (by decide)) zNil rfl) rfl) rfl) rfl rfl)) (fun _ => rfl))) (et_or1 (zNotT (zTru (zFnD (b_all rfl Γ.n_all) (cr_all rfl) cv_all (zCons (zO (eo_lc (own := [("pair", 1)]) rfl nd_is_signature (zSeq (zN (pv 0))) k_is_signature_0 (by decide) (fun _ _ _ _ _ => (eg_name nd_is_signature rfl (by first | exact Or.inl rfl | exact Or.inr rfl) (by first | exact Or.inr rfl | exact Or.inl rfl))) (fun _ _ _ _ _ => ets_nil) (fun _ _ _ _ _ => (zO (eo_call (D_is_sized.on hr (by decide) rfl (by decide)) LamX.takes0 (zCons (zN (pv 1)) (zCons zInt (zCons zInt zNil rfl) rfl) rfl) rfl rfl))) (fun _ => rfl))) zNil rfl) rfl rfl) (fun _ => rfl)))))) (ess_one (zRetD zBl)) ess_nil)
  (ess_cons (es_if (zNotT (zTru (zFnD (b_all rfl Γ.n_all) (cr_all rfl) cv_all (zCons (zO (eo_lc (own := [("pair", 1)]) rfl nd_is_signature (zSeq (zN (pv 0))) k_is_signature_1 (by decide) (fun _ _ _ _ _ => (eg_name nd_is_signature rfl (by first | exact Or.inl rfl | exact Or.inr rfl) (by first | exact Or.inr rfl | exact Or.inl rfl))) (fun _ _ _ _ _ => ets_nil) (fun _ _ _ _ _ => (ev_and (zO (eo_call (D_is_name.on hr (by decide) rfl (by decide)) LamX.takes0 (zCons (ev_subN (hu1 hr) (pv 1) zInt (fun _ _ => rfl)) zNil rfl) rfl rfl)) (ev_one (zO (eo_call (D_is_within.on hr (by decide) rfl (by decide)) LamX.takes0 (zCons (ev_subN (hu1 hr) (pv 1) zInt (fun _ _ => rfl)) (zCons zInt (zCons (zGInt rfl Γ.c_MOST_RANK (by decide)) zNil rfl) rfl) rfl) rfl rfl))))) (fun _ => rfl))) zNil rfl) rfl rfl) (fun _ => rfl))) (ess_one (zRetD zBl)) ess_nil)
  (ess_one (zRet (eo_call (D_are_rising.on hr (by decide) rfl (by decide)) tk (zCons (zO (eo_lc (own := [("pair", 1)]) rfl nd_is_signature (zSeq (zN (pv 0))) k_is_signature_2 (by decide) (fun _ _ _ _ _ => (eg_name nd_is_signature rfl (by first | exact Or.inl rfl | exact Or.inr rfl) (by first | exact Or.inr rfl | exact Or.inl rfl))) (fun _ _ _ _ _ => ets_nil) (fun _ _ _ _ _ => (ev_subN (hu1 hr) (pv 1) zInt (fun _ _ => rfl))) (fun _ => rfl))) zNil rfl) rfl rfl)))))
/-! ### check_signature -/
abbrev N_check_signature : List Str := ["thing"]
abbrev P_check_signature : List Str := ["thing"]
theorem nd_check_signature : N_check_signature.Nodup := by decide +kernel
theorem s_check_signature : FnScope N_check_signature P_check_signature (defScope (top 18)) := ⟨rfl, rfl, rfl, nd_check_signature, rfl, by decide +kernel, by decide +kernel⟩
noncomputable def p_check_signature : M Fl :=
  (iteM (notT (truT (toD (callM g_is_signature 1 (consM (getD 0) nilM))))) (raiseM "NoSignature") nxM)
noncomputable def g_check_signature : Fn := runM p_check_signature 1
theorem D_check_signature (Γ : Facts P w K mg base) (D_is_signature : DefG P w K mg base (TT K) "is_signature" 3 [] 1 g_is_signature) : DefG P w K mg base (TT K) "check_signature" 4 [] 1 g_check_signature := by
  obtain ⟨fd, F, hm⟩ := Γ.f_check_signature
  exact DefG.mk' F s_check_signature hm (fun _ _ _ _ _ _ us hl => match us, hl with | [u0], _ => rfl) rfl rfl fun cdv A outer s H E hr tk =>
  (ess_one (es_if (zNotT (zTru (zO (eo_call (D_is_signature.on hr (by decide) rfl (by decide)) tk (zCons (zN (pv 0)) zNil rfl) rfl rfl)) (fun _ => rfl))) (ess_one (es_raise rfl tk (x_NoSignature Γ rfl hr (by omega)))) ess_nil))
/-! ### raw_is_tree -/
abbrev N_raw_is_tree : List Str := ["signature", "thing", "ranks", "waiting", "here"]
abbrev P_raw_is_tree : List Str := ["signature", "thing"]
theorem nd_raw_is_tree : N_raw_is_tree.Nodup := by decide +kernel
theorem s_raw_is_tree : FnScope N_raw_is_tree P_raw_is_tree (defScope (top 19)) := ⟨rfl, rfl, rfl, nd_raw_is_tree, rfl, by decide +kernel, by decide +kernel⟩
noncomputable def p_raw_is_tree : M Fl :=
  (seqM (parM [2, 3] (consO (fnO dictG (consM (getD 0) nilM)) (consO (lstM (consM (getD 1) nilM)) nilO)))
  (seqM (whileU (cmpT gtB (lenN 3) (cD (.int 0))) (seqM (setD 4 (popM 3))
  (seqM (iteM (orM (notT (truT (toD (callM g_is_sized 3 (consM (getD 4) (consM (cD (.int 2)) (consM (cD (.int 2)) nilM))))))) (orM (notT (truT (isM "str" (subN 4 (cD (.int 0)))))) (notinN 2 (subN 4 (cD (.int 0)))))) (retD (cD (.bool false))) nxM)
  (seqM (iteM (notT (truT (toD (callM g_is_sized 3 (consM (subN 4 (cD (.int 1))) (consM (subN 2 (subN 4 (cD (.int 0)))) (consM (subN 2 (subN 4 (cD (.int 0)))) nilM))))))) (retD (cD (.bool false))) nxM)
  (exprD (extM 3 (consM (toD (fnO listG (consM (subN 4 (cD (.int 1))) nilM))) nilM)))))))
  (retD (cD (.bool true)))))
noncomputable def g_raw_is_tree : Fn := runM p_raw_is_tree 5
theorem D_raw_is_tree (Γ : Facts P w K mg base) (D_is_sized : DefG P w K mg base (TT K) "is_sized" 1 [] 3 g_is_sized) : DefG P w K mg base (TT K) "raw_is_tree" 2 [] 2 g_raw_is_tree := by
  obtain ⟨fd, F, hm⟩ := Γ.f_raw_is_tree
  exact DefG.mk' F s_raw_is_tree hm (fun _ _ _ _ _ _ us hl => match us, hl with | [u0, u1], _ => rfl) rfl rfl fun cdv A outer s H E hr tk =>
  (ess_cons (es_par (by decide) rfl nd_raw_is_tree rfl rfl (by decide) rfl rfl (eao_cons (zTyO (b_dict rfl Γ.n_dict) (call_dictA rfl) cv_dict (zCons (zN (pv 0)) zNil rfl) rfl rfl) (eao_cons (zLst (zCons (zN (pv 1)) zNil rfl)) zNilO rfl) rfl) rfl rfl)
  (ess_cons (es_while (passes_of rfl) (zCmpT op_gt opv_cmpI (ev_lenN (b_len rfl Γ.n_len) (pv 3)) zInt rfl) (ess_cons (zSetD (ev_pop (pv 3) rfl rfl) (by decide) nd_raw_is_tree rfl (by first | exact Or.inl rfl | exact Or.inr rfl) rfl (by first | exact Or.inr rfl | exact Or.inl rfl))
  (ess_cons (es_if (EvW.t (et_or (zNotT (zTru (zO (eo_call (D_is_sized.on hr (by decide) rfl (by decide)) tk (zCons (zN (pv 4)) (zCons zInt (zCons zInt zNil rfl) rfl) rfl) rfl rfl)) (fun _ => rfl))) (et_or (zNotT (zTru (zIs (b_isinstance rfl Γ.n_isinstance) (b_str rfl Γ.n_str) kit_str (ev_subN (hu1 hr) (pv 4) zInt (fun _ _ => rfl)) rfl) (fun _ => rfl))) (et_or1 (et_notinN (hu1 hr) (ev_subN (hu1 hr) (pv 4) zInt (fun _ _ => rfl)) (pv 2) rfl))))) (ess_one (zRetD zBl)) ess_nil)
  (ess_cons (es_if (zNotT (zTru (zO (eo_call (D_is_sized.on hr (by decide) rfl (by decide)) tk (zCons (ev_subN (hu1 hr) (pv 4) zInt (fun _ _ => rfl)) (zCons (ev_subN (hu1 hr) (pv 2) (ev_subN (hu1 hr) (pv 4) zInt (fun _ _ => rfl)) (fun _ _ => rfl)) (zCons (ev_subN (hu1 hr) (pv 2) (ev_subN (hu1 hr) (pv 4) zInt (fun _ _ => rfl)) (fun _ _ => rfl)) zNil rfl) rfl) rfl) rfl rfl)) (fun _ => rfl))) (ess_one (zRetD zBl)) ess_nil)
  (ess_one (zExprD (ev_extend (pv 3) (zCons (zO (zTyO (b_list rfl Γ.n_list) call_list_of cv_list (zCons (ev_subN (hu1 hr) (pv 4) zInt (fun _ _ => rfl)) zNil rfl) rfl rfl)) zNil rfl) rfl rfl rfl rfl rfl) rfl))))))
  (ess_one (zRetD zBl))))
/-! ### is_tree -/
abbrev N_is_tree : List Str := ["signature", "thing"]
abbrev P_is_tree : List Str := ["signature", "thing"]
theorem nd_is_tree : N_is_tree.Nodup := by decide +kernel
theorem s_is_tree : FnScope N_is_tree P_is_tree (defScope (top 20)) := ⟨rfl, rfl, rfl, nd_is_tree, rfl, by decide +kernel, by decide +kernel⟩
noncomputable def p_is_tree : M Fl :=
  (seqM (exprO (callM g_check_signature 1 (consM (getD 0) nilM)))
  (retO (callM g_raw_is_tree 2 (consM (getD 0) (consM (getD 1) nilM)))))
noncomputable def g_is_tree : Fn := runM p_is_tree 2
theorem D_is_tree (Γ : Facts P w K mg base) (D_check_signature : DefG P w K mg base (TT K) "check_signature" 4 [] 1 g_check_signature) (D_raw_is_tree : DefG P w K mg base (TT K) "raw_is_tree" 2 [] 2 g_raw_is_tree) : DefG P w K mg base (TT K) "is_tree" 5 [] 2 g_is_tree := by
  obtain ⟨fd, F, hm⟩ := Γ.f_is_tree
  exact DefG.mk' F s_is_tree hm (fun _ _ _ _ _ _ us hl => match us, hl with | [u0, u1], _ => rfl) rfl rfl fun cdv A outer s H E hr tk =>
  (ess_cons (zExprO (eo_call (D_check_signature.on hr (by decide) rfl (by decide)) tk (zCons (zN (pv 0)) zNil rfl) rfl rfl) rfl)
  (ess_one (zRet (eo_call (D_raw_is_tree.on hr (by decide) rfl (by decide)) tk (zCons (zN (pv 0)) (zCons (zN (pv 1)) zNil rfl) rfl) rfl rfl))))
/-! ### check_tree -/
abbrev N_check_tree : List Str := ["signature", "tree"]
abbrev P_check_tree : List Str := ["signature", "tree"]
theorem nd_check_tree : N_check_tree.Nodup := by decide +kernel
theorem s_check_tree : FnScope N_check_tree P_check_tree (defScope (top 21)) := ⟨rfl, rfl, rfl, nd_check_tree, rfl, by decide +kernel, by decide +kernel⟩
noncomputable def p_check_tree : M Fl :=
  (iteM (notT (truT (toD (callM g_raw_is_tree 2 (consM (getD 0) (consM (getD 1) nilM)))))) (raiseM "NoTree") nxM)
noncomputable def g_check_tree : Fn := runM p_check_tree 2
theorem D_check_tree (Γ : Facts P w K mg base) (D_raw_is_tree : DefG P w K mg base (TT K) "raw_is_tree" 2 [] 2 g_raw_is_tree) : DefG P w K mg base (TT K) "check_tree" 4 [] 2 g_check_tree := by
  obtain ⟨fd, F, hm⟩ := Γ.f_check_tree
  exact DefG.mk' F s_check_tree hm (fun _ _ _ _ _ _ us hl => match us, hl with | [u0, u1], _ => rfl) rfl rfl fun cdv A outer s H E hr tk =>
  (ess_one (es_if (zNotT (zTru (zO (eo_call (D_raw_is_tree.on hr (by decide) rfl (by decide)) tk (zCons (zN (pv 0)) (zCons (zN (pv 1)) zNil rfl) rfl) rfl rfl)) (fun _ => rfl))) (ess_one (es_raise rfl tk (x_NoTree Γ rfl hr (by omega)))) ess_nil))
/-! ### check_both -/
abbrev N_check_both : List Str := ["signature", "tree"]
abbrev P_check_both : List Str := ["signature", "tree"]
theorem nd_check_both : N_check_both.Nodup := by decide +kernel
theorem s_check_both : FnScope N_check_both P_check_both (defScope (top 22)) := ⟨rfl, rfl, rfl, nd_check_both, rfl, by decide +kernel, by decide +kernel⟩
noncomputable def p_check_both : M Fl :=
  (seqM (exprO (callM g_check_signature 1 (consM (getD 0) nilM)))
  (exprO (callM g_check_tree 2 (consM (getD 0) (consM (getD 1) nilM)))))
noncomputable def g_check_both : Fn := runM p_check_both 2
theorem D_check_both (Γ : Facts P w K mg base) (D_check_signature : DefG P w K mg base (TT K) "check_signature" 4 [] 1 g_check_signature) (D_check_tree : DefG P w K mg base (TT K) "check_tree" 4 [] 2 g_check_tree) : DefG P w K mg base (TT K) "check_both" 5 [] 2 g_check_both := by
  obtain ⟨fd, F, hm⟩ := Γ.f_check_both
  exact DefG.mk' F s_check_both hm (fun _ _ _ _ _ _ us hl => match us, hl with | [u0, u1], _ => rfl) rfl rfl fun cdv A outer s H E hr tk =>
  (ess_cons (zExprO (eo_call (D_check_signature.on hr (by decide) rfl (by decide)) tk (zCons (zN (pv 0)) zNil rfl) rfl rfl) rfl)
  (ess_one (zExprO (eo_call (D_check_tree.on hr (by decide) rfl (by decide)) tk (zCons (zN (pv 0)) (zCons (zN (pv 1)) zNil rfl) rfl) rfl rfl) rfl)))
/-! ### raw_nodes -/
abbrev N_raw_nodes : List Str := ["tree", "found", "waiting", "here"]
abbrev P_raw_nodes : List Str := ["tree"]
theorem nd_raw_nodes : N_raw_nodes.Nodup := by decide +kernel
theorem s_raw_nodes : FnScope N_raw_nodes P_raw_nodes (defScope (top 23)) := ⟨rfl, rfl, rfl, nd_raw_nodes, rfl, by decide +kernel, by decide +kernel⟩
noncomputable def p_raw_nodes : M Fl :=
  (seqM (parM [1, 2] (consO (lstM nilM) (consO (lstM (consM (getD 0) nilM)) nilO)))
  (seqM (whileU (cmpT gtB (lenN 2) (cD (.int 0))) (seqM (setD 3 (popM 2))
  (seqM (exprD (appM 1 (consM (getD 3) nilM)))
  (exprD (extM 2 (consM (toD (revM (subN 3 (cD (.int 1))))) nilM))))))
  (retV 1)))
noncomputable def g_raw_nodes : Fn := runM p_raw_nodes 4
theorem D_raw_nodes (Γ : Facts P w K mg base) : DefG P w K mg base (TT K) "raw_nodes" 1 [] 1 g_raw_nodes := by
  obtain ⟨fd, F, hm⟩ := Γ.f_raw_nodes
  exact DefG.mk' F s_raw_nodes hm (fun _ _ _ _ _ _ us hl => match us, hl with | [u0], _ => rfl) rfl rfl fun cdv A outer s H E hr tk =>
  (ess_cons (es_par (by decide) rfl nd_raw_nodes rfl rfl (by decide) rfl rfl (eao_cons (zLst zNil) (eao_cons (zLst (zCons (zN (pv 0)) zNil rfl)) zNilO rfl) rfl) rfl rfl)
  (ess_cons (es_while (passes_of rfl) (zCmpT op_gt opv_cmpI (ev_lenN (b_len rfl Γ.n_len) (pv 2)) zInt rfl) (ess_cons (zSetD (ev_pop (pv 2) rfl rfl) (by decide) nd_raw_nodes rfl (by first | exact Or.inl rfl | exact Or.inr rfl) rfl (by first | exact Or.inr rfl | exact Or.inl rfl))
  (ess_cons (zExprD (ev_append (pv 1) (zCons (zN (pv 3)) zNil rfl) rfl rfl rfl rfl rfl) rfl)
  (ess_one (zExprD (ev_extend (pv 2) (zCons (zO (zRev (ev_subN (hu1 hr) (pv 3) zInt (fun _ _ => rfl)))) zNil rfl) rfl rfl rfl rfl rfl) rfl)))))
  (ess_one (zRetV (pv 1)))))
/-! ### raw_nodes_many -/
abbrev N_raw_nodes_many : List Str := ["tree", "many", "waiting"]
abbrev P_raw_nodes_many : List Str := ["tree"]
theorem nd_raw_nodes_many : N_raw_nodes_many.Nodup := by decide +kernel
theorem s_raw_nodes_many : FnScope N_raw_nodes_many P_raw_nodes_many (defScope (top 24)) := ⟨rfl, rfl, rfl, nd_raw_nodes_many, rfl, by decide +kernel, by decide +kernel⟩
noncomputable def p_raw_nodes_many : M Fl :=
  (seqM (parM [1, 2] (consO (toO (cD (.int 0))) (consO (lstM (consM (getD 0) nilM)) nilO)))
  (seqM (whileU (cmpT gtB (lenN 2) (cD (.int 0))) (seqM (augM (fun i j => i + j) 1 (cD (.int 1)))
  (exprD (extM 2 (consM (subM (popM 2) (cD (.int 1))) nilM)))))
  (retV 1)))
noncomputable def g_raw_nodes_many : Fn := runM p_raw_nodes_many 3
theorem D_raw_nodes_many (Γ : Facts P w K mg base) : DefG P w K mg base (TT K) "raw_nodes_many" 1 [] 1 g_raw_nodes_many := by
  obtain ⟨fd, F, hm⟩ := Γ.f_raw_nodes_many
  exact DefG.mk' F s_raw_nodes_many hm (fun _ _ _ _ _ _ us hl => match us, hl with | [u0], _ => rfl) rfl rfl fun cdv A outer s H E hr tk =>
  (ess_cons (es_par (by decide) rfl nd_raw_nodes_many rfl rfl (by decide) rfl rfl (eao_cons (zD zInt) (eao_cons (zLst (zCons (zN (pv 0)) zNil rfl)) zNilO rfl) rfl) rfl rfl)
  (ess_cons (es_while (passes_of rfl) (zCmpT op_gt opv_cmpI (ev_lenN (b_len rfl Γ.n_len) (pv 2)) zInt rfl) (ess_cons (es_aug (by decide) nd_raw_nodes_many rfl (by first | exact Or.inl rfl | exact Or.inr rfl) zInt ip_add (by first | exact Or.inr rfl | exact Or.inl rfl) (fun _ h => ps_aug nd_raw_nodes_many rfl (by first | exact Or.inl rfl | exact Or.inr rfl) h ip_add (by first | exact Or.inr rfl | exact Or.inl rfl)))
  (ess_one (zExprD (ev_extend (pv 2) (zCons (zSub (hu1 hr) (ev_pop (pv 2) rfl rfl) zInt (fun _ _ => rfl)) zNil rfl) rfl rfl rfl rfl rfl) rfl))))
  (ess_one (zRetV (pv 1)))))
/-! ### order_key -/
abbrev N_order_key : List Str := ["tree"]
abbrev P_order_key : List Str := ["tree"]
theorem nd_order_key : N_order_key.Nodup := by decide +kernel
theorem s_order_key : FnScope N_order_key P_order_key (defScope (top 25)) := ⟨rfl, rfl, rfl, nd_order_key, rfl, by decide +kernel, by decide +kernel⟩
noncomputable def p_order_key : M Fl :=
  (retD (tupM (consM (toD (callM g_raw_nodes_many 1 (consM (getD 0) nilM))) (consM (getD 0) nilM))))
noncomputable def g_order_key : Fn := runM p_order_key 1
theorem D_order_key (Γ : Facts P w K mg base) (D_raw_nodes_many : DefG P w K mg base (TT K) "raw_nodes_many" 1 [] 1 g_raw_nodes_many) : DefG P w K mg base (TT K) "order_key" 2 [] 1 g_order_key := by
  obtain ⟨fd, F, hm⟩ := Γ.f_order_key
  exact DefG.mk' F s_order_key hm (fun _ _ _ _ _ _ us hl => match us, hl with | [u0], _ => rfl) rfl rfl fun cdv A outer s H E hr tk =>
  (ess_one (zRetD (zTup (zCons (zO (eo_call (D_raw_nodes_many.on hr (by decide) rfl (by decide)) tk (zCons (zN (pv 0)) zNil rfl) rfl rfl)) (zCons (zN (pv 0)) zNil rfl) rfl))))
/-! ### least_of -/
abbrev N_least_of : List Str := ["signature", "trees", "tree"]
abbrev P_least_of : List Str := ["signature", "trees"]
theorem nd_least_of : N_least_of.Nodup := by decide +kernel
theorem s_least_of : FnScope N_least_of P_least_of (defScope (top 26)) := ⟨rfl, rfl, rfl, nd_least_of, rfl, by decide +kernel, by decide +kernel⟩
theorem k_least_of_0 : BlkOk N_least_of (defScope (top 26)) ⟨.function, [(".0", .local), ("tree", .local), ("order_key", .globalImplicit)], false, false, []⟩ [("tree", 2)] := ⟨rfl, by decide +kernel, by decide +kernel, by decide +kernel, by decide +kernel⟩
noncomputable def p_least_of : M Fl :=
  (seqM (exprO (callM g_check_signature 1 (consM (getD 0) nilM)))
  (seqM (iteM (orM (notT (truT (isM "tuple" (getD 1)))) (cmpT eqB (lenN 1) (cD (.int 0)))) (raiseM "NoTree") nxM)
  (seqM (forM' (gNm 2) (seqI (getD 1)) (exprO (callM g_check_tree 2 (consM (getD 0) (consM (getD 2) nilM)))))
  (retD (subM (fnD minG (consM (toD (lcM [2] (seqI (getD 1)) (gNm 2) trueM (toD (callM g_order_key 1 (consM (getD 2) nilM))))) nilM)) (cD (.int 1)))))))
noncomputable def g_least_of : Fn := runM p_least_of 3
theorem D_least_of (Γ : Facts P w K mg base) (D_check_signature : DefG P w K mg base (TT K) "check_signature" 4 [] 1 g_check_signature) (D_check_tree : DefG P w K mg base (TT K) "check_tree" 4 [] 2 g_check_tree) (D_order_key : DefG P w K mg base (TT K) "order_key" 2 [] 1 g_order_key) : DefG P w K mg base (TT K) "least_of" 5 [] 2 g_least_of := by
  obtain ⟨fd, F, hm⟩ := Γ.f_least_of
  exact DefG.mk' F s_least_of hm (fun _ _ _ _ _ _ us hl => match us, hl with | [u0, u1], _ => rfl) rfl rfl fun cdv A outer s H E hr tk =>
  (ess_cons (zExprO (eo_call (D_check_signature.on hr (by decide) rfl (by decide)) tk (zCons (zN (pv 0)) zNil rfl) rfl rfl) rfl)
  (ess_cons (es_if (EvW.t (et_or (zNotT (zTru (zIs (b_isinstance rfl Γ.n_isinstance) (b_tuple rfl Γ.n_tuple) kit_tuple (zN (pv 1)) rfl) (fun _ => rfl))) (et_or1 (zCmpT (op_eqD (hu64 hr)) opv_eq (ev_lenN (b_len rfl Γ.n_len) (pv 1)) zInt rfl)))) (ess_one (es_raise rfl tk (x_NoTree Γ rfl hr (by omega)))) ess_nil)
  (ess_cons (zFor (zSeq (zN (pv 1))) (eg_name nd_least_of rfl (by first | exact Or.inl rfl | exact Or.inr rfl) (by first | exact Or.inr rfl | exact Or.inl rfl)) (ess_one (zExprO (eo_call (D_check_tree.on hr (by decide) rfl (by decide)) tk (zCons (zN (pv 0)) (zCons (zN (pv 2)) zNil rfl) rfl) rfl rfl) rfl)) (passes_of rfl) rfl (by decide) (fun _ => rfl))
  (ess_one (zRetD (zSub (hu1 hr) (zFnD (b_min rfl Γ.n_min) (call_minZ rfl (hu64 hr)) cv_min (zCons (zO (eo_lc (own := [("tree", 2)]) rfl nd_least_of (zSeq (zN (pv 1))) k_least_of_0 (by decide) (fun _ _ _ _ _ => (eg_name nd_least_of rfl (by first | exact Or.inl rfl | exact Or.inr rfl) (by first | exact Or.inr rfl | exact Or.inl rfl))) (fun _ _ _ _ _ => ets_nil) (fun _ _ _ _ _ => (zO (eo_call (D_order_key.on hr (by decide) rfl (by decide)) LamX.takes0 (zCons (zN (pv 2)) zNil rfl) rfl rfl))) (fun _ => rfl))) zNil rfl) rfl rfl) zInt (fun _ _ => rfl)))))))
/-! ### is_rule -/
abbrev N_is_rule : List Str := ["ranks", "many", "thing", "kind"]
abbrev P_is_rule : List Str := ["ranks", "many", "thing"]
theorem nd_is_rule : N_is_rule.Nodup := by decide +kernel
theorem s_is_rule : FnScope N_is_rule P_is_rule (defScope (top 30)) := ⟨rfl, rfl, rfl, nd_is_rule, rfl, by decide +kernel, by decide +kernel⟩
theorem k_is_rule_0 : BlkOk N_is_rule (defScope (top 30)) ⟨.function, [(".0", .local), ("kind", .local), ("is_within", .globalImplicit), ("many", .free)], false, false, []⟩ [("kind", 3)] := ⟨rfl, by decide +kernel, by decide +kernel, by decide +kernel, by decide +kernel⟩
noncomputable def p_is_rule : M Fl :=
  (seqM (iteM (orM (notT (truT (toD (callM g_is_sized 3 (consM (getD 2) (consM (cD (.int 3)) (consM (cD (.int 3)) nilM))))))) (orM (notT (truT (toD (callM g_is_within 3 (consM (subN 2 (cD (.int 0))) (consM (cD (.int 0)) (consM (toD (bin subO (getD 1) (cD (.int 1)))) nilM))))))) (notT (truT (toD (callM g_is_name 1 (consM (subN 2 (cD (.int 1))) nilM))))))) (retD (cD (.bool false))) nxM)
  (seqM (iteM (orM (notinN 0 (subN 2 (cD (.int 1)))) (notT (truT (toD (callM g_is_sized 3 (consM (subN 2 (cD (.int 2))) (consM (subN 0 (subN 2 (cD (.int 1)))) (consM (subN 0 (subN 2 (cD (.int 1)))) nilM)))))))) (retD (cD (.bool false))) nxM)
  (retD (fnD allG (consM (toD (lcM [3] (seqI (subN 2 (cD (.int 2)))) (gNm 3) trueM (toD (callM g_is_within 3 (consM (getD 3) (consM (cD (.int 0)) (consM (toD (bin subO (getD 1) (cD (.int 1)))) nilM))))))) nilM)))))
noncomputable def g_is_rule : Fn := runM p_is_rule 4
theorem D_is_rule (Γ : Facts P w K mg base) (D_is_name : DefG P w K mg base (TT K) "is_name" 1 [] 1 g_is_name) (D_is_sized : DefG P w K mg base (TT K) "is_sized" 1 [] 3 g_is_sized) (D_is_within : DefG P w K mg base (TT K) "is_within" 2 [] 3 g_is_within) : DefG P w K mg base (TT K) "is_rule" 3 [] 3 g_is_rule := by
  obtain ⟨fd, F, hm⟩ := Γ.f_is_rule
  exact DefG.mk' F s_is_rule hm (fun _ _ _ _ _ _ us hl => match us, hl with | [u0, u1, u2], _ => rfl) rfl rfl fun cdv A outer s H E hr tk =>
  (ess_cons (es_if (EvW.t (et_or (zNotT (zTru (zO (eo_call (D_is_sized.on hr (by decide) rfl (by decide)) tk (zCons (zN (pv 2)) (zCons zInt (zCons zInt zNil rfl) rfl) rfl) rfl rfl)) (fun _ => rfl))) (et_or (zNotT (zTru (zO (eo_call (D_is_within.on hr (by decide) rfl (by decide)) tk (zCons (ev_subN (hu1 hr) (pv 2) zInt (fun _ _ => rfl)) (zCons zInt (zCons (zO (zBin op_sub opv_sub (zN (pv 1)) zInt)) zNil rfl) rfl) rfl) rfl rfl)) (fun _ => rfl))) (et_or1 (zNotT (zTru (zO (eo_call (D_is_name.on hr (by decide) rfl (by decide)) tk (zCons (ev_subN (hu1 hr) (pv 2) zInt (fun _ _ => rfl)) zNil rfl) rfl rfl)) (fun _ => rfl))))))) (ess_one (zRetD zBl)) ess_nil)
  (ess_cons (es_if (EvW.t (et_or (et_notinN (hu1 hr) (ev_subN (hu1 hr) (pv 2) zInt (fun _ _ => rfl)) (pv 0) rfl) (et_or1 (zNotT (zTru (zO (eo_call (D_is_sized.on hr (by decide) rfl (by decide)) tk (zCons (ev_subN (hu1 hr) (pv 2) zInt (fun _ _ => rfl)) (zCons (ev_subN (hu1 hr) (pv 0) (ev_subN (hu1 hr) (pv 2) zInt (fun _ _ => rfl)) (fun _ _ => rfl)) (zCons (ev_subN (hu1 hr) (pv 0) (ev_subN (hu1 hr) (pv 2) zInt (fun _ _ => rfl)) (fun _ _ => rfl)) zNil rfl) rfl) rfl) rfl rfl)) (fun _ => rfl)))))) (ess_one (zRetD zBl)) ess_nil)
  (ess_one (zRetD (zFnD (b_all rfl Γ.n_all) (cr_all rfl) cv_all (zCons (zO (eo_lc (own := [("kind", 3)]) rfl nd_is_rule (zSeq (ev_subN (hu1 hr) (pv 2) zInt (fun _ _ => rfl))) k_is_rule_0 (by decide) (fun _ _ _ _ _ => (eg_name nd_is_rule rfl (by first | exact Or.inl rfl | exact Or.inr rfl) (by first | exact Or.inr rfl | exact Or.inl rfl))) (fun _ _ _ _ _ => ets_nil) (fun _ _ _ _ _ => (zO (eo_call (D_is_within.on hr (by decide) rfl (by decide)) LamX.takes0 (zCons (zN (pv 3)) (zCons zInt (zCons (zO (zBin op_sub opv_sub (zN (pv 1)) zInt)) zNil rfl) rfl) rfl) rfl rfl))) (fun _ => rfl))) zNil rfl) rfl rfl)))))
/-! ### is_book -/
abbrev N_is_book : List Str := ["thing", "ranks", "rule"]
abbrev P_is_book : List Str := ["thing"]
theorem nd_is_book : N_is_book.Nodup := by decide +kernel
theorem s_is_book : FnScope N_is_book P_is_book (defScope (top 31)) := ⟨rfl, rfl, rfl, nd_is_book, rfl, by decide +kernel, by decide +kernel⟩
theorem k_is_book_0 : BlkOk N_is_book (defScope (top 31)) ⟨.function, [(".0", .local), ("rule", .local), ("is_rule", .globalImplicit), ("ranks", .free), ("thing", .free)], false, false, []⟩ [("rule", 2)] := ⟨rfl, by decide +kernel, by decide +kernel, by decide +kernel, by decide +kernel⟩
noncomputable def p_is_book : M Fl :=
  (seqM (iteM (orM (notT (truT (toD (callM g_is_sized 3 (consM (getD 0) (consM (cD (.int 3)) (consM (cD (.int 3)) nilM))))))) (orM (notT (truT (toD (callM g_is_signature 1 (consM (subN 0 (cD (.int 0))) nilM))))) (notT (truT (toD (callM g_is_within 3 (consM (subN 0 (cD (.int 1))) (consM (cD (.int 1)) (consM (cD (.int 200)) nilM))))))))) (retD (cD (.bool false))) nxM)
  (seqM (setO 1 (fnO dictG (consM (subN 0 (cD (.int 0))) nilM)))
  (seqM (iteM (orM (notT (truT (toD (callM g_is_sized 3 (consM (subN 0 (cD (.int 2))) (consM (cD (.int 0)) (consM (cD (.int 2000)) nilM))))))) (notT (truT (fnD allG (consM (toD (lcM [2] (seqI (subN 0 (cD (.int 2)))) (gNm 2) trueM (toD (callM g_is_rule 3 (consM (getD 1) (consM (subN 0 (cD (.int 1))) (consM (getD 2) nilM))))))) nilM))))) (retD (cD (.bool false))) nxM)
  (retO (callM g_are_rising 1 (consM (subN 0 (cD (.int 2))) nilM))))))
noncomputable def g_is_book : Fn := runM p_is_book 3
theorem D_is_book (Γ : Facts P w K mg base) (D_are_rising : DefG P w K mg base (TT K) "are_rising" 1 [] 1 g_are_rising) (D_is_rule : DefG P w K mg base (TT K) "is_rule" 3 [] 3 g_is_rule) (D_is_signature : DefG P w K mg base (TT K) "is_signature" 3 [] 1 g_is_signature) (D_is_sized : DefG P w K mg base (TT K) "is_sized" 1 [] 3 g_is_sized) (D_is_within : DefG P w K mg base (TT K) "is_within" 2 [] 3 g_is_within) : DefG P w K mg base (TT K) "is_book" 4 [] 1 g_is_book := by
  obtain ⟨fd, F, hm⟩ := Γ.f_is_book
  exact DefG.mk' F s_is_book hm (fun _ _ _ _ _ _ us hl => match us, hl with | [u0], _ => rfl) rfl rfl fun cdv A outer s H E hr tk =>
  (ess_cons (es_if (EvW.t (et_or (zNotT (zTru (zO (eo_call (D_is_sized.on hr (by decide) rfl (by decide)) tk (zCons (zN (pv 0)) (zCons zInt (zCons zInt zNil rfl) rfl) rfl) rfl rfl)) (fun _ => rfl))) (et_or (zNotT (zTru (zO (eo_call (D_is_signature.on hr (by decide) rfl (by decide)) tk (zCons (ev_subN (hu1 hr) (pv 0) zInt (fun _ _ => rfl)) zNil rfl) rfl rfl)) (fun _ => rfl))) (et_or1 (zNotT (zTru (zO (eo_call (D_is_within.on hr (by decide) rfl (by decide)) tk (zCons (ev_subN (hu1 hr) (pv 0) zInt (fun _ _ => rfl)) (zCons zInt (zCons (zGInt rfl Γ.c_MOST_KINDS (by decide)) zNil rfl) rfl) rfl) rfl rfl)) (fun _ => rfl))))))) (ess_one (zRetD zBl)) ess_nil)
  (ess_cons (zSet (zTyO (b_dict rfl Γ.n_dict) (call_dictA rfl) cv_dict (zCons (ev_subN (hu1 hr) (pv 0) zInt (fun _ _ => rfl)) zNil rfl) rfl rfl) (by decide) nd_is_book rfl (by first | exact Or.inl rfl | exact Or.inr rfl) rfl (by first | exact Or.inr rfl | exact Or.inl rfl))
  (ess_cons (es_if (EvW.t (et_or (zNotT (zTru (zO (eo_call (D_is_sized.on hr (by decide) rfl (by decide)) tk (zCons (ev_subN (hu1 hr) (pv 0) zInt (fun _ _ => rfl)) (zCons zInt (zCons (zGInt rfl Γ.c_MOST_RULES (by decide)) zNil rfl) rfl) rfl) rfl rfl)) (fun _ => rfl))) (et_or1 (zNotT (zTru (zFnD (b_all rfl Γ.n_all) (cr_all rfl) cv_all (zCons (zO (eo_lc (own := [("rule", 2)]) rfl nd_is_book (zSeq (ev_subN (hu1 hr) (pv 0) zInt (fun _ _ => rfl))) k_is_book_0 (by decide) (fun _ _ _ _ _ => (eg_name nd_is_book rfl (by first | exact Or.inl rfl | exact Or.inr rfl) (by first | exact Or.inr rfl | exact Or.inl rfl))) (fun _ _ _ _ _ => ets_nil) (fun _ _ _ _ _ => (zO (eo_call (D_is_rule.on hr (by decide) rfl (by decide)) LamX.takes0 (zCons (zN (pv 1)) (zCons (ev_subN (hu1 hr) (pv 0) zInt (fun _ _ => rfl)) (zCons (zN (pv 2)) zNil rfl) rfl) rfl) rfl rfl))) (fun _ => rfl))) zNil rfl) rfl rfl) (fun _ => rfl)))))) (ess_one (zRetD zBl)) ess_nil)
  (ess_one (zRet (eo_call (D_are_rising.on hr (by decide) rfl (by decide)) tk (zCons (ev_subN (hu1 hr) (pv 0) zInt (fun _ _ => rfl)) zNil rfl) rfl rfl))))))
/-! ### check_book -/
abbrev N_check_book : List Str := ["thing"]
abbrev P_check_book : List Str := ["thing"]
theorem nd_check_book : N_check_book.Nodup := by decide +kernel
theorem s_check_book : FnScope N_check_book P_check_book (defScope (top 32)) := ⟨rfl, rfl, rfl, nd_check_book, rfl, by decide +kernel, by decide +kernel⟩
noncomputable def p_check_book : M Fl :=
  (iteM (notT (truT (toD (callM g_is_book 1 (consM (getD 0) nilM))))) (raiseM "NoBook") nxM)
noncomputable def g_check_book : Fn := runM p_check_book 1
theorem D_check_book (Γ : Facts P w K mg base) (D_is_book : DefG P w K mg base (TT K) "is_book" 4 [] 1 g_is_book) : DefG P w K mg base (TT K) "check_book" 5 [] 1 g_check_book := by
  obtain ⟨fd, F, hm⟩ := Γ.f_check_book
  exact DefG.mk' F s_check_book hm (fun _ _ _ _ _ _ us hl => match us, hl with | [u0], _ => rfl) rfl rfl fun cdv A outer s H E hr tk =>
  (ess_one (es_if (zNotT (zTru (zO (eo_call (D_is_book.on hr (by decide) rfl (by decide)) tk (zCons (zN (pv 0)) zNil rfl) rfl rfl)) (fun _ => rfl))) (ess_one (es_raise rfl tk (x_NoBook Γ rfl hr (by omega)))) ess_nil))
/-! ### check_kind -/
abbrev N_check_kind : List Str := ["book", "kind"]
abbrev P_check_kind : List Str := ["book", "kind"]
theorem nd_check_kind : N_check_kind.Nodup := by decide +kernel
theorem s_check_kind : FnScope N_check_kind P_check_kind (defScope (top 33)) := ⟨rfl, rfl, rfl, nd_check_kind, rfl, by decide +kernel, by decide +kernel⟩
noncomputable def p_check_kind : M Fl :=
  (iteM (notT (truT (toD (callM g_is_within 3 (consM (getD 1) (consM (cD (.int 0)) (consM (toD (bin subO (subN 0 (cD (.int 1))) (cD (.int 1)))) nilM))))))) (raiseM "NoKind") nxM)
noncomputable def g_check_kind : Fn := runM p_check_kind 2
theorem D_check_kind (Γ : Facts P w K mg base) (D_is_within : DefG P w K mg base (TT K) "is_within" 2 [] 3 g_is_within) : DefG P w K mg base (TT K) "check_kind" 4 [] 2 g_check_kind := by
  obtain ⟨fd, F, hm⟩ := Γ.f_check_kind
  exact DefG.mk' F s_check_kind hm (fun _ _ _ _ _ _ us hl => match us, hl with | [u0, u1], _ => rfl) rfl rfl fun cdv A outer s H E hr tk =>
  (ess_one (es_if (zNotT (zTru (zO (eo_call (D_is_within.on hr (by decide) rfl (by decide)) tk (zCons (zN (pv 1)) (zCons zInt (zCons (zO (zBin op_sub opv_sub (ev_subN (hu1 hr) (pv 0) zInt (fun _ _ => rfl)) zInt)) zNil rfl) rfl) rfl) rfl rfl)) (fun _ => rfl))) (ess_one (es_raise rfl tk (x_NoKind Γ rfl hr (by omega)))) ess_nil))
/-! ### rules_by_label -/
abbrev N_rules_by_label : List Str := ["book", "label", "found", "kind", "kinds", "rank"]
abbrev P_rules_by_label : List Str := ["book"]
theorem nd_rules_by_label : N_rules_by_label.Nodup := by decide +kernel
theorem s_rules_by_label : FnScope N_rules_by_label P_rules_by_label (defScope (top 34)) := ⟨rfl, rfl, rfl, nd_rules_by_label, rfl, by decide +kernel, by decide +kernel⟩
theorem k_rules_by_label_0 : BlkOk N_rules_by_label (defScope (top 34)) ⟨.function, [(".0", .local), ("label", .local), ("rank", .local)], false, false, []⟩ [("label", 1), ("rank", 5)] := ⟨rfl, by decide +kernel, by decide +kernel, by decide +kernel, by decide +kernel⟩
noncomputable def p_rules_by_label : M Fl :=
  (seqM (setO 2 (dcM [1, 5] (.dil []) (seqI (subN 0 (cD (.int 0)))) (gTp 2 (gsCons (gNm 1) (gsCons (gNm 5) gsNil))) trueM (getD 1) (lstM nilM)))
  (seqM (forM' (gTp 3 (gsCons (gNm 3) (gsCons (gNm 1) (gsCons (gNm 4) gsNil)))) (seqI (subN 0 (cD (.int 2)))) (exprD (dilApp 2 (getD 1) (tupM (consM (getD 3) (consM (getD 4) nilM))))))
  (retV 2)))
noncomputable def g_rules_by_label : Fn := runM p_rules_by_label 6
theorem D_rules_by_label (Γ : Facts P w K mg base) : DefG P w K mg base (TT K) "rules_by_label" 1 [] 1 g_rules_by_label := by
  obtain ⟨fd, F, hm⟩ := Γ.f_rules_by_label
  exact DefG.mk' F s_rules_by_label hm (fun _ _ _ _ _ _ us hl => match us, hl with | [u0], _ => rfl) rfl rfl fun cdv A outer s H E hr tk =>
  (ess_cons (es_setDc (own := [("label", 1), ("rank", 5)]) (by decide) rfl nd_rules_by_label rfl rfl rfl (zSeq (ev_subN (hu1 hr) (pv 0) zInt (fun _ _ => rfl))) k_rules_by_label_0 (by decide) (fun _ _ _ _ _ => (eg_tup rfl (egs_cons (eg_name nd_rules_by_label rfl (by first | exact Or.inl rfl | exact Or.inr rfl) (by first | exact Or.inr rfl | exact Or.inl rfl)) (egs_cons (eg_name nd_rules_by_label rfl (by first | exact Or.inl rfl | exact Or.inr rfl) (by first | exact Or.inr rfl | exact Or.inl rfl)) egs_nil rfl) rfl) (fun t ht => pg_tup rfl ht))) (fun _ _ _ _ _ => ets_nil) (fun _ _ _ _ _ => (zN (pv 1))) (fun _ _ _ _ _ => (zLst zNil)) (fun _ => rfl))
  (ess_cons (zFor (zSeq (ev_subN (hu1 hr) (pv 0) zInt (fun _ _ => rfl))) (eg_tup rfl (egs_cons (eg_name nd_rules_by_label rfl (by first | exact Or.inl rfl | exact Or.inr rfl) (by first | exact Or.inr rfl | exact Or.inl rfl)) (egs_cons (eg_name nd_rules_by_label rfl (by first | exact Or.inl rfl | exact Or.inr rfl) (by first | exact Or.inr rfl | exact Or.inl rfl)) (egs_cons (eg_name nd_rules_by_label rfl (by first | exact Or.inl rfl | exact Or.inr rfl) (by first | exact Or.inr rfl | exact Or.inl rfl)) egs_nil rfl) rfl) rfl) (fun t ht => pg_tup rfl ht)) (ess_one (zExprD (ev_dilApp (hu1 hr) (pv 2) (zN (pv 1)) (fun _ _ => rfl) (zTup (zCons (zN (pv 3)) (zCons (zN (pv 4)) zNil rfl) rfl)) rfl rfl rfl rfl) rfl)) (passes_of rfl) rfl (by decide) (fun _ => rfl))
  (ess_one (zRetV (pv 2)))))
/-! ### step_of -/
abbrev N_step_of : List Str := ["rules", "lots", "found", "kind", "kinds", "one", "lot"]
abbrev P_step_of : List Str := ["rules", "lots"]
theorem nd_step_of : N_step_of.Nodup := by decide +kernel
theorem s_step_of : FnScope N_step_of P_step_of (defScope (top 35)) := ⟨rfl, rfl, rfl, nd_step_of, rfl, by decide +kernel, by decide +kernel⟩
theorem k_step_of_0 : BlkOk N_step_of (defScope (top 35)) ⟨.function, [(".0", .local), ("one", .local), ("lot", .local)], false, false, []⟩ [("one", 5), ("lot", 6)] := ⟨rfl, by decide +kernel, by decide +kernel, by decide +kernel, by decide +kernel⟩
noncomputable def p_step_of : M Fl :=
  (seqM (setO 2 dicM)
  (seqM (forM' (gTp 2 (gsCons (gNm 3) (gsCons (gNm 4) gsNil))) (seqI (getD 0)) (iteM (truT (fnD allG (consM (toD (lcM [5, 6] (argI zipG (consM (getD 4) (consM (getD 1) nilM))) (gTp 2 (gsCons (gNm 5) (gsCons (gNm 6) gsNil))) trueM (cmpD inB (getD 5) (getD 6)))) nilM))) (stoM 2 (cD (.bool true)) (getD 3)) nxM))
  (retD (fnD tupG (consM (toD (fnO sortedG (consM (getD 2) nilM))) nilM)))))
noncomputable def g_step_of : Fn := runM p_step_of 7
theorem D_step_of (Γ : Facts P w K mg base) : DefG P w K mg base (TT K) "step_of" 1 [] 2 g_step_of := by
  obtain ⟨fd, F, hm⟩ := Γ.f_step_of
  exact DefG.mk' F s_step_of hm (fun _ _ _ _ _ _ us hl => match us, hl with | [u0, u1], _ => rfl) rfl rfl fun cdv A outer s H E hr tk =>
  (ess_cons (zSet zDic (by decide) nd_step_of rfl (by first | exact Or.inl rfl | exact Or.inr rfl) rfl (by first | exact Or.inr rfl | exact Or.inl rfl))
  (ess_cons (zFor (zSeq (zN (pv 0))) (eg_tup rfl (egs_cons (eg_name nd_step_of rfl (by first | exact Or.inl rfl | exact Or.inr rfl) (by first | exact Or.inr rfl | exact Or.inl rfl)) (egs_cons (eg_name nd_step_of rfl (by first | exact Or.inl rfl | exact Or.inr rfl) (by first | exact Or.inr rfl | exact Or.inl rfl)) egs_nil rfl) rfl) (fun t ht => pg_tup rfl ht)) (ess_one (es_if (zTru (zFnD (b_all rfl Γ.n_all) (cr_all rfl) cv_all (zCons (zO (eo_lc (own := [("one", 5), ("lot", 6)]) rfl nd_step_of (ei_zip rfl Γ.n_zip (zCons (zN (pv 4)) (zCons (zN (pv 1)) zNil rfl) rfl) rfl rfl) k_step_of_0 (by decide) (fun _ _ _ _ _ => (eg_tup rfl (egs_cons (eg_name nd_step_of rfl (by first | exact Or.inl rfl | exact Or.inr rfl) (by first | exact Or.inr rfl | exact Or.inl rfl)) (egs_cons (eg_name nd_step_of rfl (by first | exact Or.inl rfl | exact Or.inr rfl) (by first | exact Or.inr rfl | exact Or.inl rfl)) egs_nil rfl) rfl) (fun t ht => pg_tup rfl ht))) (fun _ _ _ _ _ => ets_nil) (fun _ _ _ _ _ => (zCmpD (op_inA (hu1 hr)) opv_in (zN (pv 5)) (zN (pv 6)) rfl)) (fun _ => rfl))) zNil rfl) rfl rfl) (fun _ => rfl)) (ess_one (es_sto (hu1 hr) zBl (pv 2) (zN (pv 3)) rfl rfl (pg_sub (pv 2) (EvD.pe (zN (pv 3))) (set_sto (hu1 hr))))) ess_nil)) (passes_of rfl) rfl (by decide) (fun _ => rfl))
  (ess_one (zRetD (zTyD (b_tuple rfl Γ.n_tuple) call_tupZ cv_tup (zCons (zO (zFnO (b_sorted rfl Γ.n_sorted) (call_sortA rfl (hu64 hr)) cv_sorted (zCons (zN (pv 2)) zNil rfl) rfl rfl)) zNil rfl) rfl rfl)))))
/-! ### lots_in -/
abbrev N_lots_in : List Str := ["book", "tree", "table", "nodes", "found", "behind", "at", "label", "parts", "lots", "part"]
abbrev P_lots_in : List Str := ["book", "tree"]
theorem nd_lots_in : N_lots_in.Nodup := by decide +kernel
theorem s_lots_in : FnScope N_lots_in P_lots_in (defScope (top 36)) := ⟨rfl, rfl, rfl, nd_lots_in, rfl, by decide +kernel, by decide +kernel⟩
theorem k_lots_in_0 : BlkOk N_lots_in (defScope (top 36)) ⟨.function, [(".0", .local), ("part", .local), ("behind", .free)], false, false, []⟩ [("part", 10)] := ⟨rfl, by decide +kernel, by decide +kernel, by decide +kernel, by decide +kernel⟩
noncomputable def p_lots_in : M Fl :=
  (seqM (parM [2, 3] (consO (callM g_rules_by_label 1 (consM (getD 0) nilM)) (consO (callM g_raw_nodes 1 (consM (getD 1) nilM)) nilO)))
  (seqM (parM [4, 5] (consO (bin mulO (toD (lstM (consM (cD .none) nilM))) (lenN 3)) (consO (lstM nilM) nilO)))
  (seqM (forM' (gNm 6) (argI rng3 (consM (toD (bin subO (lenN 3) (cD (.int 1)))) (consM (negM (cD (.int 1))) (consM (negM (cD (.int 1))) nilM)))) (seqM (asgD (gTp 2 (gsCons (gNm 7) (gsCons (gNm 8) gsNil))) (subN 3 (getD 6)))
  (seqM (setO 9 (lcM [10] (seqI (getD 8)) (gNm 10) trueM (popM 5)))
  (seqM (stoM 4 (toD (callM g_step_of 2 (consM (subN 2 (getD 7)) (consM (getD 9) nilM)))) (getD 6))
  (exprD (appM 5 (consM (subN 4 (getD 6)) nilM)))))))
  (retV 4))))
noncomputable def g_lots_in : Fn := runM p_lots_in 11
theorem D_lots_in (Γ : Facts P w K mg base) (D_raw_nodes : DefG P w K mg base (TT K) "raw_nodes" 1 [] 1 g_raw_nodes) (D_rules_by_label : DefG P w K mg base (TT K) "rules_by_label" 1 [] 1 g_rules_by_label) (D_step_of : DefG P w K mg base (TT K) "step_of" 1 [] 2 g_step_of) : DefG P w K mg base (TT K) "lots_in" 2 [] 2 g_lots_in := by
  obtain ⟨fd, F, hm⟩ := Γ.f_lots_in
  exact DefG.mk' F s_lots_in hm (fun _ _ _ _ _ _ us hl => match us, hl with | [u0, u1], _ => rfl) rfl rfl fun cdv A outer s H E hr tk =>
  (ess_cons (es_par (by decide) rfl nd_lots_in rfl rfl (by decide) rfl rfl (eao_cons (eo_call (D_rules_by_label.on hr (by decide) rfl (by decide)) tk (zCons (zN (pv 0)) zNil rfl) rfl rfl) (eao_cons (eo_call (D_raw_nodes.on hr (by decide) rfl (by decide)) tk (zCons (zN (pv 1)) zNil rfl) rfl rfl) zNilO rfl) rfl) rfl rfl)
  (ess_cons (es_parC (by decide) (by decide) (ens_cons nd_lots_in rfl (by first | exact Or.inl rfl | exact Or.inr rfl) (by first | exact Or.inr rfl | exact Or.inl rfl) (ens_cons nd_lots_in rfl (by first | exact Or.inl rfl | exact Or.inr rfl) (by first | exact Or.inr rfl | exact Or.inl rfl) ens_nil rfl) rfl) (fun t ht => pg_tup rfl ht) (eao_cons (zBin opr_mul opv_mul (zO (zLst (zCons zNon zNil rfl))) (ev_lenN (b_len rfl Γ.n_len) (pv 3))) (eao_cons (zLst zNil) zNilO rfl) rfl) rfl rfl rfl)
  (ess_cons (zFor (ei_rng3 rfl Γ.n_range (zCons (zO (zBin op_sub opv_sub (ev_lenN (b_len rfl Γ.n_len) (pv 3)) zInt)) (zCons (zNeg zInt) (zCons (zNeg zInt) zNil rfl) rfl) rfl) rfl rfl) (eg_name nd_lots_in rfl (by first | exact Or.inl rfl | exact Or.inr rfl) (by first | exact Or.inr rfl | exact Or.inl rfl)) (ess_cons (zAsg (ev_subN (hu1 hr) (pv 3) (zN (pv 6)) (fun _ _ => rfl)) (eg_tup rfl (egs_cons (eg_name nd_lots_in rfl (by first | exact Or.inl rfl | exact Or.inr rfl) (by first | exact Or.inr rfl | exact Or.inl rfl)) (egs_cons (eg_name nd_lots_in rfl (by first | exact Or.inl rfl | exact Or.inr rfl) (by first | exact Or.inr rfl | exact Or.inl rfl)) egs_nil rfl) rfl) (fun t ht => pg_tup rfl ht)) (by decide) rfl rfl rfl)
  (ess_cons (es_setLc (own := [("part", 10)]) (by decide) rfl nd_lots_in rfl rfl rfl (zSeq (zN (pv 8))) k_lots_in_0 (by decide) (fun _ _ _ _ _ => (eg_name nd_lots_in rfl (by first | exact Or.inl rfl | exact Or.inr rfl) (by first | exact Or.inr rfl | exact Or.inl rfl))) (fun _ _ _ _ _ => ets_nil) (fun _ _ _ _ _ => (ev_pop (pv 5) rfl rfl)) (fun _ => rfl))
  (ess_cons (es_sto (hu1 hr) (zO (eo_call (D_step_of.on hr (by decide) rfl (by decide)) tk (zCons (ev_subN (hu1 hr) (pv 2) (zN (pv 7)) (fun _ _ => rfl)) (zCons (zN (pv 9)) zNil rfl) rfl) rfl rfl)) (pv 4) (zN (pv 6)) rfl rfl (pg_sub (pv 4) (EvD.pe (zN (pv 6))) (set_sto (hu1 hr))))
  (ess_one (zExprD (ev_append (pv 5) (zCons (ev_subN (hu1 hr) (pv 4) (zN (pv 6)) (fun _ _ => rfl)) zNil rfl) rfl rfl rfl rfl rfl) rfl))))) (passes_of rfl) rfl (by decide) (fun _ => rfl))
  (ess_one (zRetV (pv 4))))))
/-! ### raw_kinds_of -/
abbrev N_raw_kinds_of : List Str := ["book", "tree"]
abbrev P_raw_kinds_of : List Str := ["book", "tree"]
theorem nd_raw_kinds_of : N_raw_kinds_of.Nodup := by decide +kernel
theorem s_raw_kinds_of : FnScope N_raw_kinds_of P_raw_kinds_of (defScope (top 37)) := ⟨rfl, rfl, rfl, nd_raw_kinds_of, rfl, by decide +kernel, by decide +kernel⟩
noncomputable def p_raw_kinds_of : M Fl :=
  (retD (subM (toD (callM g_lots_in 2 (consM (getD 0) (consM (getD 1) nilM)))) (cD (.int 0))))
noncomputable def g_raw_kinds_of : Fn := runM p_raw_kinds_of 2
theorem D_raw_kinds_of (Γ : Facts P w K mg base) (D_lots_in : DefG P w K mg base (TT K) "lots_in" 2 [] 2 g_lots_in) : DefG P w K mg base (TT K) "raw_kinds_of" 3 [] 2 g_raw_kinds_of := by
  obtain ⟨fd, F, hm⟩ := Γ.f_raw_kinds_of
  exact DefG.mk' F s_raw_kinds_of hm (fun _ _ _ _ _ _ us hl => match us, hl with | [u0, u1], _ => rfl) rfl rfl fun cdv A outer s H E hr tk =>
  (ess_one (zRetD (zSub (hu1 hr) (zO (eo_call (D_lots_in.on hr (by decide) rfl (by decide)) tk (zCons (zN (pv 0)) (zCons (zN (pv 1)) zNil rfl) rfl) rfl rfl)) zInt (fun _ _ => rfl))))
/-! ### kinds_of -/
abbrev N_kinds_of : List Str := ["book", "tree"]
abbrev P_kinds_of : List Str := ["book", "tree"]
theorem nd_kinds_of : N_kinds_of.Nodup := by decide +kernel
theorem s_kinds_of : FnScope N_kinds_of P_kinds_of (defScope (top 38)) := ⟨rfl, rfl, rfl, nd_kinds_of, rfl, by decide +kernel, by decide +kernel⟩
noncomputable def p_kinds_of : M Fl :=
  (seqM (exprO (callM g_check_book 1 (consM (getD 0) nilM)))
  (seqM (exprO (callM g_check_tree 2 (consM (subN 0 (cD (.int 0))) (consM (getD 1) nilM))))
  (retO (callM g_raw_kinds_of 2 (consM (getD 0) (consM (getD 1) nilM))))))
noncomputable def g_kinds_of : Fn := runM p_kinds_of 2
theorem D_kinds_of (Γ : Facts P w K mg base) (D_check_book : DefG P w K mg base (TT K) "check_book" 5 [] 1 g_check_book) (D_check_tree : DefG P w K mg base (TT K) "check_tree" 4 [] 2 g_check_tree) (D_raw_kinds_of : DefG P w K mg base (TT K) "raw_kinds_of" 3 [] 2 g_raw_kinds_of) : DefG P w K mg base (TT K) "kinds_of" 6 [] 2 g_kinds_of := by
  obtain ⟨fd, F, hm⟩ := Γ.f_kinds_of
  exact DefG.mk' F s_kinds_of hm (fun _ _ _ _ _ _ us hl => match us, hl with | [u0, u1], _ => rfl) rfl rfl fun cdv A outer s H E hr tk =>
  (ess_cons (zExprO (eo_call (D_check_book.on hr (by decide) rfl (by decide)) tk (zCons (zN (pv 0)) zNil rfl) rfl rfl) rfl)
  (ess_cons (zExprO (eo_call (D_check_tree.on hr (by decide) rfl (by decide)) tk (zCons (ev_subN (hu1 hr) (pv 0) zInt (fun _ _ => rfl)) (zCons (zN (pv 1)) zNil rfl) rfl) rfl rfl) rfl)
  (ess_one (zRet (eo_call (D_raw_kinds_of.on hr (by decide) rfl (by decide)) tk (zCons (zN (pv 0)) (zCons (zN (pv 1)) zNil rfl) rfl) rfl rfl)))))
/-! ### check_kind_tree -/
abbrev N_check_kind_tree : List Str := ["book", "kind", "tree"]
abbrev P_check_kind_tree : List Str := ["book", "kind", "tree"]
theorem nd_check_kind_tree : N_check_kind_tree.Nodup := by decide +kernel
theorem s_check_kind_tree : FnScope N_check_kind_tree P_check_kind_tree (defScope (top 39)) := ⟨rfl, rfl, rfl, nd_check_kind_tree, rfl, by decide +kernel, by decide +kernel⟩
noncomputable def p_check_kind_tree : M Fl :=
  (seqM (exprO (callM g_check_book 1 (consM (getD 0) nilM)))
  (seqM (exprO (callM g_check_kind 2 (consM (getD 0) (consM (getD 1) nilM))))
  (exprO (callM g_check_tree 2 (consM (subN 0 (cD (.int 0))) (consM (getD 2) nilM))))))
noncomputable def g_check_kind_tree : Fn := runM p_check_kind_tree 3
theorem D_check_kind_tree (Γ : Facts P w K mg base) (D_check_book : DefG P w K mg base (TT K) "check_book" 5 [] 1 g_check_book) (D_check_kind : DefG P w K mg base (TT K) "check_kind" 4 [] 2 g_check_kind) (D_check_tree : DefG P w K mg base (TT K) "check_tree" 4 [] 2 g_check_tree) : DefG P w K mg base (TT K) "check_kind_tree" 6 [] 3 g_check_kind_tree := by
  obtain ⟨fd, F, hm⟩ := Γ.f_check_kind_tree
  exact DefG.mk' F s_check_kind_tree hm (fun _ _ _ _ _ _ us hl => match us, hl with | [u0, u1, u2], _ => rfl) rfl rfl fun cdv A outer s H E hr tk =>
  (ess_cons (zExprO (eo_call (D_check_book.on hr (by decide) rfl (by decide)) tk (zCons (zN (pv 0)) zNil rfl) rfl rfl) rfl)
  (ess_cons (zExprO (eo_call (D_check_kind.on hr (by decide) rfl (by decide)) tk (zCons (zN (pv 0)) (zCons (zN (pv 1)) zNil rfl) rfl) rfl rfl) rfl)
  (ess_one (zExprO (eo_call (D_check_tree.on hr (by decide) rfl (by decide)) tk (zCons (ev_subN (hu1 hr) (pv 0) zInt (fun _ _ => rfl)) (zCons (zN (pv 2)) zNil rfl) rfl) rfl rfl) rfl))))
/-! ### is_tree_of -/
abbrev N_is_tree_of : List Str := ["book", "kind", "thing"]
abbrev P_is_tree_of : List Str := ["book", "kind", "thing"]
theorem nd_is_tree_of : N_is_tree_of.Nodup := by decide +kernel
theorem s_is_tree_of : FnScope N_is_tree_of P_is_tree_of (defScope (top 41)) := ⟨rfl, rfl, rfl, nd_is_tree_of, rfl, by decide +kernel, by decide +kernel⟩
noncomputable def p_is_tree_of : M Fl :=
  (retD (andD (toD (callM g_raw_is_tree 2 (consM (subN 0 (cD (.int 0))) (consM (getD 2) nilM)))) (cmpD inB (getD 1) (toD (callM g_raw_kinds_of 2 (consM (getD 0) (consM (getD 2) nilM)))))))
noncomputable def g_is_tree_of : Fn := runM p_is_tree_of 3
theorem D_is_tree_of (Γ : Facts P w K mg base) (D_raw_is_tree : DefG P w K mg base (TT K) "raw_is_tree" 2 [] 2 g_raw_is_tree) (D_raw_kinds_of : DefG P w K mg base (TT K) "raw_kinds_of" 3 [] 2 g_raw_kinds_of) : DefG P w K mg base (TT K) "is_tree_of" 4 [] 3 g_is_tree_of := by
  obtain ⟨fd, F, hm⟩ := Γ.f_is_tree_of
  exact DefG.mk' F s_is_tree_of hm (fun _ _ _ _ _ _ us hl => match us, hl with | [u0, u1, u2], _ => rfl) rfl rfl fun cdv A outer s H E hr tk =>
  (ess_one (zRetD (ev_and (zO (eo_call (D_raw_is_tree.on hr (by decide) rfl (by decide)) tk (zCons (ev_subN (hu1 hr) (pv 0) zInt (fun _ _ => rfl)) (zCons (zN (pv 2)) zNil rfl) rfl) rfl rfl)) (ev_one (zCmpD (op_inA (hu1 hr)) opv_in (zN (pv 1)) (zO (eo_call (D_raw_kinds_of.on hr (by decide) rfl (by decide)) tk (zCons (zN (pv 0)) (zCons (zN (pv 2)) zNil rfl) rfl) rfl rfl)) rfl)))))
/-! ### is_of -/
abbrev N_is_of : List Str := ["book", "kind", "tree"]
abbrev P_is_of : List Str := ["book", "kind", "tree"]
theorem nd_is_of : N_is_of.Nodup := by decide +kernel
theorem s_is_of : FnScope N_is_of P_is_of (defScope (top 40)) := ⟨rfl, rfl, rfl, nd_is_of, rfl, by decide +kernel, by decide +kernel⟩
noncomputable def p_is_of : M Fl :=
  (seqM (exprO (callM g_check_book 1 (consM (getD 0) nilM)))
  (seqM (exprO (callM g_check_kind 2 (consM (getD 0) (consM (getD 1) nilM))))
  (retO (callM g_is_tree_of 3 (consM (getD 0) (consM (getD 1) (consM (getD 2) nilM)))))))
noncomputable def g_is_of : Fn := runM p_is_of 3
theorem D_is_of (Γ : Facts P w K mg base) (D_check_book : DefG P w K mg base (TT K) "check_book" 5 [] 1 g_check_book) (D_check_kind : DefG P w K mg base (TT K) "check_kind" 4 [] 2 g_check_kind) (D_is_tree_of : DefG P w K mg base (TT K) "is_tree_of" 4 [] 3 g_is_tree_of) : DefG P w K mg base (TT K) "is_of" 6 [] 3 g_is_of := by
  obtain ⟨fd, F, hm⟩ := Γ.f_is_of
  exact DefG.mk' F s_is_of hm (fun _ _ _ _ _ _ us hl => match us, hl with | [u0, u1, u2], _ => rfl) rfl rfl fun cdv A outer s H E hr tk =>
  (ess_cons (zExprO (eo_call (D_check_book.on hr (by decide) rfl (by decide)) tk (zCons (zN (pv 0)) zNil rfl) rfl rfl) rfl)
  (ess_cons (zExprO (eo_call (D_check_kind.on hr (by decide) rfl (by decide)) tk (zCons (zN (pv 0)) (zCons (zN (pv 1)) zNil rfl) rfl) rfl rfl) rfl)
  (ess_one (zRet (eo_call (D_is_tree_of.on hr (by decide) rfl (by decide)) tk (zCons (zN (pv 0)) (zCons (zN (pv 1)) (zCons (zN (pv 2)) zNil rfl) rfl) rfl) rfl rfl)))))
/-! ### raw_changes -/
abbrev N_raw_changes : List Str := ["one", "other", "many", "waiting", "here", "there"]
abbrev P_raw_changes : List Str := ["one", "other"]
theorem nd_raw_changes : N_raw_changes.Nodup := by decide +kernel
theorem s_raw_changes : FnScope N_raw_changes P_raw_changes (defScope (top 43)) := ⟨rfl, rfl, rfl, nd_raw_changes, rfl, by decide +kernel, by decide +kernel⟩
noncomputable def p_raw_changes : M Fl :=
  (seqM (parM [2, 3] (consO (toO (cD (.int 0))) (consO (lstM (consM (tupM (consM (getD 0) (consM (getD 1) nilM))) nilM)) nilO)))
  (seqM (whileU (cmpT gtB (lenN 3) (cD (.int 0))) (seqM (asgD (gTp 2 (gsCons (gNm 4) (gsCons (gNm 5) gsNil))) (popM 3))
  (seqM (iteM (cmpT neB (fnD lenG (consM (subN 4 (cD (.int 1))) nilM)) (fnD lenG (consM (subN 5 (cD (.int 1))) nilM))) (retD (cD .none)) nxM)
  (seqM (augM (fun i j => i + j) 2 (fnD intG (consM (cmpD neB (subN 4 (cD (.int 0))) (subN 5 (cD (.int 0)))) nilM)))
  (exprD (extM 3 (consM (toD (lzM (consM (subN 4 (cD (.int 1))) (consM (subN 5 (cD (.int 1))) nilM)))) nilM)))))))
  (retV 2)))
noncomputable def g_raw_changes : Fn := runM p_raw_changes 6
theorem D_raw_changes (Γ : Facts P w K mg base) : DefG P w K mg base (TT K) "raw_changes" 1 [] 2 g_raw_changes := by
  obtain ⟨fd, F, hm⟩ := Γ.f_raw_changes
  exact DefG.mk' F s_raw_changes hm (fun _ _ _ _ _ _ us hl => match us, hl with | [u0, u1], _ => rfl) rfl rfl fun cdv A outer s H E hr tk =>
  (ess_cons (es_par (by decide) rfl nd_raw_changes rfl rfl (by decide) rfl rfl (eao_cons (zD zInt) (eao_cons (zLst (zCons (zTup (zCons (zN (pv 0)) (zCons (zN (pv 1)) zNil rfl) rfl)) zNil rfl)) zNilO rfl) rfl) rfl rfl)
  (ess_cons (es_while (passes_of rfl) (zCmpT op_gt opv_cmpI (ev_lenN (b_len rfl Γ.n_len) (pv 3)) zInt rfl) (ess_cons (zAsg (ev_pop (pv 3) rfl rfl) (eg_tup rfl (egs_cons (eg_name nd_raw_changes rfl (by first | exact Or.inl rfl | exact Or.inr rfl) (by first | exact Or.inr rfl | exact Or.inl rfl)) (egs_cons (eg_name nd_raw_changes rfl (by first | exact Or.inl rfl | exact Or.inr rfl) (by first | exact Or.inr rfl | exact Or.inl rfl)) egs_nil rfl) rfl) (fun t ht => pg_tup rfl ht)) (by decide) rfl rfl rfl)
  (ess_cons (es_if (zCmpT (op_neD (hu64 hr)) opv_ne (zFnD (b_len rfl Γ.n_len) call_lenA cv_len (zCons (ev_subN (hu1 hr) (pv 4) zInt (fun _ _ => rfl)) zNil rfl) rfl rfl) (zFnD (b_len rfl Γ.n_len) call_lenA cv_len (zCons (ev_subN (hu1 hr) (pv 5) zInt (fun _ _ => rfl)) zNil rfl) rfl rfl) rfl) (ess_one (zRetD zNon)) ess_nil)
  (ess_cons (es_aug (by decide) nd_raw_changes rfl (by first | exact Or.inl rfl | exact Or.inr rfl) (zTyD (b_int rfl Γ.n_int) call_int1 cv_int (zCons (zCmpD (op_neD (hu64 hr)) opv_ne (ev_subN (hu1 hr) (pv 4) zInt (fun _ _ => rfl)) (ev_subN (hu1 hr) (pv 5) zInt (fun _ _ => rfl)) rfl) zNil rfl) rfl rfl) ip_add (by first | exact Or.inr rfl | exact Or.inl rfl) (fun _ h => ps_aug nd_raw_changes rfl (by first | exact Or.inl rfl | exact Or.inr rfl) h ip_add (by first | exact Or.inr rfl | exact Or.inl rfl)))
  (ess_one (zExprD (ev_extend (pv 3) (zCons (zO (eo_listZip rfl (b_list rfl Γ.n_list) (b_zip rfl Γ.n_zip) (zCons (ev_subN (hu1 hr) (pv 4) zInt (fun _ _ => rfl)) (zCons (ev_subN (hu1 hr) (pv 5) zInt (fun _ _ => rfl)) zNil rfl) rfl) rfl rfl rfl)) zNil rfl) rfl rfl rfl rfl rfl) rfl))))))
  (ess_one (zRetV (pv 2)))))
/-! ### changes_between -/
abbrev N_changes_between : List Str := ["signature", "one", "other"]
abbrev P_changes_between : List Str := ["signature", "one", "other"]
theorem nd_changes_between : N_changes_between.Nodup := by decide +kernel
theorem s_changes_between : FnScope N_changes_between P_changes_between (defScope (top 44)) := ⟨rfl, rfl, rfl, nd_changes_between, rfl, by decide +kernel, by decide +kernel⟩
noncomputable def p_changes_between : M Fl :=
  (seqM (exprO (callM g_check_both 2 (consM (getD 0) (consM (getD 1) nilM))))
  (seqM (exprO (callM g_check_tree 2 (consM (getD 0) (consM (getD 2) nilM))))
  (retO (callM g_raw_changes 2 (consM (getD 1) (consM (getD 2) nilM))))))
noncomputable def g_changes_between : Fn := runM p_changes_between 3
theorem D_changes_between (Γ : Facts P w K mg base) (D_check_both : DefG P w K mg base (TT K) "check_both" 5 [] 2 g_check_both) (D_check_tree : DefG P w K mg base (TT K) "check_tree" 4 [] 2 g_check_tree) (D_raw_changes : DefG P w K mg base (TT K) "raw_changes" 1 [] 2 g_raw_changes) : DefG P w K mg base (TT K) "changes_between" 6 [] 3 g_changes_between := by
  obtain ⟨fd, F, hm⟩ := Γ.f_changes_between
  exact DefG.mk' F s_changes_between hm (fun _ _ _ _ _ _ us hl => match us, hl with | [u0, u1, u2], _ => rfl) rfl rfl fun cdv A outer s H E hr tk =>
  (ess_cons (zExprO (eo_call (D_check_both.on hr (by decide) rfl (by decide)) tk (zCons (zN (pv 0)) (zCons (zN (pv 1)) zNil rfl) rfl) rfl rfl) rfl)
  (ess_cons (zExprO (eo_call (D_check_tree.on hr (by decide) rfl (by decide)) tk (zCons (zN (pv 0)) (zCons (zN (pv 2)) zNil rfl) rfl) rfl rfl) rfl)
  (ess_one (zRet (eo_call (D_raw_changes.on hr (by decide) rfl (by decide)) tk (zCons (zN (pv 1)) (zCons (zN (pv 2)) zNil rfl) rfl) rfl rfl)))))
/-! ### better_of -/
abbrev N_better_of : List Str := ["found", "kind", "told"]
abbrev P_better_of : List Str := ["found", "kind", "told"]
theorem nd_better_of : N_better_of.Nodup := by decide +kernel
theorem s_better_of : FnScope N_better_of P_better_of (defScope (top 45)) := ⟨rfl, rfl, rfl, nd_better_of, rfl, by decide +kernel, by decide +kernel⟩
noncomputable def p_better_of : M Fl :=
  (iteM (orM (notinN 0 (getD 1)) (cmpT ltB (getD 2) (subN 0 (getD 1)))) (stoM 0 (getD 2) (getD 1)) nxM)
noncomputable def g_better_of : Fn := runM p_better_of 3
theorem D_better_of (Γ : Facts P w K mg base) : DefG P w K mg base (TT K) "better_of" 1 [0] 3 g_better_of := by
  obtain ⟨fd, F, hm⟩ := Γ.f_better_of
  exact DefG.mk' F s_better_of hm (fun _ _ _ _ _ _ us hl => match us, hl with | [u0, u1, u2], _ => rfl) rfl rfl fun cdv A outer s H E hr tk =>
  (ess_one (es_if (EvW.t (et_or (et_notinN (hu1 hr) (zN (pv 1)) (pv 0) rfl) (et_or1 (zCmpT (op_ltD (hu64 hr)) opv_lt (zN (pv 2)) (ev_subN (hu1 hr) (pv 0) (zN (pv 1)) (fun _ _ => rfl)) rfl)))) (ess_one (es_sto (hu1 hr) (zN (pv 2)) (pv 0) (zN (pv 1)) rfl rfl (pg_sub (pv 0) (EvD.pe (zN (pv 1))) (set_sto (hu1 hr))))) ess_nil))
/-! ### mends_of -/
abbrev N_mends_of : List Str := ["book", "label", "some", "found", "kind", "its_label", "kinds", "parts", "many", "one", "told", "part"]
abbrev P_mends_of : List Str := ["book", "label", "some"]
theorem nd_mends_of : N_mends_of.Nodup := by decide +kernel
theorem s_mends_of : FnScope N_mends_of P_mends_of (defScope (top 46)) := ⟨rfl, rfl, rfl, nd_mends_of, rfl, by decide +kernel, by decide +kernel⟩
theorem k_mends_of_0 : BlkOk N_mends_of (defScope (top 46)) ⟨.function, [(".0", .local), ("one", .local), ("told", .local)], false, false, []⟩ [("one", 9), ("told", 10)] := ⟨rfl, by decide +kernel, by decide +kernel, by decide +kernel, by decide +kernel⟩
theorem k_mends_of_1 : BlkOk N_mends_of (defScope (top 46)) ⟨.function, [(".0", .local), ("one", .local), ("told", .local)], false, false, []⟩ [("one", 9), ("told", 10)] := ⟨rfl, by decide +kernel, by decide +kernel, by decide +kernel, by decide +kernel⟩
theorem k_mends_of_2 : BlkOk N_mends_of (defScope (top 46)) ⟨.function, [(".0", .local), ("part", .local)], false, false, []⟩ [("part", 11)] := ⟨rfl, by decide +kernel, by decide +kernel, by decide +kernel, by decide +kernel⟩
theorem k_mends_of_3 : BlkOk N_mends_of (defScope (top 46)) ⟨.function, [(".0", .local), ("part", .local)], false, false, []⟩ [("part", 11)] := ⟨rfl, by decide +kernel, by decide +kernel, by decide +kernel, by decide +kernel⟩
noncomputable def p_mends_of : M Fl :=
  (seqM (setO 3 dicM)
  (seqM (forM' (gTp 3 (gsCons (gNm 4) (gsCons (gNm 5) (gsCons (gNm 6) gsNil)))) (seqI (subN 0 (cD (.int 2)))) (iteM (andM (cmpT eqB (lenN 6) (lenN 2)) (truT (fnD allG (consM (toD (lcM [9, 10] (argI zipG (consM (getD 6) (consM (getD 2) nilM))) (gTp 2 (gsCons (gNm 9) (gsCons (gNm 10) gsNil))) trueM (cmpD inB (getD 9) (getD 10)))) nilM)))) (seqM (setO 7 (lcM [9, 10] (argI zipG (consM (getD 6) (consM (getD 2) nilM))) (gTp 2 (gsCons (gNm 9) (gsCons (gNm 10) gsNil))) trueM (subN 10 (getD 9))))
  (seqM (setD 8 (toD (bin addO (fnD intG (consM (cmpD neB (getD 5) (getD 1)) nilM)) (fnD sumG (consM (toD (lcM [11] (seqI (getD 7)) (gNm 11) trueM (subN 11 (cD (.int 0))))) nilM)))))
  (exprO (callN g_better_of 3 0 3 (lendM 3 (consM (getD 4) (consM (tupM (consM (getD 8) (consM (tupM (consM (getD 5) (consM (fnD tupG (consM (toD (lcM [11] (seqI (getD 7)) (gNm 11) trueM (subN 11 (cD (.int 1))))) nilM)) nilM))) nilM))) nilM))))))) nxM))
  (retV 3)))
noncomputable def g_mends_of : Fn := runM p_mends_of 12
theorem D_mends_of (Γ : Facts P w K mg base) (D_better_of : DefG P w K mg base (TT K) "better_of" 1 [0] 3 g_better_of) : DefG P w K mg base (TT K) "mends_of" 2 [] 3 g_mends_of := by
  obtain ⟨fd, F, hm⟩ := Γ.f_mends_of
  exact DefG.mk' F s_mends_of hm (fun _ _ _ _ _ _ us hl => match us, hl with | [u0, u1, u2], _ => rfl) rfl rfl fun cdv A outer s H E hr tk =>
  (ess_cons (zSet zDic (by decide) nd_mends_of rfl (by first | exact Or.inl rfl | exact Or.inr rfl) rfl (by first | exact Or.inr rfl | exact Or.inl rfl))
  (ess_cons (zFor (zSeq (ev_subN (hu1 hr) (pv 0) zInt (fun _ _ => rfl))) (eg_tup rfl (egs_cons (eg_name nd_mends_of rfl (by first | exact Or.inl rfl | exact Or.inr rfl) (by first | exact Or.inr rfl | exact Or.inl rfl)) (egs_cons (eg_name nd_mends_of rfl (by first | exact Or.inl rfl | exact Or.inr rfl) (by first | exact Or.inr rfl | exact Or.inl rfl)) (egs_cons (eg_name nd_mends_of rfl (by first | exact Or.inl rfl | exact Or.inr rfl) (by first | exact Or.inr rfl | exact Or.inl rfl)) egs_nil rfl) rfl) rfl) (fun t ht => pg_tup rfl ht)) (ess_one (es_if (EvW.t (et_and (zCmpT (op_eqD (hu64 hr)) opv_eq (ev_lenN (b_len rfl Γ.n_len) (pv 6)) (ev_lenN (b_len rfl Γ.n_len) (pv 2)) rfl) (et_and1 (zTru (zFnD (b_all rfl Γ.n_all) (cr_all rfl) cv_all (zCons (zO (eo_lc (own := [("one", 9), ("told", 10)]) rfl nd_mends_of (ei_zip rfl Γ.n_zip (zCons (zN (pv 6)) (zCons (zN (pv 2)) zNil rfl) rfl) rfl rfl) k_mends_of_0 (by decide) (fun _ _ _ _ _ => (eg_tup rfl (egs_cons (eg_name nd_mends_of rfl (by first | exact Or.inl rfl | exact Or.inr rfl) (by first | exact Or.inr rfl | exact Or.inl rfl)) (egs_cons (eg_name nd_mends_of rfl (by first | exact Or.inl rfl | exact Or.inr rfl) (by first | exact Or.inr rfl | exact Or.inl rfl)) egs_nil rfl) rfl) (fun t ht => pg_tup rfl ht))) (fun _ _ _ _ _ => ets_nil) (fun _ _ _ _ _ => (zCmpD (op_inA (hu1 hr)) opv_in (zN (pv 9)) (zN (pv 10)) rfl)) (fun _ => rfl))) zNil rfl) rfl rfl) (fun _ => rfl))))) (ess_cons (es_setLc (own := [("one", 9), ("told", 10)]) (by decide) rfl nd_mends_of rfl rfl rfl (ei_zip rfl Γ.n_zip (zCons (zN (pv 6)) (zCons (zN (pv 2)) zNil rfl) rfl) rfl rfl) k_mends_of_1 (by decide) (fun _ _ _ _ _ => (eg_tup rfl (egs_cons (eg_name nd_mends_of rfl (by first | exact Or.inl rfl | exact Or.inr rfl) (by first | exact Or.inr rfl | exact Or.inl rfl)) (egs_cons (eg_name nd_mends_of rfl (by first | exact Or.inl rfl | exact Or.inr rfl) (by first | exact Or.inr rfl | exact Or.inl rfl)) egs_nil rfl) rfl) (fun t ht => pg_tup rfl ht))) (fun _ _ _ _ _ => ets_nil) (fun _ _ _ _ _ => (ev_subN (hu1 hr) (pv 10) (zN (pv 9)) (fun _ _ => rfl))) (fun _ => rfl))
  (ess_cons (zSetD (zO (zBin opr_add opv_add (zTyD (b_int rfl Γ.n_int) call_int1 cv_int (zCons (zCmpD (op_neD (hu64 hr)) opv_ne (zN (pv 5)) (zN (pv 1)) rfl) zNil rfl) rfl rfl) (zFnD (b_sum rfl Γ.n_sum) (cr_sum rfl) cv_sum (zCons (zO (eo_lc (own := [("part", 11)]) rfl nd_mends_of (zSeq (zN (pv 7))) k_mends_of_2 (by decide) (fun _ _ _ _ _ => (eg_name nd_mends_of rfl (by first | exact Or.inl rfl | exact Or.inr rfl) (by first | exact Or.inr rfl | exact Or.inl rfl))) (fun _ _ _ _ _ => ets_nil) (fun _ _ _ _ _ => (ev_subN (hu1 hr) (pv 11) zInt (fun _ _ => rfl))) (fun _ => rfl))) zNil rfl) rfl rfl))) (by decide) nd_mends_of rfl (by first | exact Or.inl rfl | exact Or.inr rfl) rfl (by first | exact Or.inr rfl | exact Or.inl rfl))
  (ess_one (zExprO (eo_callN (D_better_of.on hr (by decide) rfl (by decide)) tk (el_here (pv 3) (zCons (zN (pv 4)) (zCons (zTup (zCons (zN (pv 8)) (zCons (zTup (zCons (zN (pv 5)) (zCons (zTyD (b_tuple rfl Γ.n_tuple) call_tupZ cv_tup (zCons (zO (eo_lc (own := [("part", 11)]) rfl nd_mends_of (zSeq (zN (pv 7))) k_mends_of_3 (by decide) (fun _ _ _ _ _ => (eg_name nd_mends_of rfl (by first | exact Or.inl rfl | exact Or.inr rfl) (by first | exact Or.inr rfl | exact Or.inl rfl))) (fun _ _ _ _ _ => ets_nil) (fun _ _ _ _ _ => (ev_subN (hu1 hr) (pv 11) zInt (fun _ _ => rfl))) (fun _ => rfl))) zNil rfl) rfl rfl) zNil rfl) rfl)) zNil rfl) rfl)) zNil rfl) rfl) rfl) rfl rfl) rfl)))) ess_nil)) (passes_of rfl) rfl (by decide) (fun _ => rfl))
  (ess_one (zRetV (pv 3)))))
/-! ### raw_mends -/
abbrev N_raw_mends : List Str := ["book", "tree", "behind", "label", "parts", "some", "part"]
abbrev P_raw_mends : List Str := ["book", "tree"]
theorem nd_raw_mends : N_raw_mends.Nodup := by decide +kernel
theorem s_raw_mends : FnScope N_raw_mends P_raw_mends (defScope (top 47)) := ⟨rfl, rfl, rfl, nd_raw_mends, rfl, by decide +kernel, by decide +kernel⟩
theorem k_raw_mends_0 : BlkOk N_raw_mends (defScope (top 47)) ⟨.function, [(".0", .local), ("part", .local), ("behind", .free)], false, false, []⟩ [("part", 6)] := ⟨rfl, by decide +kernel, by decide +kernel, by decide +kernel, by decide +kernel⟩
noncomputable def p_raw_mends : M Fl :=
  (seqM (setO 2 (lstM nilM))
  (seqM (forM' (gTp 2 (gsCons (gNm 3) (gsCons (gNm 4) gsNil))) (seqI (toD (revM (toD (callM g_raw_nodes 1 (consM (getD 1) nilM)))))) (seqM (setO 5 (lcM [6] (seqI (getD 4)) (gNm 6) trueM (popM 2)))
  (exprD (appM 2 (consM (toD (callM g_mends_of 3 (consM (getD 0) (consM (getD 3) (consM (getD 5) nilM))))) nilM)))))
  (retD (subN 2 (cD (.int 0))))))
noncomputable def g_raw_mends : Fn := runM p_raw_mends 7
theorem D_raw_mends (Γ : Facts P w K mg base) (D_mends_of : DefG P w K mg base (TT K) "mends_of" 2 [] 3 g_mends_of) (D_raw_nodes : DefG P w K mg base (TT K) "raw_nodes" 1 [] 1 g_raw_nodes) : DefG P w K mg base (TT K) "raw_mends" 3 [] 2 g_raw_mends := by
  obtain ⟨fd, F, hm⟩ := Γ.f_raw_mends
  exact DefG.mk' F s_raw_mends hm (fun _ _ _ _ _ _ us hl => match us, hl with | [u0, u1], _ => rfl) rfl rfl fun cdv A outer s H E hr tk =>
  (ess_cons (zSet (zLst zNil) (by decide) nd_raw_mends rfl (by first | exact Or.inl rfl | exact Or.inr rfl) rfl (by first | exact Or.inr rfl | exact Or.inl rfl))
  (ess_cons (zFor (zSeq (zO (zRev (zO (eo_call (D_raw_nodes.on hr (by decide) rfl (by decide)) tk (zCons (zN (pv 1)) zNil rfl) rfl rfl))))) (eg_tup rfl (egs_cons (eg_name nd_raw_mends rfl (by first | exact Or.inl rfl | exact Or.inr rfl) (by first | exact Or.inr rfl | exact Or.inl rfl)) (egs_cons (eg_name nd_raw_mends rfl (by first | exact Or.inl rfl | exact Or.inr rfl) (by first | exact Or.inr rfl | exact Or.inl rfl)) egs_nil rfl) rfl) (fun t ht => pg_tup rfl ht)) (ess_cons (es_setLc (own := [("part", 6)]) (by decide) rfl nd_raw_mends rfl rfl rfl (zSeq (zN (pv 4))) k_raw_mends_0 (by decide) (fun _ _ _ _ _ => (eg_name nd_raw_mends rfl (by first | exact Or.inl rfl | exact Or.inr rfl) (by first | exact Or.inr rfl | exact Or.inl rfl))) (fun _ _ _ _ _ => ets_nil) (fun _ _ _ _ _ => (ev_pop (pv 2) rfl rfl)) (fun _ => rfl))
  (ess_one (zExprD (ev_append (pv 2) (zCons (zO (eo_call (D_mends_of.on hr (by decide) rfl (by decide)) tk (zCons (zN (pv 0)) (zCons (zN (pv 3)) (zCons (zN (pv 5)) zNil rfl) rfl) rfl) rfl rfl)) zNil rfl) rfl rfl rfl rfl rfl) rfl))) (passes_of rfl) rfl (by decide) (fun _ => rfl))
  (ess_one (zRetD (ev_subN (hu1 hr) (pv 2) zInt (fun _ _ => rfl))))))
/-! ### mended -/
abbrev N_mended : List Str := ["book", "kind", "tree", "found"]
abbrev P_mended : List Str := ["book", "kind", "tree"]
theorem nd_mended : N_mended.Nodup := by decide +kernel
theorem s_mended : FnScope N_mended P_mended (defScope (top 48)) := ⟨rfl, rfl, rfl, nd_mended, rfl, by decide +kernel, by decide +kernel⟩
noncomputable def p_mended : M Fl :=
  (seqM (exprO (callM g_check_kind_tree 3 (consM (getD 0) (consM (getD 1) (consM (getD 2) nilM)))))
  (seqM (setO 3 (callM g_raw_mends 2 (consM (getD 0) (consM (getD 2) nilM))))
  (retD (iteM (inN 3 (getD 1)) (subM (subN 3 (getD 1)) (cD (.int 1))) (cD .none)))))
noncomputable def g_mended : Fn := runM p_mended 4
theorem D_mended (Γ : Facts P w K mg base) (D_check_kind_tree : DefG P w K mg base (TT K) "check_kind_tree" 6 [] 3 g_check_kind_tree) (D_raw_mends : DefG P w K mg base (TT K) "raw_mends" 3 [] 2 g_raw_mends) : DefG P w K mg base (TT K) "mended" 7 [] 3 g_mended := by
  obtain ⟨fd, F, hm⟩ := Γ.f_mended
  exact DefG.mk' F s_mended hm (fun _ _ _ _ _ _ us hl => match us, hl with | [u0, u1, u2], _ => rfl) rfl rfl fun cdv A outer s H E hr tk =>
  (ess_cons (zExprO (eo_call (D_check_kind_tree.on hr (by decide) rfl (by decide)) tk (zCons (zN (pv 0)) (zCons (zN (pv 1)) (zCons (zN (pv 2)) zNil rfl) rfl) rfl) rfl rfl) rfl)
  (ess_cons (zSet (eo_call (D_raw_mends.on hr (by decide) rfl (by decide)) tk (zCons (zN (pv 0)) (zCons (zN (pv 2)) zNil rfl) rfl) rfl rfl) (by decide) nd_mended rfl (by first | exact Or.inl rfl | exact Or.inr rfl) rfl (by first | exact Or.inr rfl | exact Or.inl rfl))
  (ess_one (zRetD (ev_if (et_inN (hu1 hr) (zN (pv 1)) (pv 3) rfl) (zSub (hu1 hr) (ev_subN (hu1 hr) (pv 3) (zN (pv 1)) (fun _ _ => rfl)) zInt (fun _ _ => rfl)) zNon)))))
/-! ### _law_bag -/
abbrev N__law_bag : List Str := ["script", "cells", "cell"]
abbrev P__law_bag : List Str := ["script"]
theorem nd__law_bag : N__law_bag.Nodup := by decide +kernel
theorem s__law_bag : FnScope N__law_bag P__law_bag (defScope (top 50)) := ⟨rfl, rfl, rfl, nd__law_bag, rfl, by decide +kernel, by decide +kernel⟩
theorem k__law_bag_0 : BlkOk N__law_bag (defScope (top 50)) ⟨.function, [(".0", .local), ("cell", .local), ("int", .globalImplicit), ("abs", .globalImplicit)], false, false, []⟩ [("cell", 2)] := ⟨rfl, by decide +kernel, by decide +kernel, by decide +kernel, by decide +kernel⟩
noncomputable def p__law_bag : M Fl :=
  (seqM (setO 1 (lcM [2] (seqI (toD (slN 0 noM (optM (cD (.int 63)))))) (gNm 2) trueM (toD (bin modO (fnD intG (consM (fnD absG (consM (fnD intG (consM (getD 2) nilM)) nilM)) nilM)) (toD (bin powO (cD (.int 10)) (cD (.int 36))))))))
  (retO (lstM (consM (getD 1) (consM (cD (.int 0)) (consM (cD (.int 0)) (consM (toD (bin addO (cD (.int 6133)) (toD (bin mulO (cD (.int 11)) (lenN 1))))) (consM (cD (.int 0)) nilM))))))))
noncomputable def g__law_bag : Fn := runM p__law_bag 3
theorem D__law_bag (Γ : Facts P w K mg base) : DefG P w K mg base (TT K) "_law_bag" 1 [0] 1 g__law_bag := by
  obtain ⟨fd, F, hm⟩ := Γ.f__law_bag
  exact DefG.mk' F s__law_bag hm (fun _ _ _ _ _ _ us hl => match us, hl with | [u0], _ => rfl) rfl rfl fun cdv A outer s H E hr tk =>
  (ess_cons (es_setLc (own := [("cell", 2)]) (by decide) rfl nd__law_bag rfl rfl rfl (zSeq (zO (eo_slN (pv 0) zNo (zOpt zInt)))) k__law_bag_0 (by decide) (fun _ _ _ _ _ => (eg_name nd__law_bag rfl (by first | exact Or.inl rfl | exact Or.inr rfl) (by first | exact Or.inr rfl | exact Or.inl rfl))) (fun _ _ _ _ _ => ets_nil) (fun _ _ _ _ _ => (zO (zBin op_modN opv_mod (zTyD (b_int rfl Γ.n_int) call_int1 cv_int (zCons (zFnD (b_abs rfl Γ.n_abs) call_abs cv_abs (zCons (zTyD (b_int rfl Γ.n_int) call_int1 cv_int (zCons (zN (pv 2)) zNil rfl) rfl rfl) zNil rfl) rfl rfl) zNil rfl) rfl rfl) (zO (zBin op_pow opv_pow zInt zInt))))) (fun _ => rfl))
  (ess_one (zRet (zLst (zCons (zN (pv 1)) (zCons zInt (zCons zInt (zCons (zO (zBin opr_add opv_add zInt (zO (zBin opr_mul opv_mul zInt (ev_lenN (b_len rfl Γ.n_len) (pv 1)))))) (zCons zInt zNil rfl) rfl) rfl) rfl) rfl)))))
/-! ### _law_pick -/
abbrev N__law_pick : List Str := ["bag", "width", "cell", "digit", "number"]
abbrev P__law_pick : List Str := ["bag", "width"]
theorem nd__law_pick : N__law_pick.Nodup := by decide +kernel
theorem s__law_pick : FnScope N__law_pick P__law_pick (defScope (top 51)) := ⟨rfl, rfl, rfl, nd__law_pick, rfl, by decide +kernel, by decide +kernel⟩
noncomputable def p__law_pick : M Fl :=
  (seqM (iteM (andM (cmpT eqB (subN 0 (cD (.int 2))) (cD (.int 0))) (cmpT ltB (subN 0 (cD (.int 1))) (fnD lenG (consM (subN 0 (cD (.int 0))) nilM)))) (seqM (setD 2 (subM (subN 0 (cD (.int 0))) (subN 0 (cD (.int 1)))))
  (seqM (stoM 0 (toD (bin addO (subN 0 (cD (.int 1))) (cD (.int 1)))) (cD (.int 1)))
  (seqM (stoM 0 (toD (bin modO (fnD intG (consM (toD (bin addO (toD (bin addO (toD (bin mulO (subN 0 (cD (.int 3))) (cD (.int 48271)))) (toD (bin mulO (getD 2) (cD (.int 69621)))))) (cD (.int 101)))) nilM)) (cD (.int 2147483629)))) (cD (.int 3)))
  (iteM (cmpT geB (getD 2) (toD (bin powO (cD (.int 10)) (cD (.int 18))))) (stoM 0 (getD 2) (cD (.int 2))) nxM)))) nxM)
  (seqM (iteM (cmpT gtB (subN 0 (cD (.int 2))) (cD (.int 0))) (seqM (setD 3 (toD (bin modO (fnD intG (consM (subN 0 (cD (.int 2))) nilM)) (getD 1))))
  (seqM (stoM 0 (toD (bin divO (subN 0 (cD (.int 2))) (getD 1))) (cD (.int 2)))
  (retV 3))) nxM)
  (seqM (stoM 0 (toD (bin addO (subN 0 (cD (.int 4))) (cD (.int 1)))) (cD (.int 4)))
  (seqM (setD 4 (toD (bin modO (fnD intG (consM (toD (bin mulO (fnD intG (consM (toD (bin addO (subN 0 (cD (.int 3))) (toD (bin mulO (cD (.int 7919)) (subN 0 (cD (.int 4))))))) nilM)) (cD (.int 48271)))) nilM)) (cD (.int 2147483647)))))
  (seqM (setD 4 (toD (bin modO (fnD intG (consM (toD (bin mulO (getD 4) (toD (bin addO (toD (bin divO (getD 4) (cD (.int 1009)))) (cD (.int 69621)))))) nilM)) (cD (.int 2147483647)))))
  (seqM (setD 4 (toD (bin modO (fnD intG (consM (toD (bin mulO (getD 4) (toD (bin addO (toD (bin divO (getD 4) (cD (.int 2003)))) (cD (.int 40014)))))) nilM)) (cD (.int 2147483563)))))
  (retO (bin modO (fnD intG (consM (toD (bin divO (getD 4) (cD (.int 16)))) nilM)) (getD 1)))))))))
noncomputable def g__law_pick : Fn := runM p__law_pick 5
theorem D__law_pick (Γ : Facts P w K mg base) : DefG P w K mg base (TT K) "_law_pick" 1 [0] 2 g__law_pick := by
  obtain ⟨fd, F, hm⟩ := Γ.f__law_pick
  exact DefG.mk' F s__law_pick hm (fun _ _ _ _ _ _ us hl => match us, hl with | [u0, u1], _ => rfl) rfl rfl fun cdv A outer s H E hr tk =>
  (ess_cons (es_if (EvW.t (et_and (zCmpT (op_eqD (hu64 hr)) opv_eq (ev_subN (hu1 hr) (pv 0) zInt (fun _ _ => rfl)) zInt rfl) (et_and1 (zCmpT (op_ltD (hu64 hr)) opv_lt (ev_subN (hu1 hr) (pv 0) zInt (fun _ _ => rfl)) (zFnD (b_len rfl Γ.n_len) call_lenA cv_len (zCons (ev_subN (hu1 hr) (pv 0) zInt (fun _ _ => rfl)) zNil rfl) rfl rfl) rfl)))) (ess_cons (zSetD (zSub (hu1 hr) (ev_subN (hu1 hr) (pv 0) zInt (fun _ _ => rfl)) (ev_subN (hu1 hr) (pv 0) zInt (fun _ _ => rfl)) (fun _ _ => rfl)) (by decide) nd__law_pick rfl (by first | exact Or.inl rfl | exact Or.inr rfl) rfl (by first | exact Or.inr rfl | exact Or.inl rfl))
  (ess_cons (es_sto (hu1 hr) (zO (zBin opr_add opv_add (ev_subN (hu1 hr) (pv 0) zInt (fun _ _ => rfl)) zInt)) (pv 0) zInt rfl rfl (pg_sub (pv 0) (EvD.pe zInt) (set_sto (hu1 hr))))
  (ess_cons (es_sto (hu1 hr) (zO (zBin op_modN opv_mod (zTyD (b_int rfl Γ.n_int) call_int1 cv_int (zCons (zO (zBin opr_add opv_add (zO (zBin opr_add opv_add (zO (zBin opr_mul opv_mul (ev_subN (hu1 hr) (pv 0) zInt (fun _ _ => rfl)) zInt)) (zO (zBin opr_mul opv_mul (zN (pv 2)) zInt)))) zInt)) zNil rfl) rfl rfl) zInt)) (pv 0) zInt rfl rfl (pg_sub (pv 0) (EvD.pe zInt) (set_sto (hu1 hr))))
  (ess_one (es_if (zCmpT op_ge opv_cmpI (zN (pv 2)) (zO (zBin op_pow opv_pow zInt zInt)) rfl) (ess_one (es_sto (hu1 hr) (zN (pv 2)) (pv 0) zInt rfl rfl (pg_sub (pv 0) (EvD.pe zInt) (set_sto (hu1 hr))))) ess_nil))))) ess_nil)
  (ess_cons (es_if (zCmpT op_gt opv_cmpI (ev_subN (hu1 hr) (pv 0) zInt (fun _ _ => rfl)) zInt rfl) (ess_cons (zSetD (zO (zBin op_modN opv_mod (zTyD (b_int rfl Γ.n_int) call_int1 cv_int (zCons (ev_subN (hu1 hr) (pv 0) zInt (fun _ _ => rfl)) zNil rfl) rfl rfl) (zN (pv 1)))) (by decide) nd__law_pick rfl (by first | exact Or.inl rfl | exact Or.inr rfl) rfl (by first | exact Or.inr rfl | exact Or.inl rfl))
  (ess_cons (es_sto (hu1 hr) (zO (zBin op_fdivN opv_div (ev_subN (hu1 hr) (pv 0) zInt (fun _ _ => rfl)) (zN (pv 1)))) (pv 0) zInt rfl rfl (pg_sub (pv 0) (EvD.pe zInt) (set_sto (hu1 hr))))
  (ess_one (zRetV (pv 3))))) ess_nil)
  (ess_cons (es_sto (hu1 hr) (zO (zBin opr_add opv_add (ev_subN (hu1 hr) (pv 0) zInt (fun _ _ => rfl)) zInt)) (pv 0) zInt rfl rfl (pg_sub (pv 0) (EvD.pe zInt) (set_sto (hu1 hr))))
  (ess_cons (zSetD (zO (zBin op_modN opv_mod (zTyD (b_int rfl Γ.n_int) call_int1 cv_int (zCons (zO (zBin opr_mul opv_mul (zTyD (b_int rfl Γ.n_int) call_int1 cv_int (zCons (zO (zBin opr_add opv_add (ev_subN (hu1 hr) (pv 0) zInt (fun _ _ => rfl)) (zO (zBin opr_mul opv_mul zInt (ev_subN (hu1 hr) (pv 0) zInt (fun _ _ => rfl)))))) zNil rfl) rfl rfl) zInt)) zNil rfl) rfl rfl) zInt)) (by decide) nd__law_pick rfl (by first | exact Or.inl rfl | exact Or.inr rfl) rfl (by first | exact Or.inr rfl | exact Or.inl rfl))
  (ess_cons (zSetD (zO (zBin op_modN opv_mod (zTyD (b_int rfl Γ.n_int) call_int1 cv_int (zCons (zO (zBin opr_mul opv_mul (zN (pv 4)) (zO (zBin opr_add opv_add (zO (zBin op_fdivN opv_div (zN (pv 4)) zInt)) zInt)))) zNil rfl) rfl rfl) zInt)) (by decide) nd__law_pick rfl (by first | exact Or.inl rfl | exact Or.inr rfl) rfl (by first | exact Or.inr rfl | exact Or.inl rfl))
  (ess_cons (zSetD (zO (zBin op_modN opv_mod (zTyD (b_int rfl Γ.n_int) call_int1 cv_int (zCons (zO (zBin opr_mul opv_mul (zN (pv 4)) (zO (zBin opr_add opv_add (zO (zBin op_fdivN opv_div (zN (pv 4)) zInt)) zInt)))) zNil rfl) rfl rfl) zInt)) (by decide) nd__law_pick rfl (by first | exact Or.inl rfl | exact Or.inr rfl) rfl (by first | exact Or.inr rfl | exact Or.inl rfl))
  (ess_one (zRet (zBin op_modN opv_mod (zTyD (b_int rfl Γ.n_int) call_int1 cv_int (zCons (zO (zBin op_fdivN opv_div (zN (pv 4)) zInt)) zNil rfl) rfl rfl) (zN (pv 1)))))))))))
/-! ### _law_some -/
abbrev N__law_some : List Str := ["bag", "things"]
abbrev P__law_some : List Str := ["bag", "things"]
theorem nd__law_some : N__law_some.Nodup := by decide +kernel
theorem s__law_some : FnScope N__law_some P__law_some (defScope (top 52)) := ⟨rfl, rfl, rfl, nd__law_some, rfl, by decide +kernel, by decide +kernel⟩
noncomputable def p__law_some : M Fl :=
  (retD (subN 1 (toD (callN g__law_pick 2 0 0 (lendM 0 (consM (lenN 1) nilM))))))
noncomputable def g__law_some : Fn := runM p__law_some 2
theorem D__law_some (Γ : Facts P w K mg base) (D__law_pick : DefG P w K mg base (TT K) "_law_pick" 1 [0] 2 g__law_pick) : DefG P w K mg base (TT K) "_law_some" 2 [0] 2 g__law_some := by
  obtain ⟨fd, F, hm⟩ := Γ.f__law_some
  exact DefG.mk' F s__law_some hm (fun _ _ _ _ _ _ us hl => match us, hl with | [u0, u1], _ => rfl) rfl rfl fun cdv A outer s H E hr tk =>
  (ess_one (zRetD (ev_subN (hu1 hr) (pv 1) (zO (eo_callN (D__law_pick.on hr (by decide) rfl (by decide)) tk (el_here (pv 0) (zCons (ev_lenN (b_len rfl Γ.n_len) (pv 1)) zNil rfl) rfl) rfl rfl)) (fun _ _ => rfl))))
/-! ### _law_signature -/
abbrev N__law_signature : List Str := ["bag"]
abbrev P__law_signature : List Str := ["bag"]
theorem nd__law_signature : N__law_signature.Nodup := by decide +kernel
theorem s__law_signature : FnScope N__law_signature P__law_signature (defScope (top 53)) := ⟨rfl, rfl, rfl, nd__law_signature, rfl, by decide +kernel, by decide +kernel⟩
noncomputable def p__law_signature : M Fl :=
  (retO (callN g__law_some 2 0 0 (lendM 0 (consM (toD (lstM (consM (tupM (consM (tupM (consM (cD (.str "a")) (consM (cD (.int 0)) nilM))) (consM (tupM (consM (cD (.str "b")) (consM (cD (.int 0)) nilM))) (consM (tupM (consM (cD (.str "f")) (consM (cD (.int 1)) nilM))) (consM (tupM (consM (cD (.str "g")) (consM (cD (.int 2)) nilM))) (consM (tupM (consM (cD (.str "h")) (consM (cD (.int 1)) nilM))) (consM (tupM (consM (cD (.str "k")) (consM (cD (.int 2)) nilM))) nilM))))))) (consM (tupM (consM (tupM (consM (cD (.str "a")) (consM (cD (.int 0)) nilM))) (consM (tupM (consM (cD (.str "b")) (consM (cD (.int 0)) nilM))) (consM (tupM (consM (cD (.str "s")) (consM (cD (.int 1)) nilM))) nilM)))) (consM (tupM (consM (tupM (consM (cD (.str "e")) (consM (cD (.int 0)) nilM))) (consM (tupM (consM (cD (.str "m")) (consM (cD (.int 2)) nilM))) (consM (tupM (consM (cD (.str "n")) (consM (cD (.int 2)) nilM))) nilM)))) (consM (tupM (consM (tupM (consM (cD (.str "a")) (consM (cD (.int 0)) nilM))) (consM (tupM (consM (cD (.str "b")) (consM (cD (.int 0)) nilM))) (consM (tupM (consM (cD (.str "c")) (consM (cD (.int 0)) nilM))) (consM (tupM (consM (cD (.str "g")) (consM (cD (.int 2)) nilM))) nilM))))) (consM (tupM (consM (tupM (consM (cD (.str "f")) (consM (cD (.int 1)) nilM))) (consM (tupM (consM (cD (.str "g")) (consM (cD (.int 1)) nilM))) (consM (tupM (consM (cD (.str "z")) (consM (cD (.int 0)) nilM))) nilM)))) (consM (tupM (consM (tupM (consM (cD (.str "a")) (consM (cD (.int 0)) nilM))) (consM (tupM (consM (cD (.str "g")) (consM (cD (.int 2)) nilM))) (consM (tupM (consM (cD (.str "k")) (consM (cD (.int 2)) nilM))) (consM (tupM (consM (cD (.str "u")) (consM (cD (.int 1)) nilM))) nilM))))) nilM)))))))) nilM))))
noncomputable def g__law_signature : Fn := runM p__law_signature 1
theorem D__law_signature (Γ : Facts P w K mg base) (D__law_some : DefG P w K mg base (TT K) "_law_some" 2 [0] 2 g__law_some) : DefG P w K mg base (TT K) "_law_signature" 3 [0] 1 g__law_signature := by
  obtain ⟨fd, F, hm⟩ := Γ.f__law_signature
  exact DefG.mk' F s__law_signature hm (fun _ _ _ _ _ _ us hl => match us, hl with | [u0], _ => rfl) rfl rfl fun cdv A outer s H E hr tk =>
  (ess_one (zRet (eo_callN (D__law_some.on hr (by decide) rfl (by decide)) tk (el_here (pv 0) (zCons (zO (zLst (zCons (zTup (zCons (zTup (zCons zStr (zCons zInt zNil rfl) rfl)) (zCons (zTup (zCons zStr (zCons zInt zNil rfl) rfl)) (zCons (zTup (zCons zStr (zCons zInt zNil rfl) rfl)) (zCons (zTup (zCons zStr (zCons zInt zNil rfl) rfl)) (zCons (zTup (zCons zStr (zCons zInt zNil rfl) rfl)) (zCons (zTup (zCons zStr (zCons zInt zNil rfl) rfl)) zNil rfl) rfl) rfl) rfl) rfl) rfl)) (zCons (zTup (zCons (zTup (zCons zStr (zCons zInt zNil rfl) rfl)) (zCons (zTup (zCons zStr (zCons zInt zNil rfl) rfl)) (zCons (zTup (zCons zStr (zCons zInt zNil rfl) rfl)) zNil rfl) rfl) rfl)) (zCons (zTup (zCons (zTup (zCons zStr (zCons zInt zNil rfl) rfl)) (zCons (zTup (zCons zStr (zCons zInt zNil rfl) rfl)) (zCons (zTup (zCons zStr (zCons zInt zNil rfl) rfl)) zNil rfl) rfl) rfl)) (zCons (zTup (zCons (zTup (zCons zStr (zCons zInt zNil rfl) rfl)) (zCons (zTup (zCons zStr (zCons zInt zNil rfl) rfl)) (zCons (zTup (zCons zStr (zCons zInt zNil rfl) rfl)) (zCons (zTup (zCons zStr (zCons zInt zNil rfl) rfl)) zNil rfl) rfl) rfl) rfl)) (zCons (zTup (zCons (zTup (zCons zStr (zCons zInt zNil rfl) rfl)) (zCons (zTup (zCons zStr (zCons zInt zNil rfl) rfl)) (zCons (zTup (zCons zStr (zCons zInt zNil rfl) rfl)) zNil rfl) rfl) rfl)) (zCons (zTup (zCons (zTup (zCons zStr (zCons zInt zNil rfl) rfl)) (zCons (zTup (zCons zStr (zCons zInt zNil rfl) rfl)) (zCons (zTup (zCons zStr (zCons zInt zNil rfl) rfl)) (zCons (zTup (zCons zStr (zCons zInt zNil rfl) rfl)) zNil rfl) rfl) rfl) rfl)) zNil rfl) rfl) rfl) rfl) rfl) rfl))) zNil rfl) rfl) rfl rfl)))
/-! ### _law_choices -/
abbrev N__law_choices : List Str := ["things", "many", "found", "turn", "longer", "one", "thing"]
abbrev P__law_choices : List Str := ["things", "many"]
theorem nd__law_choices : N__law_choices.Nodup := by decide +kernel
theorem s__law_choices : FnScope N__law_choices P__law_choices (defScope (top 54)) := ⟨rfl, rfl, rfl, nd__law_choices, rfl, by decide +kernel, by decide +kernel⟩
theorem k__law_choices_0 : BlkOk N__law_choices (defScope (top 54)) ⟨.function, [(".0", .local), ("thing", .local), ("one", .free)], false, false, []⟩ [("thing", 6)] := ⟨rfl, by decide +kernel, by decide +kernel, by decide +kernel, by decide +kernel⟩
noncomputable def p__law_choices : M Fl :=
  (seqM (setO 2 (lstM (consM (tupM nilM) nilM)))
  (seqM (forM' (gNm 3) (argI rng1 (consM (getD 1) nilM)) (seqM (setO 4 (lstM nilM))
  (seqM (forM' (gNm 5) (seqI (getD 2)) (exprD (extM 4 (consM (toD (lcM [6] (seqI (getD 0)) (gNm 6) trueM (toD (bin addO (getD 5) (tupM (consM (getD 6) nilM)))))) nilM))))
  (setD 2 (getD 4)))))
  (retV 2)))
noncomputable def g__law_choices : Fn := runM p__law_choices 7
theorem D__law_choices (Γ : Facts P w K mg base) : DefG P w K mg base (TT K) "_law_choices" 1 [] 2 g__law_choices := by
  obtain ⟨fd, F, hm⟩ := Γ.f__law_choices
  exact DefG.mk' F s__law_choices hm (fun _ _ _ _ _ _ us hl => match us, hl with | [u0, u1], _ => rfl) rfl rfl fun cdv A outer s H E hr tk =>
  (ess_cons (zSet (zLst (zCons (zTup zNil) zNil rfl)) (by decide) nd__law_choices rfl (by first | exact Or.inl rfl | exact Or.inr rfl) rfl (by first | exact Or.inr rfl | exact Or.inl rfl))
  (ess_cons (zFor (ei_rng1 rfl Γ.n_range (zCons (zN (pv 1)) zNil rfl) rfl) (eg_name nd__law_choices rfl (by first | exact Or.inl rfl | exact Or.inr rfl) (by first | exact Or.inr rfl | exact Or.inl rfl)) (ess_cons (zSet (zLst zNil) (by decide) nd__law_choices rfl (by first | exact Or.inl rfl | exact Or.inr rfl) rfl (by first | exact Or.inr rfl | exact Or.inl rfl))
  (ess_cons (zFor (zSeq (zN (pv 2))) (eg_name nd__law_choices rfl (by first | exact Or.inl rfl | exact Or.inr rfl) (by first | exact Or.inr rfl | exact Or.inl rfl)) (ess_one (zExprD (ev_extend (pv 4) (zCons (zO (eo_lc (own := [("thing", 6)]) rfl nd__law_choices (zSeq (zN (pv 0))) k__law_choices_0 (by decide) (fun _ _ _ _ _ => (eg_name nd__law_choices rfl (by first | exact Or.inl rfl | exact Or.inr rfl) (by first | exact Or.inr rfl | exact Or.inl rfl))) (fun _ _ _ _ _ => ets_nil) (fun _ _ _ _ _ => (zO (zBin opr_add opv_add (zN (pv 5)) (zTup (zCons (zN (pv 6)) zNil rfl))))) (fun _ => rfl))) zNil rfl) rfl rfl rfl rfl rfl) rfl)) (passes_of rfl) rfl (by decide) (fun _ => rfl))
  (ess_one (zSetD (zN (pv 4)) (by decide) nd__law_choices rfl (by first | exact Or.inl rfl | exact Or.inr rfl) rfl (by first | exact Or.inr rfl | exact Or.inl rfl))))) (passes_of rfl) rfl (by decide) (fun _ => rfl))
  (ess_one (zRetV (pv 2)))))
/-! ### _law_book -/
abbrev N__law_book : List Str := ["bag", "signature", "many", "rules", "share", "is_few", "kind", "label", "rank", "kinds"]
abbrev P__law_book : List Str := ["bag", "signature"]
theorem nd__law_book : N__law_book.Nodup := by decide +kernel
theorem s__law_book : FnScope N__law_book P__law_book (defScope (top 55)) := ⟨rfl, rfl, rfl, nd__law_book, rfl, by decide +kernel, by decide +kernel⟩
noncomputable def p__law_book : M Fl :=
  (seqM (parM [2, 3, 4] (consO (bin addO (cD (.int 1)) (toD (callN g__law_pick 2 0 0 (lendM 0 (consM (cD (.int 3)) nilM))))) (consO (lstM nilM) (consO (bin addO (cD (.int 2)) (toD (callN g__law_pick 2 0 0 (lendM 0 (consM (cD (.int 3)) nilM))))) nilO))))
  (seqM (setD 5 (cmpD eqB (toD (callN g__law_pick 2 0 0 (lendM 0 (consM (cD (.int 2)) nilM)))) (cD (.int 0))))
  (seqM (forM' (gNm 6) (argI rng1 (consM (getD 2) nilM)) (forM' (gTp 2 (gsCons (gNm 7) (gsCons (gNm 8) gsNil))) (seqI (getD 1)) (forM' (gNm 9) (seqI (toD (callM g__law_choices 2 (consM (toD (lrgM (getD 2))) (consM (getD 8) nilM))))) (iteM (cmpT eqB (cmpD eqB (toD (callN g__law_pick 2 0 0 (lendM 0 (consM (getD 4) nilM)))) (cD (.int 0))) (getD 5)) (exprD (appM 3 (consM (tupM (consM (getD 6) (consM (getD 7) (consM (getD 9) nilM)))) nilM))) nxM))))
  (retD (tupM (consM (getD 1) (consM (getD 2) (consM (fnD tupG (consM (toD (fnO sortedG (consM (getD 3) nilM))) nilM)) nilM))))))))
noncomputable def g__law_book : Fn := runM p__law_book 10
theorem D__law_book (Γ : Facts P w K mg base) (D__law_choices : DefG P w K mg base (TT K) "_law_choices" 1 [] 2 g__law_choices) (D__law_pick : DefG P w K mg base (TT K) "_law_pick" 1 [0] 2 g__law_pick) : DefG P w K mg base (TT K) "_law_book" 2 [0] 2 g__law_book := by
  obtain ⟨fd, F, hm⟩ := Γ.f__law_book
  exact DefG.mk' F s__law_book hm (fun _ _ _ _ _ _ us hl => match us, hl with | [u0, u1], _ => rfl) rfl rfl fun cdv A outer s H E hr tk =>
  (ess_cons (es_par3 (by decide) rfl nd__law_book rfl rfl rfl (by decide) (by decide) (by decide) rfl rfl rfl (eao_cons (zBin opr_add opv_add zInt (zO (eo_callN (D__law_pick.on hr (by decide) rfl (by decide)) tk (el_here (pv 0) (zCons zInt zNil rfl) rfl) rfl rfl))) (eao_cons (zLst zNil) (eao_cons (zBin opr_add opv_add zInt (zO (eo_callN (D__law_pick.on hr (by decide) rfl (by decide)) tk (el_here (pv 0) (zCons zInt zNil rfl) rfl) rfl rfl))) zNilO rfl) rfl) rfl) rfl rfl)
  (ess_cons (zSetD (zCmpD (op_eqD (hu64 hr)) opv_eq (zO (eo_callN (D__law_pick.on hr (by decide) rfl (by decide)) tk (el_here (pv 0) (zCons zInt zNil rfl) rfl) rfl rfl)) zInt rfl) (by decide) nd__law_book rfl (by first | exact Or.inl rfl | exact Or.inr rfl) rfl (by first | exact Or.inr rfl | exact Or.inl rfl))
  (ess_cons (zFor (ei_rng1 rfl Γ.n_range (zCons (zN (pv 2)) zNil rfl) rfl) (eg_name nd__law_book rfl (by first | exact Or.inl rfl | exact Or.inr rfl) (by first | exact Or.inr rfl | exact Or.inl rfl)) (ess_one (zFor (zSeq (zN (pv 1))) (eg_tup rfl (egs_cons (eg_name nd__law_book rfl (by first | exact Or.inl rfl | exact Or.inr rfl) (by first | exact Or.inr rfl | exact Or.inl rfl)) (egs_cons (eg_name nd__law_book rfl (by first | exact Or.inl rfl | exact Or.inr rfl) (by first | exact Or.inr rfl | exact Or.inl rfl)) egs_nil rfl) rfl) (fun t ht => pg_tup rfl ht)) (ess_one (zFor (zSeq (zO (eo_call (D__law_choices.on hr (by decide) rfl (by decide)) tk (zCons (zO (eo_listRg rfl rfl Γ.n_list rfl Γ.n_range (zN (pv 2)) rfl rfl)) (zCons (zN (pv 8)) zNil rfl) rfl) rfl rfl))) (eg_name nd__law_book rfl (by first | exact Or.inl rfl | exact Or.inr rfl) (by first | exact Or.inr rfl | exact Or.inl rfl)) (ess_one (es_if (zCmpT (op_eqD (hu64 hr)) opv_eq (zCmpD (op_eqD (hu64 hr)) opv_eq (zO (eo_callN (D__law_pick.on hr (by decide) rfl (by decide)) tk (el_here (pv 0) (zCons (zN (pv 4)) zNil rfl) rfl) rfl rfl)) zInt rfl) (zN (pv 5)) rfl) (ess_one (zExprD (ev_append (pv 3) (zCons (zTup (zCons (zN (pv 6)) (zCons (zN (pv 7)) (zCons (zN (pv 9)) zNil rfl) rfl) rfl)) zNil rfl) rfl rfl rfl rfl rfl) rfl)) ess_nil)) (passes_of rfl) rfl (by decide) (fun _ => rfl))) (passes_of rfl) rfl (by decide) (fun _ => rfl))) (passes_of rfl) rfl (by decide) (fun _ => rfl))
  (ess_one (zRetD (zTup (zCons (zN (pv 1)) (zCons (zN (pv 2)) (zCons (zTyD (b_tuple rfl Γ.n_tuple) call_tupZ cv_tup (zCons (zO (zFnO (b_sorted rfl Γ.n_sorted) (call_sortA rfl (hu64 hr)) cv_sorted (zCons (zN (pv 3)) zNil rfl) rfl rfl)) zNil rfl) rfl rfl) zNil rfl) rfl) rfl)))))))
/-! ### _law_nodes -/
abbrev N__law_nodes : List Str := ["tree", "found", "waiting", "here"]
abbrev P__law_nodes : List Str := ["tree"]
theorem nd__law_nodes : N__law_nodes.Nodup := by decide +kernel
theorem s__law_nodes : FnScope N__law_nodes P__law_nodes (defScope (top 56)) := ⟨rfl, rfl, rfl, nd__law_nodes, rfl, by decide +kernel, by decide +kernel⟩
noncomputable def p__law_nodes : M Fl :=
  (seqM (parM [1, 2] (consO (toO (cD (.int 0))) (consO (lstM (consM (getD 0) nilM)) nilO)))
  (seqM (whileU (cmpT gtB (lenN 2) (cD (.int 0))) (seqM (setD 3 (popM 2))
  (seqM (setD 1 (toD (bin addO (getD 1) (cD (.int 1)))))
  (exprD (extM 2 (consM (toD (fnO listG (consM (subN 3 (cD (.int 1))) nilM))) nilM))))))
  (retV 1)))
noncomputable def g__law_nodes : Fn := runM p__law_nodes 4
theorem D__law_nodes (Γ : Facts P w K mg base) : DefG P w K mg base (TT K) "_law_nodes" 1 [] 1 g__law_nodes := by
  obtain ⟨fd, F, hm⟩ := Γ.f__law_nodes
  exact DefG.mk' F s__law_nodes hm (fun _ _ _ _ _ _ us hl => match us, hl with | [u0], _ => rfl) rfl rfl fun cdv A outer s H E hr tk =>
  (ess_cons (es_par (by decide) rfl nd__law_nodes rfl rfl (by decide) rfl rfl (eao_cons (zD zInt) (eao_cons (zLst (zCons (zN (pv 0)) zNil rfl)) zNilO rfl) rfl) rfl rfl)
  (ess_cons (es_while (passes_of rfl) (zCmpT op_gt opv_cmpI (ev_lenN (b_len rfl Γ.n_len) (pv 2)) zInt rfl) (ess_cons (zSetD (ev_pop (pv 2) rfl rfl) (by decide) nd__law_nodes rfl (by first | exact Or.inl rfl | exact Or.inr rfl) rfl (by first | exact Or.inr rfl | exact Or.inl rfl))
  (ess_cons (zSetD (zO (zBin opr_add opv_add (zN (pv 1)) zInt)) (by decide) nd__law_nodes rfl (by first | exact Or.inl rfl | exact Or.inr rfl) rfl (by first | exact Or.inr rfl | exact Or.inl rfl))
  (ess_one (zExprD (ev_extend (pv 2) (zCons (zO (zTyO (b_list rfl Γ.n_list) call_list_of cv_list (zCons (ev_subN (hu1 hr) (pv 3) zInt (fun _ _ => rfl)) zNil rfl) rfl rfl)) zNil rfl) rfl rfl rfl rfl rfl) rfl)))))
  (ess_one (zRetV (pv 1)))))
/-! ### _law_tree -/
abbrev N__law_tree : List Str := ["bag", "signature", "most", "label", "rank", "pool", "turn", "tree", "one", "place"]
abbrev P__law_tree : List Str := ["bag", "signature", "most"]
theorem nd__law_tree : N__law_tree.Nodup := by decide +kernel
theorem s__law_tree : FnScope N__law_tree P__law_tree (defScope (top 57)) := ⟨rfl, rfl, rfl, nd__law_tree, rfl, by decide +kernel, by decide +kernel⟩
theorem k__law_tree_0 : BlkOk N__law_tree (defScope (top 57)) ⟨.function, [(".0", .local), ("label", .local), ("rank", .local)], false, false, []⟩ [("label", 3), ("rank", 4)] := ⟨rfl, by decide +kernel, by decide +kernel, by decide +kernel, by decide +kernel⟩
theorem k__law_tree_1 : BlkOk N__law_tree (defScope (top 57)) ⟨.function, [(".0", .local), ("one", .local)], false, false, []⟩ [("one", 8)] := ⟨rfl, by decide +kernel, by decide +kernel, by decide +kernel, by decide +kernel⟩
theorem k__law_tree_2 : BlkOk N__law_tree (defScope (top 57)) ⟨.function, [(".0", .local), ("place", .local), ("_law_some", .globalImplicit), ("bag", .free), ("pool", .free)], false, false, []⟩ [("place", 9)] := ⟨rfl, by decide +kernel, by decide +kernel, by decide +kernel, by decide +kernel⟩
noncomputable def p__law_tree : M Fl :=
  (seqM (setO 5 (lcM [3, 4] (seqI (getD 1)) (gTp 2 (gsCons (gNm 3) (gsCons (gNm 4) gsNil))) (cmpT eqB (getD 4) (cD (.int 0))) (tupM (consM (getD 3) (consM (tupM nilM) nilM)))))
  (seqM (forM' (gNm 6) (argI rng1 (consM (toD (callN g__law_pick 2 0 0 (lendM 0 (consM (getD 2) nilM)))) nilM)) (seqM (asgD (gTp 2 (gsCons (gNm 3) (gsCons (gNm 4) gsNil))) (toD (callN g__law_some 2 0 0 (lendM 0 (consM (toD (lcM [8] (seqI (getD 1)) (gNm 8) (cmpT gtB (subN 8 (cD (.int 1))) (cD (.int 0))) (getD 8))) nilM)))))
  (seqM (setD 7 (tupM (consM (getD 3) (consM (fnD tupG (consM (toD (lcM [9] (argI rng1 (consM (getD 4) nilM)) (gNm 9) trueM (toD (callN g__law_some 2 0 0 (lendM 0 (consM (toD (slN 5 (optM (negM (cD (.int 4)))) noM)) nilM)))))) nilM)) nilM))))
  (exprD (extM 5 (consM (iteM (cmpT leB (toD (callM g__law_nodes 1 (consM (getD 7) nilM))) (getD 2)) (toD (lstM (consM (getD 7) nilM))) (toD (lstM nilM))) nilM))))))
  (retO (callN g__law_some 2 0 0 (lendM 0 (consM (toD (slN 5 (optM (negM (cD (.int 2)))) noM)) nilM))))))
noncomputable def g__law_tree : Fn := runM p__law_tree 10
theorem D__law_tree (Γ : Facts P w K mg base) (D__law_nodes : DefG P w K mg base (TT K) "_law_nodes" 1 [] 1 g__law_nodes) (D__law_pick : DefG P w K mg base (TT K) "_law_pick" 1 [0] 2 g__law_pick) (D__law_some : DefG P w K mg base (TT K) "_law_some" 2 [0] 2 g__law_some) : DefG P w K mg base (TT K) "_law_tree" 3 [0] 3 g__law_tree := by
  obtain ⟨fd, F, hm⟩ := Γ.f__law_tree
  exact DefG.mk' F s__law_tree hm (fun _ _ _ _ _ _ us hl => match us, hl with | [u0, u1, u2], _ => rfl) rfl rfl fun cdv A outer s H E hr tk =>
  (ess_cons (zSet (eo_lc (own := [("label", 3), ("rank", 4)]) rfl nd__law_tree (zSeq (zN (pv 1))) k__law_tree_0 (by decide) (fun _ _ _ _ _ => (eg_tup rfl (egs_cons (eg_name nd__law_tree rfl (by first | exact Or.inl rfl | exact Or.inr rfl) (by first | exact Or.inr rfl | exact Or.inl rfl)) (egs_cons (eg_name nd__law_tree rfl (by first | exact Or.inl rfl | exact Or.inr rfl) (by first | exact Or.inr rfl | exact Or.inl rfl)) egs_nil rfl) rfl) (fun t ht => pg_tup rfl ht))) (fun _ _ _ _ _ => (ets_one (zCmpT (op_eqD (hu64 hr)) opv_eq (zN (pv 4)) zInt rfl))) (fun _ _ _ _ _ => (zTup (zCons (zN (pv 3)) (zCons (zTup zNil) zNil rfl) rfl))) (fun _ => rfl)) (by decide) nd__law_tree rfl (by first | exact Or.inl rfl | exact Or.inr rfl) rfl (by first | exact Or.inr rfl | exact Or.inl rfl))
  (ess_cons (zFor (ei_rng1 rfl Γ.n_range (zCons (zO (eo_callN (D__law_pick.on hr (by decide) rfl (by decide)) tk (el_here (pv 0) (zCons (zN (pv 2)) zNil rfl) rfl) rfl rfl)) zNil rfl) rfl) (eg_name nd__law_tree rfl (by first | exact Or.inl rfl | exact Or.inr rfl) (by first | exact Or.inr rfl | exact Or.inl rfl)) (ess_cons (zAsg (zO (eo_callN (D__law_some.on hr (by decide) rfl (by decide)) tk (el_here (pv 0) (zCons (zO (eo_lc (own := [("one", 8)]) rfl nd__law_tree (zSeq (zN (pv 1))) k__law_tree_1 (by decide) (fun _ _ _ _ _ => (eg_name nd__law_tree rfl (by first | exact Or.inl rfl | exact Or.inr rfl) (by first | exact Or.inr rfl | exact Or.inl rfl))) (fun _ _ _ _ _ => (ets_one (zCmpT op_gt opv_cmpI (ev_subN (hu1 hr) (pv 8) zInt (fun _ _ => rfl)) zInt rfl))) (fun _ _ _ _ _ => (zN (pv 8))) (fun _ => rfl))) zNil rfl) rfl) rfl rfl)) (eg_tup rfl (egs_cons (eg_name nd__law_tree rfl (by first | exact Or.inl rfl | exact Or.inr rfl) (by first | exact Or.inr rfl | exact Or.inl rfl)) (egs_cons (eg_name nd__law_tree rfl (by first | exact Or.inl rfl | exact Or.inr rfl) (by first | exact Or.inr rfl | exact Or.inl rfl)) egs_nil rfl) rfl) (fun t ht => pg_tup rfl ht)) (by decide) rfl rfl rfl)
  (ess_cons (zSetD (zTup (zCons (zN (pv 3)) (zCons (zTyD (b_tuple rfl Γ.n_tuple) call_tupZ cv_tup (zCons (zO (eo_lc (own := [("place", 9)]) rfl nd__law_tree (ei_rng1 rfl Γ.n_range (zCons (zN (pv 4)) zNil rfl) rfl) k__law_tree_2 (by decide) (fun _ _ _ _ _ => (eg_name nd__law_tree rfl (by first | exact Or.inl rfl | exact Or.inr rfl) (by first | exact Or.inr rfl | exact Or.inl rfl))) (fun _ _ _ _ _ => ets_nil) (fun _ _ _ _ _ => (zO (eo_callN (D__law_some.on hr (by decide) rfl (by decide)) LamX.takes0 (el_here (pv 0) (zCons (zO (eo_slN (pv 5) (zOpt (zNeg zInt)) zNo)) zNil rfl) rfl) rfl rfl))) (fun _ => rfl))) zNil rfl) rfl rfl) zNil rfl) rfl)) (by decide) nd__law_tree rfl (by first | exact Or.inl rfl | exact Or.inr rfl) rfl (by first | exact Or.inr rfl | exact Or.inl rfl))
  (ess_one (zExprD (ev_extend (pv 5) (zCons (ev_if (zCmpT op_le opv_cmpI (zO (eo_call (D__law_nodes.on hr (by decide) rfl (by decide)) tk (zCons (zN (pv 7)) zNil rfl) rfl rfl)) (zN (pv 2)) rfl) (zO (zLst (zCons (zN (pv 7)) zNil rfl))) (zO (zLst zNil))) zNil rfl) rfl rfl rfl rfl rfl) rfl)))) (passes_of rfl) rfl (by decide) (fun _ => rfl))
  (ess_one (zRet (eo_callN (D__law_some.on hr (by decide) rfl (by decide)) tk (el_here (pv 0) (zCons (zO (eo_slN (pv 5) (zOpt (zNeg zInt)) zNo)) zNil rfl) rfl) rfl rfl)))))
/-! ### _law_lot -/
abbrev N__law_lot : List Str := ["book", "tree", "lots", "found", "kind", "label", "kinds", "part", "one", "lot"]
abbrev P__law_lot : List Str := ["book", "tree"]
theorem nd__law_lot : N__law_lot.Nodup := by decide +kernel
theorem s__law_lot : FnScope N__law_lot P__law_lot (defScope (top 58)) := ⟨rfl, rfl, rfl, nd__law_lot, rfl, by decide +kernel, by decide +kernel⟩
theorem k__law_lot_0 : BlkOk N__law_lot (defScope (top 58)) ⟨.function, [(".0", .local), ("part", .local), ("_law_lot", .globalImplicit), ("book", .free)], false, false, []⟩ [("part", 7)] := ⟨rfl, by decide +kernel, by decide +kernel, by decide +kernel, by decide +kernel⟩
theorem k__law_lot_1 : BlkOk N__law_lot (defScope (top 58)) ⟨.function, [(".0", .local), ("one", .local), ("lot", .local)], false, false, []⟩ [("one", 8), ("lot", 9)] := ⟨rfl, by decide +kernel, by decide +kernel, by decide +kernel, by decide +kernel⟩
noncomputable def p__law_lot (g_self : Fn) : M Fl :=
  (seqM (parM [2, 3] (consO (lcM [7] (seqI (subN 1 (cD (.int 1)))) (gNm 7) trueM (toD (callM g_self 2 (consM (getD 0) (consM (getD 7) nilM))))) (consO dicM nilO)))
  (seqM (forM' (gTp 3 (gsCons (gNm 4) (gsCons (gNm 5) (gsCons (gNm 6) gsNil)))) (seqI (subN 0 (cD (.int 2)))) (iteM (andM (cmpT eqB (getD 5) (subN 1 (cD (.int 0)))) (truT (fnD allG (consM (toD (lcM [8, 9] (argI zipG (consM (getD 6) (consM (getD 2) nilM))) (gTp 2 (gsCons (gNm 8) (gsCons (gNm 9) gsNil))) trueM (cmpD inB (getD 8) (getD 9)))) nilM)))) (stoM 3 (cD (.bool true)) (getD 4)) nxM))
  (retD (fnD tupG (consM (toD (fnO sortedG (consM (getD 3) nilM))) nilM)))))
noncomputable def g__law_lot : Nat → Fn
  | 0 => fun _ => none
  | j + 1 => runM (p__law_lot (g__law_lot j)) 10
theorem D__law_lot (Γ : Facts P w K mg base) : ∀ j, DefG P w K mg base (TT K) "_law_lot" (0 + j) [] 2 (g__law_lot j)
  | 0 => by
    obtain ⟨fd, F, hm⟩ := Γ.f__law_lot
    exact DefG.zero (ps := P__law_lot) F hm (fun _ _ _ _ _ _ us hl => match us, hl with | [u0, u1], _ => rfl)
  | j + 1 => by
    have D__law_lot := D__law_lot Γ  j
    obtain ⟨fd, F, hm⟩ := Γ.f__law_lot
    exact DefG.mk' F s__law_lot hm (fun _ _ _ _ _ _ us hl => match us, hl with | [u0, u1], _ => rfl) rfl rfl fun cdv A outer s H E hr tk =>
    (ess_cons (es_par (by decide) rfl nd__law_lot rfl rfl (by decide) rfl rfl (eao_cons (eo_lc (own := [("part", 7)]) rfl nd__law_lot (zSeq (ev_subN (hu1 hr) (pv 1) zInt (fun _ _ => rfl))) k__law_lot_0 (by decide) (fun _ _ _ _ _ => (eg_name nd__law_lot rfl (by first | exact Or.inl rfl | exact Or.inr rfl) (by first | exact Or.inr rfl | exact Or.inl rfl))) (fun _ _ _ _ _ => ets_nil) (fun _ _ _ _ _ => (zO (eo_call (D__law_lot.on hr (by first | exact Nat.le_refl _ | omega) rfl (by decide)) LamX.takes0 (zCons (zN (pv 0)) (zCons (zN (pv 7)) zNil rfl) rfl) rfl rfl))) (fun _ => rfl)) (eao_cons zDic zNilO rfl) rfl) rfl rfl)
  (ess_cons (zFor (zSeq (ev_subN (hu1 hr) (pv 0) zInt (fun _ _ => rfl))) (eg_tup rfl (egs_cons (eg_name nd__law_lot rfl (by first | exact Or.inl rfl | exact Or.inr rfl) (by first | exact Or.inr rfl | exact Or.inl rfl)) (egs_cons (eg_name nd__law_lot rfl (by first | exact Or.inl rfl | exact Or.inr rfl) (by first | exact Or.inr rfl | exact Or.inl rfl)) (egs_cons (eg_name nd__law_lot rfl (by first | exact Or.inl rfl | exact Or.inr rfl) (by first | exact Or.inr rfl | exact Or.inl rfl)) egs_nil rfl) rfl) rfl) (fun t ht => pg_tup rfl ht)) (ess_one (es_if (EvW.t (et_and (zCmpT (op_eqD (hu64 hr)) opv_eq (zN (pv 5)) (ev_subN (hu1 hr) (pv 1) zInt (fun _ _ => rfl)) rfl) (et_and1 (zTru (zFnD (b_all rfl Γ.n_all) (cr_all rfl) cv_all (zCons (zO (eo_lc (own := [("one", 8), ("lot", 9)]) rfl nd__law_lot (ei_zip rfl Γ.n_zip (zCons (zN (pv 6)) (zCons (zN (pv 2)) zNil rfl) rfl) rfl rfl) k__law_lot_1 (by decide) (fun _ _ _ _ _ => (eg_tup rfl (egs_cons (eg_name nd__law_lot rfl (by first | exact Or.inl rfl | exact Or.inr rfl) (by first | exact Or.inr rfl | exact Or.inl rfl)) (egs_cons (eg_name nd__law_lot rfl (by first | exact Or.inl rfl | exact Or.inr rfl) (by first | exact Or.inr rfl | exact Or.inl rfl)) egs_nil rfl) rfl) (fun t ht => pg_tup rfl ht))) (fun _ _ _ _ _ => ets_nil) (fun _ _ _ _ _ => (zCmpD (op_inA (hu1 hr)) opv_in (zN (pv 8)) (zN (pv 9)) rfl)) (fun _ => rfl))) zNil rfl) rfl rfl) (fun _ => rfl))))) (ess_one (es_sto (hu1 hr) zBl (pv 3) (zN (pv 4)) rfl rfl (pg_sub (pv 3) (EvD.pe (zN (pv 4))) (set_sto (hu1 hr))))) ess_nil)) (passes_of rfl) rfl (by decide) (fun _ => rfl))
  (ess_one (zRetD (zTyD (b_tuple rfl Γ.n_tuple) call_tupZ cv_tup (zCons (zO (zFnO (b_sorted rfl Γ.n_sorted) (call_sortA rfl (hu64 hr)) cv_sorted (zCons (zN (pv 3)) zNil rfl) rfl rfl)) zNil rfl) rfl rfl)))))
/-! ### _law_of_form -/
abbrev N__law_of_form : List Str := ["signature", "tree", "rank", "parts", "part", "longer", "one", "its", "found", "label", "some"]
abbrev P__law_of_form : List Str := ["signature", "tree"]
theorem nd__law_of_form : N__law_of_form.Nodup := by decide +kernel
theorem s__law_of_form : FnScope N__law_of_form P__law_of_form (defScope (top 59)) := ⟨rfl, rfl, rfl, nd__law_of_form, rfl, by decide +kernel, by decide +kernel⟩
theorem k__law_of_form_0 : BlkOk N__law_of_form (defScope (top 59)) ⟨.function, [(".0", .local), ("its", .local), ("one", .free)], false, false, []⟩ [("its", 7)] := ⟨rfl, by decide +kernel, by decide +kernel, by decide +kernel, by decide +kernel⟩
theorem k__law_of_form_1 : BlkOk N__law_of_form (defScope (top 59)) ⟨.function, [(".0", .local), ("some", .local), ("label", .free)], false, false, []⟩ [("some", 10)] := ⟨rfl, by decide +kernel, by decide +kernel, by decide +kernel, by decide +kernel⟩
noncomputable def p__law_of_form (g_self : Fn) : M Fl :=
  (seqM (setD 2 (fnD lenG (consM (subN 1 (cD (.int 1))) nilM)))
  (seqM (setO 3 (lstM (consM (tupM nilM) nilM)))
  (seqM (forM' (gNm 4) (seqI (subN 1 (cD (.int 1)))) (seqM (setO 5 (lstM nilM))
  (seqM (forM' (gNm 6) (seqI (getD 3)) (exprD (extM 5 (consM (toD (lcM [7] (seqI (toD (callM g_self 2 (consM (getD 0) (consM (getD 4) nilM))))) (gNm 7) trueM (toD (bin addO (getD 6) (tupM (consM (getD 7) nilM)))))) nilM))))
  (setD 3 (getD 5)))))
  (seqM (setO 8 (lstM nilM))
  (seqM (forM' (gTp 2 (gsCons (gNm 9) (gsCons (gNm 7) gsNil))) (seqI (getD 0)) (exprD (extM 8 (consM (iteM (cmpT eqB (getD 7) (getD 2)) (toD (lcM [10] (seqI (getD 3)) (gNm 10) trueM (tupM (consM (getD 9) (consM (getD 10) nilM))))) (toD (lstM nilM))) nilM))))
  (retV 8))))))
noncomputable def g__law_of_form : Nat → Fn
  | 0 => fun _ => none
  | j + 1 => runM (p__law_of_form (g__law_of_form j)) 11
theorem D__law_of_form (Γ : Facts P w K mg base) : ∀ j, DefG P w K mg base (TT K) "_law_of_form" (0 + j) [] 2 (g__law_of_form j)
  | 0 => by
    obtain ⟨fd, F, hm⟩ := Γ.f__law_of_form
    exact DefG.zero (ps := P__law_of_form) F hm (fun _ _ _ _ _ _ us hl => match us, hl with | [u0, u1], _ => rfl)
  | j + 1 => by
    have D__law_of_form := D__law_of_form Γ  j
    obtain ⟨fd, F, hm⟩ := Γ.f__law_of_form
    exact DefG.mk' F s__law_of_form hm (fun _ _ _ _ _ _ us hl => match us, hl with | [u0, u1], _ => rfl) rfl rfl fun cdv A outer s H E hr tk =>
    (ess_cons (zSetD (zFnD (b_len rfl Γ.n_len) call_lenA cv_len (zCons (ev_subN (hu1 hr) (pv 1) zInt (fun _ _ => rfl)) zNil rfl) rfl rfl) (by decide) nd__law_of_form rfl (by first | exact Or.inl rfl | exact Or.inr rfl) rfl (by first | exact Or.inr rfl | exact Or.inl rfl))
  (ess_cons (zSet (zLst (zCons (zTup zNil) zNil rfl)) (by decide) nd__law_of_form rfl (by first | exact Or.inl rfl | exact Or.inr rfl) rfl (by first | exact Or.inr rfl | exact Or.inl rfl))
  (ess_cons (zFor (zSeq (ev_subN (hu1 hr) (pv 1) zInt (fun _ _ => rfl))) (eg_name nd__law_of_form rfl (by first | exact Or.inl rfl | exact Or.inr rfl) (by first | exact Or.inr rfl | exact Or.inl rfl)) (ess_cons (zSet (zLst zNil) (by decide) nd__law_of_form rfl (by first | exact Or.inl rfl | exact Or.inr rfl) rfl (by first | exact Or.inr rfl | exact Or.inl rfl))
  (ess_cons (zFor (zSeq (zN (pv 3))) (eg_name nd__law_of_form rfl (by first | exact Or.inl rfl | exact Or.inr rfl) (by first | exact Or.inr rfl | exact Or.inl rfl)) (ess_one (zExprD (ev_extend (pv 5) (zCons (zO (eo_lc (own := [("its", 7)]) rfl nd__law_of_form (zSeq (zO (eo_call (D__law_of_form.on hr (by first | exact Nat.le_refl _ | omega) rfl (by decide)) tk (zCons (zN (pv 0)) (zCons (zN (pv 4)) zNil rfl) rfl) rfl rfl))) k__law_of_form_0 (by decide) (fun _ _ _ _ _ => (eg_name nd__law_of_form rfl (by first | exact Or.inl rfl | exact Or.inr rfl) (by first | exact Or.inr rfl | exact Or.inl rfl))) (fun _ _ _ _ _ => ets_nil) (fun _ _ _ _ _ => (zO (zBin opr_add opv_add (zN (pv 6)) (zTup (zCons (zN (pv 7)) zNil rfl))))) (fun _ => rfl))) zNil rfl) rfl rfl rfl rfl rfl) rfl)) (passes_of rfl) rfl (by decide) (fun _ => rfl))
  (ess_one (zSetD (zN (pv 5)) (by decide) nd__law_of_form rfl (by first | exact Or.inl rfl | exact Or.inr rfl) rfl (by first | exact Or.inr rfl | exact Or.inl rfl))))) (passes_of rfl) rfl (by decide) (fun _ => rfl))
  (ess_cons (zSet (zLst zNil) (by decide) nd__law_of_form rfl (by first | exact Or.inl rfl | exact Or.inr rfl) rfl (by first | exact Or.inr rfl | exact Or.inl rfl))
  (ess_cons (zFor (zSeq (zN (pv 0))) (eg_tup rfl (egs_cons (eg_name nd__law_of_form rfl (by first | exact Or.inl rfl | exact Or.inr rfl) (by first | exact Or.inr rfl | exact Or.inl rfl)) (egs_cons (eg_name nd__law_of_form rfl (by first | exact Or.inl rfl | exact Or.inr rfl) (by first | exact Or.inr rfl | exact Or.inl rfl)) egs_nil rfl) rfl) (fun t ht => pg_tup rfl ht)) (ess_one (zExprD (ev_extend (pv 8) (zCons (ev_if (zCmpT (op_eqD (hu64 hr)) opv_eq (zN (pv 7)) (zN (pv 2)) rfl) (zO (eo_lc (own := [("some", 10)]) rfl nd__law_of_form (zSeq (zN (pv 3))) k__law_of_form_1 (by decide) (fun _ _ _ _ _ => (eg_name nd__law_of_form rfl (by first | exact Or.inl rfl | exact Or.inr rfl) (by first | exact Or.inr rfl | exact Or.inl rfl))) (fun _ _ _ _ _ => ets_nil) (fun _ _ _ _ _ => (zTup (zCons (zN (pv 9)) (zCons (zN (pv 10)) zNil rfl) rfl))) (fun _ => rfl))) (zO (zLst zNil))) zNil rfl) rfl rfl rfl rfl rfl) rfl)) (passes_of rfl) rfl (by decide) (fun _ => rfl))
  (ess_one (zRetV (pv 8))))))))
/-! ### _law_changes -/
abbrev N__law_changes : List Str := ["one", "other", "found", "waiting", "first", "last"]
abbrev P__law_changes : List Str := ["one", "other"]
theorem nd__law_changes : N__law_changes.Nodup := by decide +kernel
theorem s__law_changes : FnScope N__law_changes P__law_changes (defScope (top 60)) := ⟨rfl, rfl, rfl, nd__law_changes, rfl, by decide +kernel, by decide +kernel⟩
noncomputable def p__law_changes : M Fl :=
  (seqM (parM [2, 3] (consO (toO (cD (.int 0))) (consO (lstM (consM (tupM (consM (getD 0) (consM (getD 1) nilM))) nilM)) nilO)))
  (seqM (whileU (cmpT gtB (lenN 3) (cD (.int 0))) (seqM (asgD (gTp 2 (gsCons (gNm 4) (gsCons (gNm 5) gsNil))) (popM 3))
  (seqM (iteM (cmpT neB (fnD lenG (consM (subN 4 (cD (.int 1))) nilM)) (fnD lenG (consM (subN 5 (cD (.int 1))) nilM))) (retD (cD .none)) nxM)
  (seqM (setD 2 (toD (bin addO (getD 2) (fnD intG (consM (cmpD neB (subN 4 (cD (.int 0))) (subN 5 (cD (.int 0)))) nilM)))))
  (exprD (extM 3 (consM (toD (lzM (consM (subN 4 (cD (.int 1))) (consM (subN 5 (cD (.int 1))) nilM)))) nilM)))))))
  (retV 2)))
noncomputable def g__law_changes : Fn := runM p__law_changes 6
theorem D__law_changes (Γ : Facts P w K mg base) : DefG P w K mg base (TT K) "_law_changes" 1 [] 2 g__law_changes := by
  obtain ⟨fd, F, hm⟩ := Γ.f__law_changes
  exact DefG.mk' F s__law_changes hm (fun _ _ _ _ _ _ us hl => match us, hl with | [u0, u1], _ => rfl) rfl rfl fun cdv A outer s H E hr tk =>
  (ess_cons (es_par (by decide) rfl nd__law_changes rfl rfl (by decide) rfl rfl (eao_cons (zD zInt) (eao_cons (zLst (zCons (zTup (zCons (zN (pv 0)) (zCons (zN (pv 1)) zNil rfl) rfl)) zNil rfl)) zNilO rfl) rfl) rfl rfl)
  (ess_cons (es_while (passes_of rfl) (zCmpT op_gt opv_cmpI (ev_lenN (b_len rfl Γ.n_len) (pv 3)) zInt rfl) (ess_cons (zAsg (ev_pop (pv 3) rfl rfl) (eg_tup rfl (egs_cons (eg_name nd__law_changes rfl (by first | exact Or.inl rfl | exact Or.inr rfl) (by first | exact Or.inr rfl | exact Or.inl rfl)) (egs_cons (eg_name nd__law_changes rfl (by first | exact Or.inl rfl | exact Or.inr rfl) (by first | exact Or.inr rfl | exact Or.inl rfl)) egs_nil rfl) rfl) (fun t ht => pg_tup rfl ht)) (by decide) rfl rfl rfl)
  (ess_cons (es_if (zCmpT (op_neD (hu64 hr)) opv_ne (zFnD (b_len rfl Γ.n_len) call_lenA cv_len (zCons (ev_subN (hu1 hr) (pv 4) zInt (fun _ _ => rfl)) zNil rfl) rfl rfl) (zFnD (b_len rfl Γ.n_len) call_lenA cv_len (zCons (ev_subN (hu1 hr) (pv 5) zInt (fun _ _ => rfl)) zNil rfl) rfl rfl) rfl) (ess_one (zRetD zNon)) ess_nil)
  (ess_cons (zSetD (zO (zBin opr_add opv_add (zN (pv 2)) (zTyD (b_int rfl Γ.n_int) call_int1 cv_int (zCons (zCmpD (op_neD (hu64 hr)) opv_ne (ev_subN (hu1 hr) (pv 4) zInt (fun _ _ => rfl)) (ev_subN (hu1 hr) (pv 5) zInt (fun _ _ => rfl)) rfl) zNil rfl) rfl rfl))) (by decide) nd__law_changes rfl (by first | exact Or.inl rfl | exact Or.inr rfl) rfl (by first | exact Or.inr rfl | exact Or.inl rfl))
  (ess_one (zExprD (ev_extend (pv 3) (zCons (zO (eo_listZip rfl (b_list rfl Γ.n_list) (b_zip rfl Γ.n_zip) (zCons (ev_subN (hu1 hr) (pv 4) zInt (fun _ _ => rfl)) (zCons (ev_subN (hu1 hr) (pv 5) zInt (fun _ _ => rfl)) zNil rfl) rfl) rfl rfl rfl)) zNil rfl) rfl rfl rfl rfl rfl) rfl))))))
  (ess_one (zRetV (pv 2)))))
/-! ### _law_mended -/
abbrev N__law_mended : List Str := ["book", "kind", "tree", "some", "one"]
abbrev P__law_mended : List Str := ["book", "kind", "tree"]
theorem nd__law_mended : N__law_mended.Nodup := by decide +kernel
theorem s__law_mended : FnScope N__law_mended P__law_mended (defScope (top 61)) := ⟨rfl, rfl, rfl, nd__law_mended, rfl, by decide +kernel, by decide +kernel⟩
theorem k__law_mended_0 : BlkOk N__law_mended (defScope (top 61)) ⟨.function, [(".0", .local), ("one", .local), ("_law_lot", .globalImplicit), ("_law_changes", .globalImplicit), ("book", .free), ("kind", .free), ("tree", .free)], false, false, []⟩ [("one", 4)] := ⟨rfl, by decide +kernel, by decide +kernel, by decide +kernel, by decide +kernel⟩
noncomputable def p__law_mended : M Fl :=
  (seqM (setO 3 (lcM [4] (seqI (toD (callM (g__law_of_form FU) 2 (consM (subN 0 (cD (.int 0))) (consM (getD 2) nilM))))) (gNm 4) (cmpT inB (getD 1) (toD (callM (g__law_lot FU) 2 (consM (getD 0) (consM (getD 4) nilM))))) (tupM (consM (toD (callM g__law_changes 2 (consM (getD 2) (consM (getD 4) nilM)))) (consM (getD 4) nilM)))))
  (retD (iteM (cmpT gtB (lenN 3) (cD (.int 0))) (fnD minG (consM (getD 3) nilM)) (cD .none))))
noncomputable def g__law_mended : Fn := runM p__law_mended 5
theorem D__law_mended (Γ : Facts P w K mg base) (D__law_changes : DefG P w K mg base (TT K) "_law_changes" 1 [] 2 g__law_changes) (D__law_lot : DefG P w K mg base (TT K) "_law_lot" 12 [] 2 (g__law_lot FU)) (D__law_of_form : DefG P w K mg base (TT K) "_law_of_form" 12 [] 2 (g__law_of_form FU)) : DefG P w K mg base (TT K) "_law_mended" 13 [] 3 g__law_mended := by
  obtain ⟨fd, F, hm⟩ := Γ.f__law_mended
  exact DefG.mk' F s__law_mended hm (fun _ _ _ _ _ _ us hl => match us, hl with | [u0, u1, u2], _ => rfl) rfl rfl fun cdv A outer s H E hr tk =>
  (ess_cons (es_setLc (own := [("one", 4)]) (by decide) rfl nd__law_mended rfl rfl rfl (zSeq (zO (eo_call (D__law_of_form.on hr (by decide) rfl (by decide)) tk (zCons (ev_subN (hu1 hr) (pv 0) zInt (fun _ _ => rfl)) (zCons (zN (pv 2)) zNil rfl) rfl) rfl rfl))) k__law_mended_0 (by decide) (fun _ _ _ _ _ => (eg_name nd__law_mended rfl (by first | exact Or.inl rfl | exact Or.inr rfl) (by first | exact Or.inr rfl | exact Or.inl rfl))) (fun _ _ _ _ _ => (ets_one (zCmpT (op_inA (hu1 hr)) opv_in (zN (pv 1)) (zO (eo_call (D__law_lot.on hr (by decide) rfl (by decide)) LamX.takes0 (zCons (zN (pv 0)) (zCons (zN (pv 4)) zNil rfl) rfl) rfl rfl)) rfl))) (fun _ _ _ _ _ => (zTup (zCons (zO (eo_call (D__law_changes.on hr (by decide) rfl (by decide)) LamX.takes0 (zCons (zN (pv 2)) (zCons (zN (pv 4)) zNil rfl) rfl) rfl rfl)) (zCons (zN (pv 4)) zNil rfl) rfl))) (fun _ => rfl))
  (ess_one (zRetD (ev_if (zCmpT op_gt opv_cmpI (ev_lenN (b_len rfl Γ.n_len) (pv 3)) zInt rfl) (zFnD (b_min rfl Γ.n_min) (call_minZ rfl (hu64 hr)) cv_min (zCons (zN (pv 3)) zNil rfl) rfl rfl) zNon))))
/-! ### _law_said -/
abbrev N__law_said : List Str := ["call", "found"]
abbrev P__law_said : List Str := ["call"]
theorem nd__law_said : N__law_said.Nodup := by decide +kernel
theorem s__law_said : FnScope N__law_said P__law_said (defScope (top 62)) := ⟨rfl, rfl, rfl, nd__law_said, rfl, by decide +kernel, by decide +kernel⟩
/-! ### _law_no_tree -/
abbrev N__law_no_tree : List Str := ["bag", "signature", "label", "rank", "full", "odd"]
abbrev P__law_no_tree : List Str := ["bag", "signature"]
theorem nd__law_no_tree : N__law_no_tree.Nodup := by decide +kernel
theorem s__law_no_tree : FnScope N__law_no_tree P__law_no_tree (defScope (top 63)) := ⟨rfl, rfl, rfl, nd__law_no_tree, rfl, by decide +kernel, by decide +kernel⟩
noncomputable def p__law_no_tree : M Fl :=
  (seqM (asgD (gTp 2 (gsCons (gNm 2) (gsCons (gNm 3) gsNil))) (subN 1 (cD (.int 0))))
  (seqM (setD 4 (tupM (consM (getD 2) (consM (toD (bin mulO (tupM (consM (tupM (consM (getD 2) (consM (tupM nilM) nilM))) nilM)) (getD 3))) nilM))))
  (seqM (setO 5 (lstM (consM (cD .none) (consM (tupM nilM) (consM (cD (.str "a")) (consM (getD 2) (consM (tupM (consM (getD 2) nilM)) (consM (toD (lstM (consM (getD 2) (consM (tupM nilM) nilM)))) (consM (tupM (consM (cD (.str "zz")) (consM (tupM nilM) nilM))) (consM (tupM (consM (getD 2) (consM (toD (lstM nilM)) nilM))) (consM (tupM (consM (getD 2) (consM (toD (bin mulO (tupM (consM (getD 4) nilM)) (toD (bin addO (getD 3) (cD (.int 1)))))) nilM))) (consM (cD (.int 0)) (consM (toD dicM) nilM)))))))))))))
  (retO (callN g__law_some 2 0 0 (lendM 0 (consM (toD (bin addO (getD 5) (toD (lstM (consM (tupM (consM (getD 2) (consM (toD (bin mulO (tupM (consM (tupM (consM (getD 2) (consM (tupM nilM) nilM))) nilM)) (toD (bin addO (getD 3) (cD (.int 3)))))) nilM))) (consM (tupM (consM (cD .none) (consM (tupM nilM) nilM))) (consM (tupM (consM (getD 2) (consM (toD (bin mulO (tupM (consM (cD .none) nilM)) (toD (bin addO (getD 3) (cD (.int 1)))))) nilM))) nilM))))))) nilM)))))))
noncomputable def g__law_no_tree : Fn := runM p__law_no_tree 6
theorem D__law_no_tree (Γ : Facts P w K mg base) (D__law_some : DefG P w K mg base (TT K) "_law_some" 2 [0] 2 g__law_some) : DefG P w K mg base (TT K) "_law_no_tree" 3 [0] 2 g__law_no_tree := by
  obtain ⟨fd, F, hm⟩ := Γ.f__law_no_tree
  exact DefG.mk' F s__law_no_tree hm (fun _ _ _ _ _ _ us hl => match us, hl with | [u0, u1], _ => rfl) rfl rfl fun cdv A outer s H E hr tk =>
  (ess_cons (zAsg (ev_subN (hu1 hr) (pv 1) zInt (fun _ _ => rfl)) (eg_tup rfl (egs_cons (eg_name nd__law_no_tree rfl (by first | exact Or.inl rfl | exact Or.inr rfl) (by first | exact Or.inr rfl | exact Or.inl rfl)) (egs_cons (eg_name nd__law_no_tree rfl (by first | exact Or.inl rfl | exact Or.inr rfl) (by first | exact Or.inr rfl | exact Or.inl rfl)) egs_nil rfl) rfl) (fun t ht => pg_tup rfl ht)) (by decide) rfl rfl rfl)
  (ess_cons (zSetD (zTup (zCons (zN (pv 2)) (zCons (zO (zBin opr_mul opv_mul (zTup (zCons (zTup (zCons (zN (pv 2)) (zCons (zTup zNil) zNil rfl) rfl)) zNil rfl)) (zN (pv 3)))) zNil rfl) rfl)) (by decide) nd__law_no_tree rfl (by first | exact Or.inl rfl | exact Or.inr rfl) rfl (by first | exact Or.inr rfl | exact Or.inl rfl))
  (ess_cons (zSet (zLst (zCons zNon (zCons (zTup zNil) (zCons zStr (zCons (zN (pv 2)) (zCons (zTup (zCons (zN (pv 2)) zNil rfl)) (zCons (zO (zLst (zCons (zN (pv 2)) (zCons (zTup zNil) zNil rfl) rfl))) (zCons (zTup (zCons zStr (zCons (zTup zNil) zNil rfl) rfl)) (zCons (zTup (zCons (zN (pv 2)) (zCons (zO (zLst zNil)) zNil rfl) rfl)) (zCons (zTup (zCons (zN (pv 2)) (zCons (zO (zBin opr_mul opv_mul (zTup (zCons (zN (pv 4)) zNil rfl)) (zO (zBin opr_add opv_add (zN (pv 3)) zInt)))) zNil rfl) rfl)) (zCons zInt (zCons (zO zDic) zNil rfl) rfl) rfl) rfl) rfl) rfl) rfl) rfl) rfl) rfl) rfl)) (by decide) nd__law_no_tree rfl (by first | exact Or.inl rfl | exact Or.inr rfl) rfl (by first | exact Or.inr rfl | exact Or.inl rfl))
  (ess_one (zRet (eo_callN (D__law_some.on hr (by decide) rfl (by decide)) tk (el_here (pv 0) (zCons (zO (zBin opr_add opv_add (zN (pv 5)) (zO (zLst (zCons (zTup (zCons (zN (pv 2)) (zCons (zO (zBin opr_mul opv_mul (zTup (zCons (zTup (zCons (zN (pv 2)) (zCons (zTup zNil) zNil rfl) rfl)) zNil rfl)) (zO (zBin opr_add opv_add (zN (pv 3)) zInt)))) zNil rfl) rfl)) (zCons (zTup (zCons zNon (zCons (zTup zNil) zNil rfl) rfl)) (zCons (zTup (zCons (zN (pv 2)) (zCons (zO (zBin opr_mul opv_mul (zTup (zCons zNon zNil rfl)) (zO (zBin opr_add opv_add (zN (pv 3)) zInt)))) zNil rfl) rfl)) zNil rfl) rfl) rfl))))) zNil rfl) rfl) rfl rfl))))))
/-! ### _law_no_book -/
abbrev N__law_no_book : List Str := ["bag", "book", "signature", "many", "rules", "odd", "label", "rank"]
abbrev P__law_no_book : List Str := ["bag", "book"]
theorem nd__law_no_book : N__law_no_book.Nodup := by decide +kernel
theorem s__law_no_book : FnScope N__law_no_book P__law_no_book (defScope (top 64)) := ⟨rfl, rfl, rfl, nd__law_no_book, rfl, by decide +kernel, by decide +kernel⟩
noncomputable def p__law_no_book : M Fl :=
  (seqM (asgD (gTp 3 (gsCons (gNm 2) (gsCons (gNm 3) (gsCons (gNm 4) gsNil)))) (getD 1))
  (seqM (setO 5 (lstM (consM (cD .none) (consM (tupM nilM) (consM (tupM (consM (getD 2) (consM (getD 3) nilM))) (consM (toD (lstM (consM (getD 2) (consM (getD 3) (consM (getD 4) nilM))))) (consM (tupM (consM (getD 2) (consM (cD (.int 0)) (consM (tupM nilM) nilM)))) (consM (tupM (consM (getD 2) (consM (cD (.int 201)) (consM (tupM nilM) nilM)))) (consM (cD (.str "book")) nilM)))))))))
  (seqM (setO 5 (bin addO (getD 5) (toD (lstM (consM (tupM (consM (getD 2) (consM (cD (.bool true)) (consM (tupM nilM) nilM)))) (consM (tupM (consM (getD 2) (consM (getD 3) (consM (toD (fnO listG (consM (getD 4) nilM))) nilM)))) (consM (tupM (consM (getD 2) (consM (getD 3) (consM (tupM (consM (tupM (consM (cD (.int 0)) (consM (cD (.str "zz")) (consM (tupM nilM) nilM)))) nilM)) nilM)))) nilM)))))))
  (seqM (asgD (gTp 2 (gsCons (gNm 6) (gsCons (gNm 7) gsNil))) (subN 2 (cD (.int 0))))
  (seqM (setO 5 (bin addO (getD 5) (toD (lstM (consM (tupM (consM (getD 2) (consM (cD (.int 1)) (consM (tupM (consM (tupM (consM (cD (.int 1)) (consM (getD 6) (consM (toD (bin mulO (tupM (consM (cD (.int 0)) nilM)) (getD 7))) nilM)))) nilM)) nilM)))) (consM (tupM (consM (getD 2) (consM (cD (.int 1)) (consM (tupM (consM (tupM (consM (cD (.int 0)) (consM (getD 6) (consM (toD (bin mulO (tupM (consM (cD (.int 0)) nilM)) (toD (bin addO (getD 7) (cD (.int 1)))))) nilM)))) nilM)) nilM)))) nilM))))))
  (seqM (setO 5 (bin addO (getD 5) (toD (lstM (consM (tupM (consM (tupM nilM) (consM (getD 3) (consM (tupM nilM) nilM)))) (consM (tupM (consM (getD 2) (consM (cD (.int 1)) (consM (tupM (consM (cD .none) nilM)) nilM)))) nilM))))))
  (retO (callN g__law_some 2 0 0 (lendM 0 (consM (toD (bin addO (getD 5) (toD (lstM (consM (tupM (consM (getD 2) (consM (cD (.int 1)) (consM (toD (bin mulO (tupM (consM (tupM (consM (cD (.int 0)) (consM (getD 6) (consM (toD (bin mulO (tupM (consM (cD (.int 0)) nilM)) (getD 7))) nilM)))) nilM)) (cD (.int 2)))) nilM)))) nilM))))) nilM))))))))))
noncomputable def g__law_no_book : Fn := runM p__law_no_book 8
theorem D__law_no_book (Γ : Facts P w K mg base) (D__law_some : DefG P w K mg base (TT K) "_law_some" 2 [0] 2 g__law_some) : DefG P w K mg base (TT K) "_law_no_book" 3 [0] 2 g__law_no_book := by
  obtain ⟨fd, F, hm⟩ := Γ.f__law_no_book
  exact DefG.mk' F s__law_no_book hm (fun _ _ _ _ _ _ us hl => match us, hl with | [u0, u1], _ => rfl) rfl rfl fun cdv A outer s H E hr tk =>
  (ess_cons (zAsg (zN (pv 1)) (eg_tup rfl (egs_cons (eg_name nd__law_no_book rfl (by first | exact Or.inl rfl | exact Or.inr rfl) (by first | exact Or.inr rfl | exact Or.inl rfl)) (egs_cons (eg_name nd__law_no_book rfl (by first | exact Or.inl rfl | exact Or.inr rfl) (by first | exact Or.inr rfl | exact Or.inl rfl)) (egs_cons (eg_name nd__law_no_book rfl (by first | exact Or.inl rfl | exact Or.inr rfl) (by first | exact Or.inr rfl | exact Or.inl rfl)) egs_nil rfl) rfl) rfl) (fun t ht => pg_tup rfl ht)) (by decide) rfl rfl rfl)
  (ess_cons (zSet (zLst (zCons zNon (zCons (zTup zNil) (zCons (zTup (zCons (zN (pv 2)) (zCons (zN (pv 3)) zNil rfl) rfl)) (zCons (zO (zLst (zCons (zN (pv 2)) (zCons (zN (pv 3)) (zCons (zN (pv 4)) zNil rfl) rfl) rfl))) (zCons (zTup (zCons (zN (pv 2)) (zCons zInt (zCons (zTup zNil) zNil rfl) rfl) rfl)) (zCons (zTup (zCons (zN (pv 2)) (zCons zInt (zCons (zTup zNil) zNil rfl) rfl) rfl)) (zCons zStr zNil rfl) rfl) rfl) rfl) rfl) rfl) rfl)) (by decide) nd__law_no_book rfl (by first | exact Or.inl rfl | exact Or.inr rfl) rfl (by first | exact Or.inr rfl | exact Or.inl rfl))
  (ess_cons (zSet (zBin opr_add opv_add (zN (pv 5)) (zO (zLst (zCons (zTup (zCons (zN (pv 2)) (zCons zBl (zCons (zTup zNil) zNil rfl) rfl) rfl)) (zCons (zTup (zCons (zN (pv 2)) (zCons (zN (pv 3)) (zCons (zO (zTyO (b_list rfl Γ.n_list) call_list_of cv_list (zCons (zN (pv 4)) zNil rfl) rfl rfl)) zNil rfl) rfl) rfl)) (zCons (zTup (zCons (zN (pv 2)) (zCons (zN (pv 3)) (zCons (zTup (zCons (zTup (zCons zInt (zCons zStr (zCons (zTup zNil) zNil rfl) rfl) rfl)) zNil rfl)) zNil rfl) rfl) rfl)) zNil rfl) rfl) rfl)))) (by decide) nd__law_no_book rfl (by first | exact Or.inl rfl | exact Or.inr rfl) rfl (by first | exact Or.inr rfl | exact Or.inl rfl))
  (ess_cons (zAsg (ev_subN (hu1 hr) (pv 2) zInt (fun _ _ => rfl)) (eg_tup rfl (egs_cons (eg_name nd__law_no_book rfl (by first | exact Or.inl rfl | exact Or.inr rfl) (by first | exact Or.inr rfl | exact Or.inl rfl)) (egs_cons (eg_name nd__law_no_book rfl (by first | exact Or.inl rfl | exact Or.inr rfl) (by first | exact Or.inr rfl | exact Or.inl rfl)) egs_nil rfl) rfl) (fun t ht => pg_tup rfl ht)) (by decide) rfl rfl rfl)
  (ess_cons (zSet (zBin opr_add opv_add (zN (pv 5)) (zO (zLst (zCons (zTup (zCons (zN (pv 2)) (zCons zInt (zCons (zTup (zCons (zTup (zCons zInt (zCons (zN (pv 6)) (zCons (zO (zBin opr_mul opv_mul (zTup (zCons zInt zNil rfl)) (zN (pv 7)))) zNil rfl) rfl) rfl)) zNil rfl)) zNil rfl) rfl) rfl)) (zCons (zTup (zCons (zN (pv 2)) (zCons zInt (zCons (zTup (zCons (zTup (zCons zInt (zCons (zN (pv 6)) (zCons (zO (zBin opr_mul opv_mul (zTup (zCons zInt zNil rfl)) (zO (zBin opr_add opv_add (zN (pv 7)) zInt)))) zNil rfl) rfl) rfl)) zNil rfl)) zNil rfl) rfl) rfl)) zNil rfl) rfl)))) (by decide) nd__law_no_book rfl (by first | exact Or.inl rfl | exact Or.inr rfl) rfl (by first | exact Or.inr rfl | exact Or.inl rfl))
  (ess_cons (zSet (zBin opr_add opv_add (zN (pv 5)) (zO (zLst (zCons (zTup (zCons (zTup zNil) (zCons (zN (pv 3)) (zCons (zTup zNil) zNil rfl) rfl) rfl)) (zCons (zTup (zCons (zN (pv 2)) (zCons zInt (zCons (zTup (zCons zNon zNil rfl)) zNil rfl) rfl) rfl)) zNil rfl) rfl)))) (by decide) nd__law_no_book rfl (by first | exact Or.inl rfl | exact Or.inr rfl) rfl (by first | exact Or.inr rfl | exact Or.inl rfl))
  (ess_one (zRet (eo_callN (D__law_some.on hr (by decide) rfl (by decide)) tk (el_here (pv 0) (zCons (zO (zBin opr_add opv_add (zN (pv 5)) (zO (zLst (zCons (zTup (zCons (zN (pv 2)) (zCons zInt (zCons (zO (zBin opr_mul opv_mul (zTup (zCons (zTup (zCons zInt (zCons (zN (pv 6)) (zCons (zO (zBin opr_mul opv_mul (zTup (zCons zInt zNil rfl)) (zN (pv 7)))) zNil rfl) rfl) rfl)) zNil rfl)) zInt)) zNil rfl) rfl) rfl)) zNil rfl))))) zNil rfl) rfl) rfl rfl)))))))))
/-! ### _law_is_kind_right -/
abbrev N__law_is_kind_right : List Str := ["book", "kind", "tree", "due", "told", "nearest", "one"]
abbrev P__law_is_kind_right : List Str := ["book", "kind", "tree"]
theorem nd__law_is_kind_right : N__law_is_kind_right.Nodup := by decide +kernel
theorem s__law_is_kind_right : FnScope N__law_is_kind_right P__law_is_kind_right (defScope (top 65)) := ⟨rfl, rfl, rfl, nd__law_is_kind_right, rfl, by decide +kernel, by decide +kernel⟩
theorem k__law_is_kind_right_0 : BlkOk N__law_is_kind_right (defScope (top 65)) ⟨.function, [(".0", .local), ("one", .local), ("_law_lot", .globalImplicit), ("book", .free), ("kind", .free)], false, false, []⟩ [("one", 6)] := ⟨rfl, by decide +kernel, by decide +kernel, by decide +kernel, by decide +kernel⟩
theorem k__law_is_kind_right_1 : BlkOk N__law_is_kind_right (defScope (top 65)) ⟨.function, [(".0", .local), ("one", .local), ("_law_changes", .globalImplicit), ("due", .free), ("tree", .free)], false, false, []⟩ [("one", 6)] := ⟨rfl, by decide +kernel, by decide +kernel, by decide +kernel, by decide +kernel⟩
noncomputable def p__law_is_kind_right : M Fl :=
  (seqM (parM [3, 4] (consO (callM g__law_mended 3 (consM (getD 0) (consM (getD 1) (consM (getD 2) nilM)))) (consO (callM g_mended 3 (consM (getD 0) (consM (getD 1) (consM (getD 2) nilM)))) nilO)))
  (seqM (iteM (cmpT isB (getD 3) (cD .none)) (retD (andD (cmpD isB (getD 4) (cD .none)) (cmpD isB (toD (callM g_is_of 3 (consM (getD 0) (consM (getD 1) (consM (getD 2) nilM))))) (cD (.bool false))))) nxM)
  (seqM (iteM (orM (cmpT neB (getD 4) (subN 3 (cD (.int 1)))) (orM (cmpT notB (toD (callM g_is_tree 2 (consM (subN 0 (cD (.int 0))) (consM (getD 4) nilM)))) (cD (.bool true))) (cmpT notB (toD (callM g_is_of 3 (consM (getD 0) (consM (getD 1) (consM (getD 4) nilM))))) (cD (.bool true))))) (retD (cD (.bool false))) nxM)
  (seqM (iteM (orM (cmpT neB (fnD reprG (consM (toD (callM g_changes_between 3 (consM (subN 0 (cD (.int 0))) (consM (getD 2) (consM (getD 4) nilM))))) nilM)) (fnD reprG (consM (subN 3 (cD (.int 0))) nilM))) (cmpT neB (toD (callM g_mended 3 (consM (getD 0) (consM (getD 1) (consM (getD 4) nilM))))) (getD 4))) (retD (cD (.bool false))) nxM)
  (seqM (iteM (orM (cmpT neB (cmpD eqB (getD 4) (getD 2)) (cmpD inB (getD 1) (toD (callM (g__law_lot FU) 2 (consM (getD 0) (consM (getD 2) nilM)))))) (cmpT neB (toD (callM g_kinds_of 2 (consM (getD 0) (consM (getD 4) nilM)))) (toD (callM (g__law_lot FU) 2 (consM (getD 0) (consM (getD 4) nilM)))))) (retD (cD (.bool false))) nxM)
  (seqM (setO 5 (lcM [6] (seqI (toD (callM (g__law_of_form FU) 2 (consM (subN 0 (cD (.int 0))) (consM (getD 2) nilM))))) (gNm 6) (cmpT inB (getD 1) (toD (callM (g__law_lot FU) 2 (consM (getD 0) (consM (getD 6) nilM))))) (getD 6)))
  (seqM (setO 5 (lcM [6] (seqI (getD 5)) (gNm 6) (cmpT eqB (toD (callM g__law_changes 2 (consM (getD 2) (consM (getD 6) nilM)))) (subN 3 (cD (.int 0)))) (getD 6)))
  (retD (cmpD eqB (toD (callM g_least_of 2 (consM (subN 0 (cD (.int 0))) (consM (fnD tupG (consM (getD 5) nilM)) nilM)))) (getD 4))))))))))
noncomputable def g__law_is_kind_right : Fn := runM p__law_is_kind_right 7
theorem D__law_is_kind_right (Γ : Facts P w K mg base) (D__law_changes : DefG P w K mg base (TT K) "_law_changes" 1 [] 2 g__law_changes) (D__law_lot : DefG P w K mg base (TT K) "_law_lot" 12 [] 2 (g__law_lot FU)) (D__law_mended : DefG P w K mg base (TT K) "_law_mended" 13 [] 3 g__law_mended) (D__law_of_form : DefG P w K mg base (TT K) "_law_of_form" 12 [] 2 (g__law_of_form FU)) (D_changes_between : DefG P w K mg base (TT K) "changes_between" 6 [] 3 g_changes_between) (D_is_of : DefG P w K mg base (TT K) "is_of" 6 [] 3 g_is_of) (D_is_tree : DefG P w K mg base (TT K) "is_tree" 5 [] 2 g_is_tree) (D_kinds_of : DefG P w K mg base (TT K) "kinds_of" 6 [] 2 g_kinds_of) (D_least_of : DefG P w K mg base (TT K) "least_of" 5 [] 2 g_least_of) (D_mended : DefG P w K mg base (TT K) "mended" 7 [] 3 g_mended) : DefG P w K mg base (TT K) "_law_is_kind_right" 14 [] 3 g__law_is_kind_right := by
  obtain ⟨fd, F, hm⟩ := Γ.f__law_is_kind_right
  exact DefG.mk' F s__law_is_kind_right hm (fun _ _ _ _ _ _ us hl => match us, hl with | [u0, u1, u2], _ => rfl) rfl rfl fun cdv A outer s H E hr tk =>
  (ess_cons (es_parC (by decide) (by decide) (ens_cons nd__law_is_kind_right rfl (by first | exact Or.inl rfl | exact Or.inr rfl) (by first | exact Or.inr rfl | exact Or.inl rfl) (ens_cons nd__law_is_kind_right rfl (by first | exact Or.inl rfl | exact Or.inr rfl) (by first | exact Or.inr rfl | exact Or.inl rfl) ens_nil rfl) rfl) (fun t ht => pg_tup rfl ht) (eao_cons (eo_call (D__law_mended.on hr (by decide) rfl (by decide)) tk (zCons (zN (pv 0)) (zCons (zN (pv 1)) (zCons (zN (pv 2)) zNil rfl) rfl) rfl) rfl rfl) (eao_cons (eo_call (D_mended.on hr (by decide) rfl (by decide)) tk (zCons (zN (pv 0)) (zCons (zN (pv 1)) (zCons (zN (pv 2)) zNil rfl) rfl) rfl) rfl rfl) zNilO rfl) rfl) rfl rfl rfl)
  (ess_cons (es_if (zCmpT op_isA opv_is (zN (pv 3)) zNon rfl) (ess_one (zRetD (ev_and (zCmpD op_isA opv_is (zN (pv 4)) zNon rfl) (ev_one (zCmpD op_isA opv_is (zO (eo_call (D_is_of.on hr (by decide) rfl (by decide)) tk (zCons (zN (pv 0)) (zCons (zN (pv 1)) (zCons (zN (pv 2)) zNil rfl) rfl) rfl) rfl rfl)) zBl rfl))))) ess_nil)
  (ess_cons (es_if (EvW.t (et_or (zCmpT (op_neD (hu64 hr)) opv_ne (zN (pv 4)) (ev_subN (hu1 hr) (pv 3) zInt (fun _ _ => rfl)) rfl) (et_or (zCmpT op_notA opv_isnot (zO (eo_call (D_is_tree.on hr (by decide) rfl (by decide)) tk (zCons (ev_subN (hu1 hr) (pv 0) zInt (fun _ _ => rfl)) (zCons (zN (pv 4)) zNil rfl) rfl) rfl rfl)) zBl rfl) (et_or1 (zCmpT op_notA opv_isnot (zO (eo_call (D_is_of.on hr (by decide) rfl (by decide)) tk (zCons (zN (pv 0)) (zCons (zN (pv 1)) (zCons (zN (pv 4)) zNil rfl) rfl) rfl) rfl rfl)) zBl rfl))))) (ess_one (zRetD zBl)) ess_nil)
  (ess_cons (es_if (EvW.t (et_or (zCmpT (op_neD (hu64 hr)) opv_ne (zFnD (b_repr rfl Γ.n_repr) SkE.call_repr_int cv_repr (zCons (zO (eo_call (D_changes_between.on hr (by decide) rfl (by decide)) tk (zCons (ev_subN (hu1 hr) (pv 0) zInt (fun _ _ => rfl)) (zCons (zN (pv 2)) (zCons (zN (pv 4)) zNil rfl) rfl) rfl) rfl rfl)) zNil rfl) rfl rfl) (zFnD (b_repr rfl Γ.n_repr) SkE.call_repr_int cv_repr (zCons (ev_subN (hu1 hr) (pv 3) zInt (fun _ _ => rfl)) zNil rfl) rfl rfl) rfl) (et_or1 (zCmpT (op_neD (hu64 hr)) opv_ne (zO (eo_call (D_mended.on hr (by decide) rfl (by decide)) tk (zCons (zN (pv 0)) (zCons (zN (pv 1)) (zCons (zN (pv 4)) zNil rfl) rfl) rfl) rfl rfl)) (zN (pv 4)) rfl)))) (ess_one (zRetD zBl)) ess_nil)
  (ess_cons (es_if (EvW.t (et_or (zCmpT (op_neD (hu64 hr)) opv_ne (zCmpD (op_eqD (hu64 hr)) opv_eq (zN (pv 4)) (zN (pv 2)) rfl) (zCmpD (op_inA (hu1 hr)) opv_in (zN (pv 1)) (zO (eo_call (D__law_lot.on hr (by decide) rfl (by decide)) tk (zCons (zN (pv 0)) (zCons (zN (pv 2)) zNil rfl) rfl) rfl rfl)) rfl) rfl) (et_or1 (zCmpT (op_neD (hu64 hr)) opv_ne (zO (eo_call (D_kinds_of.on hr (by decide) rfl (by decide)) tk (zCons (zN (pv 0)) (zCons (zN (pv 4)) zNil rfl) rfl) rfl rfl)) (zO (eo_call (D__law_lot.on hr (by decide) rfl (by decide)) tk (zCons (zN (pv 0)) (zCons (zN (pv 4)) zNil rfl) rfl) rfl rfl)) rfl)))) (ess_one (zRetD zBl)) ess_nil)
  (ess_cons (es_setLc (own := [("one", 6)]) (by decide) rfl nd__law_is_kind_right rfl rfl rfl (zSeq (zO (eo_call (D__law_of_form.on hr (by decide) rfl (by decide)) tk (zCons (ev_subN (hu1 hr) (pv 0) zInt (fun _ _ => rfl)) (zCons (zN (pv 2)) zNil rfl) rfl) rfl rfl))) k__law_is_kind_right_0 (by decide) (fun _ _ _ _ _ => (eg_name nd__law_is_kind_right rfl (by first | exact Or.inl rfl | exact Or.inr rfl) (by first | exact Or.inr rfl | exact Or.inl rfl))) (fun _ _ _ _ _ => (ets_one (zCmpT (op_inA (hu1 hr)) opv_in (zN (pv 1)) (zO (eo_call (D__law_lot.on hr (by decide) rfl (by decide)) LamX.takes0 (zCons (zN (pv 0)) (zCons (zN (pv 6)) zNil rfl) rfl) rfl rfl)) rfl))) (fun _ _ _ _ _ => (zN (pv 6))) (fun _ => rfl))
  (ess_cons (es_setLc (own := [("one", 6)]) (by decide) rfl nd__law_is_kind_right rfl rfl rfl (zSeq (zN (pv 5))) k__law_is_kind_right_1 (by decide) (fun _ _ _ _ _ => (eg_name nd__law_is_kind_right rfl (by first | exact Or.inl rfl | exact Or.inr rfl) (by first | exact Or.inr rfl | exact Or.inl rfl))) (fun _ _ _ _ _ => (ets_one (zCmpT (op_eqD (hu64 hr)) opv_eq (zO (eo_call (D__law_changes.on hr (by decide) rfl (by decide)) LamX.takes0 (zCons (zN (pv 2)) (zCons (zN (pv 6)) zNil rfl) rfl) rfl rfl)) (ev_subN (hu1 hr) (pv 3) zInt (fun _ _ => rfl)) rfl))) (fun _ _ _ _ _ => (zN (pv 6))) (fun _ => rfl))
  (ess_one (zRetD (zCmpD (op_eqD (hu64 hr)) opv_eq (zO (eo_call (D_least_of.on hr (by decide) rfl (by decide)) tk (zCons (ev_subN (hu1 hr) (pv 0) zInt (fun _ _ => rfl)) (zCons (zTyD (b_tuple rfl Γ.n_tuple) call_tupZ cv_tup (zCons (zN (pv 5)) zNil rfl) rfl rfl) zNil rfl) rfl) rfl rfl)) (zN (pv 4)) rfl))))))))))
/-! ### _law_are_refused -/
abbrev N__law_are_refused : List Str := ["bag", "book", "tree", "said", "kind", "none", "odd"]
abbrev P__law_are_refused : List Str := ["bag", "book", "tree"]
theorem nd__law_are_refused : N__law_are_refused.Nodup := by decide +kernel
theorem s__law_are_refused : FnScope N__law_are_refused P__law_are_refused (defScope (top 66)) := ⟨rfl, rfl, rfl, nd__law_are_refused, rfl, by decide +kernel, by decide +kernel⟩
theorem l__law_are_refused_0 : LamX.LamS (defScope (top 66)) ⟨.function, [("kind", .free), ("none", .free), ("odd", .free), ("mended", .globalImplicit)], false, false, []⟩ := LamX.lamS_by (by decide +kernel)
theorem l__law_are_refused_1 : LamX.LamS (defScope (top 66)) ⟨.function, [("book", .free), ("kind", .free), ("odd", .free), ("mended", .globalImplicit)], false, false, []⟩ := LamX.lamS_by (by decide +kernel)
theorem l__law_are_refused_2 : LamX.LamS (defScope (top 66)) ⟨.function, [("book", .free), ("odd", .free), ("mended", .globalImplicit)], false, false, []⟩ := LamX.lamS_by (by decide +kernel)
noncomputable def p__law_are_refused : M Fl :=
  (seqM (parM [5, 6] (consO (callN g__law_no_book 2 0 0 (lendM 0 (consM (getD 1) nilM))) (consO (callN g__law_no_tree 2 0 0 (lendM 0 (consM (subN 1 (cD (.int 0))) nilM))) nilO)))
  (seqM (setO 4 (callN g__law_some 2 0 0 (lendM 0 (consM (toD (lstM (consM (cD .none) (consM (negM (cD (.int 1))) (consM (subN 1 (cD (.int 1))) (consM (cD (.bool true)) (consM (cD (.str "0")) (consM (tupM (consM (cD (.int 0)) nilM)) nilM)))))))) nilM))))
  (seqM (setO 3 (lstM (consM (saidM (emOf emL) [("NoBook", "book"), ("NoKind", "kind"), ("NoTree", "tree"), ("ShapeError", "other")] "told" (callM g_mended 3 (consM (getD 5) (consM (getD 4) (consM (getD 6) nilM))))) nilM)))
  (seqM (exprD (appM 3 (consM (saidM (emOf emL) [("NoBook", "book"), ("NoKind", "kind"), ("NoTree", "tree"), ("ShapeError", "other")] "told" (callM g_mended 3 (consM (getD 1) (consM (getD 4) (consM (getD 6) nilM))))) nilM)))
  (seqM (exprD (appM 3 (consM (saidM (emOf emL) [("NoBook", "book"), ("NoKind", "kind"), ("NoTree", "tree"), ("ShapeError", "other")] "told" (callM g_mended 3 (consM (getD 1) (consM (cD (.int 0)) (consM (getD 6) nilM))))) nilM)))
  (retD (cmpD eqB (getD 3) (toD (lstM (consM (cD (.str "book")) (consM (cD (.str "kind")) (consM (cD (.str "tree")) nilM))))))))))))
noncomputable def g__law_are_refused : Fn := runM p__law_are_refused 7
theorem D__law_are_refused (Γ : Facts P w K mg base) (D__law_no_book : DefG P w K mg base (TT K) "_law_no_book" 3 [0] 2 g__law_no_book) (D__law_no_tree : DefG P w K mg base (TT K) "_law_no_tree" 3 [0] 2 g__law_no_tree) (D__law_some : DefG P w K mg base (TT K) "_law_some" 2 [0] 2 g__law_some) (D_mended : DefG P w K mg base (TT K) "mended" 7 [] 3 g_mended) : DefG P w K mg base (TT K) "_law_are_refused" 10 [0] 3 g__law_are_refused := by
  obtain ⟨fd, F, hm⟩ := Γ.f__law_are_refused
  exact DefG.mkL F rfl s__law_are_refused hm (fun _ _ _ _ _ _ us hl => match us, hl with | [u0, u1, u2], _ => rfl) rfl rfl fun A outer s H E hr tk =>
  (ess_cons (es_parC (by decide) (by decide) (ens_cons nd__law_are_refused rfl (by first | exact Or.inl rfl | exact Or.inr rfl) (by first | exact Or.inr rfl | exact Or.inl rfl) (ens_cons nd__law_are_refused rfl (by first | exact Or.inl rfl | exact Or.inr rfl) (by first | exact Or.inr rfl | exact Or.inl rfl) ens_nil rfl) rfl) (fun t ht => pg_tup rfl ht) (eao_cons (eo_callN (D__law_no_book.on hr (by decide) rfl (by decide)) tk (el_here (pv 0) (zCons (zN (pv 1)) zNil rfl) rfl) rfl rfl) (eao_cons (eo_callN (D__law_no_tree.on hr (by decide) rfl (by decide)) tk (el_here (pv 0) (zCons (ev_subN (hu1 hr) (pv 1) zInt (fun _ _ => rfl)) zNil rfl) rfl) rfl rfl) zNilO rfl) rfl) rfl rfl rfl)
  (ess_cons (zSet (eo_callN (D__law_some.on hr (by decide) rfl (by decide)) tk (el_here (pv 0) (zCons (zO (zLst (zCons zNon (zCons (zNeg zInt) (zCons (ev_subN (hu1 hr) (pv 1) zInt (fun _ _ => rfl)) (zCons zBl (zCons zStr (zCons (zTup (zCons zInt zNil rfl)) zNil rfl) rfl) rfl) rfl) rfl) rfl))) zNil rfl) rfl) rfl rfl) (by decide) nd__law_are_refused rfl (by first | exact Or.inl rfl | exact Or.inr rfl) rfl (by first | exact Or.inr rfl | exact Or.inl rfl))
  (ess_cons (zSet (zLst (zCons (ev_saidF (x := "_law_said") (a := "call") (fo := "found") (told := "told") (qn := "_law_are_refused" ++ ".<locals>.") (hs := [("NoBook", "book"), ("NoKind", "kind"), ("NoTree", "tree"), ("ShapeError", "other")]) rfl Γ.f__law_said.choose_spec.1 Γ.f__law_said.choose_spec.2 s__law_said (fun _ _ _ _ _ _ us hl => match us, hl with | [_], _ => rfl) rfl rfl (Or.inl rfl) (by decide) (by decide) (by decide) (by decide)
    (fun cdv s H => (.cons ⟨rfl, by decide, .inl (Γ.m_NoBook)⟩ (fun _ _ _ _ _ _ _ => PSs.ofLen (pss_one (ps_set (i := 1) s__law_said.nd rfl (Or.inl rfl) pe_str rfl (Or.inr rfl)))) (.cons ⟨rfl, by decide, .inl (Γ.m_NoKind)⟩ (fun _ _ _ _ _ _ _ => PSs.ofLen (pss_one (ps_set (i := 1) s__law_said.nd rfl (Or.inl rfl) pe_str rfl (Or.inr rfl)))) (.cons ⟨rfl, by decide, .inl (Γ.m_NoTree)⟩ (fun _ _ _ _ _ _ _ => PSs.ofLen (pss_one (ps_set (i := 1) s__law_said.nd rfl (Or.inl rfl) pe_str rfl (Or.inr rfl)))) (.cons ⟨rfl, by decide, .inl (Γ.m_ShapeError)⟩ (fun _ _ _ _ _ _ _ => PSs.ofLen (pss_one (ps_set (i := 1) s__law_said.nd rfl (Or.inl rfl) pe_str rfl (Or.inr rfl)))) .nil))))) Γ.tb__law_are_refused rfl rfl t__law_are_refused u__law_are_refused hr l__law_are_refused_0 rfl (fun _ _ _ _ _ => rfl) (by decide) (em_of Γ.em)
    (fun A outer s H E f c' hr => (eo_call (D_mended.on hr (by decide) rfl (by decide)) lam_tk (zCons (zN (pv 5)) (zCons (zN (pv 4)) (zCons (zN (pv 6)) zNil rfl) rfl) rfl) rfl rfl))) zNil rfl)) (by decide) nd__law_are_refused rfl (by first | exact Or.inl rfl | exact Or.inr rfl) rfl (by first | exact Or.inr rfl | exact Or.inl rfl))
  (ess_cons (zExprD (ev_append (pv 3) (zCons (ev_saidF (x := "_law_said") (a := "call") (fo := "found") (told := "told") (qn := "_law_are_refused" ++ ".<locals>.") (hs := [("NoBook", "book"), ("NoKind", "kind"), ("NoTree", "tree"), ("ShapeError", "other")]) rfl Γ.f__law_said.choose_spec.1 Γ.f__law_said.choose_spec.2 s__law_said (fun _ _ _ _ _ _ us hl => match us, hl with | [_], _ => rfl) rfl rfl (Or.inl rfl) (by decide) (by decide) (by decide) (by decide)
    (fun cdv s H => (.cons ⟨rfl, by decide, .inl (Γ.m_NoBook)⟩ (fun _ _ _ _ _ _ _ => PSs.ofLen (pss_one (ps_set (i := 1) s__law_said.nd rfl (Or.inl rfl) pe_str rfl (Or.inr rfl)))) (.cons ⟨rfl, by decide, .inl (Γ.m_NoKind)⟩ (fun _ _ _ _ _ _ _ => PSs.ofLen (pss_one (ps_set (i := 1) s__law_said.nd rfl (Or.inl rfl) pe_str rfl (Or.inr rfl)))) (.cons ⟨rfl, by decide, .inl (Γ.m_NoTree)⟩ (fun _ _ _ _ _ _ _ => PSs.ofLen (pss_one (ps_set (i := 1) s__law_said.nd rfl (Or.inl rfl) pe_str rfl (Or.inr rfl)))) (.cons ⟨rfl, by decide, .inl (Γ.m_ShapeError)⟩ (fun _ _ _ _ _ _ _ => PSs.ofLen (pss_one (ps_set (i := 1) s__law_said.nd rfl (Or.inl rfl) pe_str rfl (Or.inr rfl)))) .nil))))) Γ.tb__law_are_refused rfl rfl t__law_are_refused u__law_are_refused hr l__law_are_refused_1 rfl (fun _ _ _ _ _ => rfl) (by decide) (em_of Γ.em)
    (fun A outer s H E f c' hr => (eo_call (D_mended.on hr (by decide) rfl (by decide)) lam_tk (zCons (zN (pv 1)) (zCons (zN (pv 4)) (zCons (zN (pv 6)) zNil rfl) rfl) rfl) rfl rfl))) zNil rfl) rfl rfl rfl rfl rfl) rfl)
  (ess_cons (zExprD (ev_append (pv 3) (zCons (ev_saidF (x := "_law_said") (a := "call") (fo := "found") (told := "told") (qn := "_law_are_refused" ++ ".<locals>.") (hs := [("NoBook", "book"), ("NoKind", "kind"), ("NoTree", "tree"), ("ShapeError", "other")]) rfl Γ.f__law_said.choose_spec.1 Γ.f__law_said.choose_spec.2 s__law_said (fun _ _ _ _ _ _ us hl => match us, hl with | [_], _ => rfl) rfl rfl (Or.inl rfl) (by decide) (by decide) (by decide) (by decide)
    (fun cdv s H => (.cons ⟨rfl, by decide, .inl (Γ.m_NoBook)⟩ (fun _ _ _ _ _ _ _ => PSs.ofLen (pss_one (ps_set (i := 1) s__law_said.nd rfl (Or.inl rfl) pe_str rfl (Or.inr rfl)))) (.cons ⟨rfl, by decide, .inl (Γ.m_NoKind)⟩ (fun _ _ _ _ _ _ _ => PSs.ofLen (pss_one (ps_set (i := 1) s__law_said.nd rfl (Or.inl rfl) pe_str rfl (Or.inr rfl)))) (.cons ⟨rfl, by decide, .inl (Γ.m_NoTree)⟩ (fun _ _ _ _ _ _ _ => PSs.ofLen (pss_one (ps_set (i := 1) s__law_said.nd rfl (Or.inl rfl) pe_str rfl (Or.inr rfl)))) (.cons ⟨rfl, by decide, .inl (Γ.m_ShapeError)⟩ (fun _ _ _ _ _ _ _ => PSs.ofLen (pss_one (ps_set (i := 1) s__law_said.nd rfl (Or.inl rfl) pe_str rfl (Or.inr rfl)))) .nil))))) Γ.tb__law_are_refused rfl rfl t__law_are_refused u__law_are_refused hr l__law_are_refused_2 rfl (fun _ _ _ _ _ => rfl) (by decide) (em_of Γ.em)
    (fun A outer s H E f c' hr => (eo_call (D_mended.on hr (by decide) rfl (by decide)) lam_tk (zCons (zN (pv 1)) (zCons zInt (zCons (zN (pv 6)) zNil rfl) rfl) rfl) rfl rfl))) zNil rfl) rfl rfl rfl rfl rfl) rfl)
  (ess_one (zRetD (zCmpD (op_eqD (hu64 hr)) opv_eq (zN (pv 3)) (zO (zLst (zCons zStr (zCons zStr (zCons zStr zNil rfl) rfl) rfl))) rfl))))))))
/-! ### law -/
abbrev N_law : List Str := ["script", "bag", "signature", "book", "both", "lap", "tree", "kind"]
abbrev P_law : List Str := ["script"]
theorem nd_law : N_law.Nodup := by decide +kernel
theorem s_law : FnScope N_law P_law (defScope (top 67)) := ⟨rfl, rfl, rfl, nd_law, rfl, by decide +kernel, by decide +kernel⟩
noncomputable def p_law : M Fl :=
  (seqM (setO 1 (callN g__law_bag 1 0 0 (lendM 0 nilM)))
  (seqM (setD 2 (tupM (consM (tupM (consM (cD (.str "a")) (consM (cD (.int 0)) nilM))) (consM (tupM (consM (cD (.str "b")) (consM (cD (.int 0)) nilM))) (consM (tupM (consM (cD (.str "g")) (consM (cD (.int 2)) nilM))) nilM)))))
  (seqM (setD 3 (tupM (consM (getD 2) (consM (cD (.int 2)) (consM (tupM (consM (tupM (consM (cD (.int 0)) (consM (cD (.str "a")) (consM (tupM nilM) nilM)))) (consM (tupM (consM (cD (.int 0)) (consM (cD (.str "b")) (consM (tupM nilM) nilM)))) (consM (tupM (consM (cD (.int 1)) (consM (cD (.str "g")) (consM (tupM (consM (cD (.int 0)) (consM (cD (.int 0)) nilM))) nilM)))) (consM (tupM (consM (cD (.int 1)) (consM (cD (.str "g")) (consM (tupM (consM (cD (.int 1)) (consM (cD (.int 0)) nilM))) nilM)))) nilM))))) nilM)))))
  (seqM (setD 4 (tupM (consM (cD (.str "g")) (consM (tupM (consM (tupM (consM (cD (.str "b")) (consM (tupM nilM) nilM))) (consM (tupM (consM (cD (.str "a")) (consM (tupM nilM) nilM))) nilM))) nilM))))
  (seqM (iteM (orM (cmpT neB (toD (callM g_mended 3 (consM (getD 3) (consM (cD (.int 1)) (consM (getD 4) nilM))))) (getD 4)) (cmpT notB (toD (callM g_mended 3 (consM (getD 3) (consM (cD (.int 1)) (consM (tupM (consM (cD (.str "a")) (consM (tupM nilM) nilM))) nilM))))) (cD .none))) (retD (cD (.bool false))) nxM)
  (seqM (iteM (cmpT neB (toD (callM g_mended 3 (consM (tupM (consM (getD 2) (consM (cD (.int 1)) (consM (tupM (consM (tupM (consM (cD (.int 0)) (consM (cD (.str "b")) (consM (tupM nilM) nilM)))) (consM (tupM (consM (cD (.int 0)) (consM (cD (.str "g")) (consM (tupM (consM (cD (.int 0)) (consM (cD (.int 0)) nilM))) nilM)))) nilM))) nilM)))) (consM (cD (.int 0)) (consM (getD 4) nilM))))) (tupM (consM (cD (.str "g")) (consM (tupM (consM (tupM (consM (cD (.str "b")) (consM (tupM nilM) nilM))) (consM (tupM (consM (cD (.str "b")) (consM (tupM nilM) nilM))) nilM))) nilM)))) (retD (cD (.bool false))) nxM)
  (seqM (forM' (gNm 5) (argI rng1 (consM (cD (.int 4)) nilM)) (seqM (setO 3 (callN g__law_book 2 0 1 (lendM 1 (consM (toD (callN g__law_signature 1 0 1 (lendM 1 nilM))) nilM))))
  (seqM (setO 6 (callN g__law_tree 3 0 1 (lendM 1 (consM (subN 3 (cD (.int 0))) (consM (cD (.int 5)) nilM)))))
  (seqM (forM' (gNm 7) (argI rng1 (consM (subN 3 (cD (.int 1))) nilM)) (iteM (notT (truT (toD (callM g__law_is_kind_right 3 (consM (getD 3) (consM (getD 7) (consM (getD 6) nilM))))))) (retD (cD (.bool false))) nxM))
  (iteM (notT (truT (toD (callN g__law_are_refused 3 0 1 (lendM 1 (consM (getD 3) (consM (getD 6) nilM))))))) (retD (cD (.bool false))) nxM)))))
  (retD (cD (.bool true))))))))))
noncomputable def g_law : Fn := runM p_law 8
theorem F_law (Γ : Facts P w K mg base) (D__law_are_refused : DefG P w K mg base (TT K) "_law_are_refused" 10 [0] 3 g__law_are_refused) (D__law_bag : DefG P w K mg base (TT K) "_law_bag" 1 [0] 1 g__law_bag) (D__law_book : DefG P w K mg base (TT K) "_law_book" 2 [0] 2 g__law_book) (D__law_is_kind_right : DefG P w K mg base (TT K) "_law_is_kind_right" 14 [] 3 g__law_is_kind_right) (D__law_signature : DefG P w K mg base (TT K) "_law_signature" 3 [0] 1 g__law_signature) (D__law_tree : DefG P w K mg base (TT K) "_law_tree" 3 [0] 3 g__law_tree) (D_mended : DefG P w K mg base (TT K) "mended" 7 [] 3 g_mended) {fd : FuncData} (F : FunD K "law" "law" (defArgs (top 67)) (defBody (top 67)) (defScope (top 67)) [] [] (He.ga K "law") fd) : FnOk P w K mg base (L2.CX P w) 15 (He.ga K "law") fd P_law (SpG K (TT K) [] 1 g_law) :=
  fnOk_of F s_law rfl rfl fun cdv A outer s H E hr tk =>
  (ess_cons (zSet (eo_callN (D__law_bag.on hr (by decide) rfl (by decide)) tk (el_here (pv 0) zNil rfl) rfl rfl) (by decide) nd_law rfl (by first | exact Or.inl rfl | exact Or.inr rfl) rfl (by first | exact Or.inr rfl | exact Or.inl rfl))
  (ess_cons (zSetD (zTup (zCons (zTup (zCons zStr (zCons zInt zNil rfl) rfl)) (zCons (zTup (zCons zStr (zCons zInt zNil rfl) rfl)) (zCons (zTup (zCons zStr (zCons zInt zNil rfl) rfl)) zNil rfl) rfl) rfl)) (by decide) nd_law rfl (by first | exact Or.inl rfl | exact Or.inr rfl) rfl (by first | exact Or.inr rfl | exact Or.inl rfl))
  (ess_cons (zSetD (zTup (zCons (zN (pv 2)) (zCons zInt (zCons (zTup (zCons (zTup (zCons zInt (zCons zStr (zCons (zTup zNil) zNil rfl) rfl) rfl)) (zCons (zTup (zCons zInt (zCons zStr (zCons (zTup zNil) zNil rfl) rfl) rfl)) (zCons (zTup (zCons zInt (zCons zStr (zCons (zTup (zCons zInt (zCons zInt zNil rfl) rfl)) zNil rfl) rfl) rfl)) (zCons (zTup (zCons zInt (zCons zStr (zCons (zTup (zCons zInt (zCons zInt zNil rfl) rfl)) zNil rfl) rfl) rfl)) zNil rfl) rfl) rfl) rfl)) zNil rfl) rfl) rfl)) (by decide) nd_law rfl (by first | exact Or.inl rfl | exact Or.inr rfl) rfl (by first | exact Or.inr rfl | exact Or.inl rfl))
  (ess_cons (zSetD (zTup (zCons zStr (zCons (zTup (zCons (zTup (zCons zStr (zCons (zTup zNil) zNil rfl) rfl)) (zCons (zTup (zCons zStr (zCons (zTup zNil) zNil rfl) rfl)) zNil rfl) rfl)) zNil rfl) rfl)) (by decide) nd_law rfl (by first | exact Or.inl rfl | exact Or.inr rfl) rfl (by first | exact Or.inr rfl | exact Or.inl rfl))
  (ess_cons (es_if (EvW.t (et_or (zCmpT (op_neD (hu64 hr)) opv_ne (zO (eo_call (D_mended.on hr (by decide) rfl (by decide)) tk (zCons (zN (pv 3)) (zCons zInt (zCons (zN (pv 4)) zNil rfl) rfl) rfl) rfl rfl)) (zN (pv 4)) rfl) (et_or1 (zCmpT op_notA opv_isnot (zO (eo_call (D_mended.on hr (by decide) rfl (by decide)) tk (zCons (zN (pv 3)) (zCons zInt (zCons (zTup (zCons zStr (zCons (zTup zNil) zNil rfl) rfl)) zNil rfl) rfl) rfl) rfl rfl)) zNon rfl)))) (ess_one (zRetD zBl)) ess_nil)
  (ess_cons (es_if (zCmpT (op_neD (hu64 hr)) opv_ne (zO (eo_call (D_mended.on hr (by decide) rfl (by decide)) tk (zCons (zTup (zCons (zN (pv 2)) (zCons zInt (zCons (zTup (zCons (zTup (zCons zInt (zCons zStr (zCons (zTup zNil) zNil rfl) rfl) rfl)) (zCons (zTup (zCons zInt (zCons zStr (zCons (zTup (zCons zInt (zCons zInt zNil rfl) rfl)) zNil rfl) rfl) rfl)) zNil rfl) rfl)) zNil rfl) rfl) rfl)) (zCons zInt (zCons (zN (pv 4)) zNil rfl) rfl) rfl) rfl rfl)) (zTup (zCons zStr (zCons (zTup (zCons (zTup (zCons zStr (zCons (zTup zNil) zNil rfl) rfl)) (zCons (zTup (zCons zStr (zCons (zTup zNil) zNil rfl) rfl)) zNil rfl) rfl)) zNil rfl) rfl)) rfl) (ess_one (zRetD zBl)) ess_nil)
  (ess_cons (zFor (ei_rng1 rfl Γ.n_range (zCons zInt zNil rfl) rfl) (eg_name nd_law rfl (by first | exact Or.inl rfl | exact Or.inr rfl) (by first | exact Or.inr rfl | exact Or.inl rfl)) (ess_cons (zSet (eo_callN (D__law_book.on hr (by decide) rfl (by decide)) tk (el_here (pv 1) (zCons (zO (eo_callN (D__law_signature.on hr (by decide) rfl (by decide)) tk (el_here (pv 1) zNil rfl) rfl rfl)) zNil rfl) rfl) rfl rfl) (by decide) nd_law rfl (by first | exact Or.inl rfl | exact Or.inr rfl) rfl (by first | exact Or.inr rfl | exact Or.inl rfl))
  (ess_cons (zSet (eo_callN (D__law_tree.on hr (by decide) rfl (by decide)) tk (el_here (pv 1) (zCons (ev_subN (hu1 hr) (pv 3) zInt (fun _ _ => rfl)) (zCons zInt zNil rfl) rfl) rfl) rfl rfl) (by decide) nd_law rfl (by first | exact Or.inl rfl | exact Or.inr rfl) rfl (by first | exact Or.inr rfl | exact Or.inl rfl))
  (ess_cons (zFor (ei_rng1 rfl Γ.n_range (zCons (ev_subN (hu1 hr) (pv 3) zInt (fun _ _ => rfl)) zNil rfl) rfl) (eg_name nd_law rfl (by first | exact Or.inl rfl | exact Or.inr rfl) (by first | exact Or.inr rfl | exact Or.inl rfl)) (ess_one (es_if (zNotT (zTru (zO (eo_call (D__law_is_kind_right.on hr (by decide) rfl (by decide)) tk (zCons (zN (pv 3)) (zCons (zN (pv 7)) (zCons (zN (pv 6)) zNil rfl) rfl) rfl) rfl rfl)) (fun _ => rfl))) (ess_one (zRetD zBl)) ess_nil)) (passes_of rfl) rfl (by decide) (fun _ => rfl))
  (ess_one (es_if (zNotT (zTru (zO (eo_callN (D__law_are_refused.on hr (by decide) rfl (by decide)) tk (el_here (pv 1) (zCons (zN (pv 3)) (zCons (zN (pv 6)) zNil rfl) rfl) rfl) rfl rfl)) (fun _ => rfl))) (ess_one (zRetD zBl)) ess_nil))))) (passes_of rfl) rfl (by decide) (fun _ => rfl))
  (ess_one (zRetD zBl)))))))))
/-! ### all of them -/
theorem all_ok (Γ : Facts P w K mg base) {fd : FuncData} (F : FunD K "law" "law" (defArgs (top 67)) (defBody (top 67)) (defScope (top 67)) [] [] (He.ga K "law") fd) : FnOk P w K mg base (L2.CX P w) 15 (He.ga K "law") fd P_law (SpG K (TT K) [] 1 g_law) := by
  have h_is_integer := D_is_integer (w := w) Γ 
  have h_is_within := D_is_within (w := w) Γ h_is_integer
  have h_is_name := D_is_name (w := w) Γ 
  have h_is_sized := D_is_sized (w := w) Γ 
  have h_are_rising := D_are_rising (w := w) Γ 
  have h_is_signature := D_is_signature (w := w) Γ h_are_rising h_is_name h_is_sized h_is_within
  have h_check_signature := D_check_signature (w := w) Γ h_is_signature
  have h_raw_is_tree := D_raw_is_tree (w := w) Γ h_is_sized
  have h_is_tree := D_is_tree (w := w) Γ h_check_signature h_raw_is_tree
  have h_check_tree := D_check_tree (w := w) Γ h_raw_is_tree
  have h_check_both := D_check_both (w := w) Γ h_check_signature h_check_tree
  have h_raw_nodes := D_raw_nodes (w := w) Γ 
  have h_raw_nodes_many := D_raw_nodes_many (w := w) Γ 
  have h_order_key := D_order_key (w := w) Γ h_raw_nodes_many
  have h_least_of := D_least_of (w := w) Γ h_check_signature h_check_tree h_order_key
  have h_is_rule := D_is_rule (w := w) Γ h_is_name h_is_sized h_is_within
  have h_is_book := D_is_book (w := w) Γ h_are_rising h_is_rule h_is_signature h_is_sized h_is_within
  have h_check_book := D_check_book (w := w) Γ h_is_book
  have h_check_kind := D_check_kind (w := w) Γ h_is_within
  have h_rules_by_label := D_rules_by_label (w := w) Γ 
  have h_step_of := D_step_of (w := w) Γ 
  have h_lots_in := D_lots_in (w := w) Γ h_raw_nodes h_rules_by_label h_step_of
  have h_raw_kinds_of := D_raw_kinds_of (w := w) Γ h_lots_in
  have h_kinds_of := D_kinds_of (w := w) Γ h_check_book h_check_tree h_raw_kinds_of
  have h_check_kind_tree := D_check_kind_tree (w := w) Γ h_check_book h_check_kind h_check_tree
  have h_is_tree_of := D_is_tree_of (w := w) Γ h_raw_is_tree h_raw_kinds_of
  have h_is_of := D_is_of (w := w) Γ h_check_book h_check_kind h_is_tree_of
  have h_raw_changes := D_raw_changes (w := w) Γ 
  have h_changes_between := D_changes_between (w := w) Γ h_check_both h_check_tree h_raw_changes
  have h_better_of := D_better_of (w := w) Γ 
  have h_mends_of := D_mends_of (w := w) Γ h_better_of
  have h_raw_mends := D_raw_mends (w := w) Γ h_mends_of h_raw_nodes
  have h_mended := D_mended (w := w) Γ h_check_kind_tree h_raw_mends
  have h__law_bag := D__law_bag (w := w) Γ 
  have h__law_pick := D__law_pick (w := w) Γ 
  have h__law_some := D__law_some (w := w) Γ h__law_pick
  have h__law_signature := D__law_signature (w := w) Γ h__law_some
  have h__law_choices := D__law_choices (w := w) Γ 
  have h__law_book := D__law_book (w := w) Γ h__law_choices h__law_pick
  have h__law_nodes := D__law_nodes (w := w) Γ 
  have h__law_tree := D__law_tree (w := w) Γ h__law_nodes h__law_pick h__law_some
  have h__law_lot := D__law_lot (w := w) Γ  FU
  have h__law_of_form := D__law_of_form (w := w) Γ  FU
  have h__law_changes := D__law_changes (w := w) Γ 
  have h__law_mended := D__law_mended (w := w) Γ h__law_changes h__law_lot h__law_of_form
  have h__law_no_tree := D__law_no_tree (w := w) Γ h__law_some
  have h__law_no_book := D__law_no_book (w := w) Γ h__law_some
  have h__law_is_kind_right := D__law_is_kind_right (w := w) Γ h__law_changes h__law_lot h__law_mended h__law_of_form h_changes_between h_is_of h_is_tree h_kinds_of h_least_of h_mended
  have h__law_are_refused := D__law_are_refused (w := w) Γ h__law_no_book h__law_no_tree h__law_some h_mended
  exact F_law Γ h__law_are_refused h__law_bag h__law_book h__law_is_kind_right h__law_signature h__law_tree h_mended F
def levLaw : Nat := 15
end Sh.Own
set_option Elab.async false
set_option linter.all false
set_option maxRecDepth 100000
set_option maxHeartbeats 0
namespace Sh.Own
open PySem PySem.Spec PyProof.Rows L2 Sh
def dd (i : Nat) (x : Str) : He.DefD := ⟨(x, none), x, x, defArgs (top i), defBody (top i), defScope (top i), [], []⟩
def dm (i : Nat) (x q : Str) : He.DefD := ⟨(x, some "__init__"), "__init__", q, defArgs (cMeth (top i) 0), defBody (cMeth (top i) 0), defScope (cMeth (top i) 0), [], []⟩
def faL0 : List He.Fa := [.glo "is_integer", .glo "is_within", .glo "is_name", .glo "is_sized", .glo "are_rising", .glo "is_signature", .glo "check_signature", .glo "raw_is_tree", .glo "is_tree", .glo "check_tree", .glo "check_both", .glo "raw_nodes", .glo "raw_nodes_many", .glo "order_key", .glo "least_of", .glo "is_rule", .glo "is_book", .glo "check_book", .glo "check_kind", .glo "rules_by_label", .glo "step_of", .glo "lots_in", .glo "raw_kinds_of", .glo "kinds_of", .glo "check_kind_tree", .glo "is_tree_of", .glo "is_of", .glo "raw_changes", .glo "changes_between", .glo "better_of"]
def faL1 : List He.Fa := [.glo "mends_of", .glo "raw_mends", .glo "mended", .glo "_law_bag", .glo "_law_pick", .glo "_law_some", .glo "_law_signature", .glo "_law_choices", .glo "_law_book", .glo "_law_nodes", .glo "_law_tree", .glo "_law_lot", .glo "_law_of_form", .glo "_law_changes", .glo "_law_mended", .glo "_law_said", .glo "_law_no_tree", .glo "_law_no_book", .glo "_law_is_kind_right", .glo "_law_are_refused", .glo "law", .free "abs", .free "all", .free "bool", .free "dict", .free "int", .free "isinstance", .free "len", .free "list", .free "min"]
def faL2 : List He.Fa := [.free "range", .free "repr", .free "sorted", .free "str", .free "sum", .free "tuple", .free "zip", .str "LETTERS" "abcdefghijklmnopqrstuvwxyz", .int "MOST_KINDS" 200, .int "MOST_LABELS" 10, .int "MOST_LETTERS" 8, .int "MOST_RANK" 2, .int "MOST_RULES" 2000, .glo "NoBook", .glo "NoKind", .glo "NoSignature", .glo "NoTree", .glo "ShapeError"]
def faL : List He.Fa := faL0 ++ faL1 ++ faL2
def fnL0 : List He.DefD := [dd 9 "is_integer", dd 10 "is_within", dd 11 "is_name", dd 12 "is_sized", dd 13 "are_rising", dd 17 "is_signature", dd 18 "check_signature", dd 19 "raw_is_tree", dd 20 "is_tree", dd 21 "check_tree", dd 22 "check_both", dd 23 "raw_nodes", dd 24 "raw_nodes_many", dd 25 "order_key", dd 26 "least_of", dd 30 "is_rule", dd 31 "is_book", dd 32 "check_book", dd 33 "check_kind", dd 34 "rules_by_label", dd 35 "step_of", dd 36 "lots_in", dd 37 "raw_kinds_of", dd 38 "kinds_of", dd 39 "check_kind_tree", dd 41 "is_tree_of", dd 40 "is_of", dd 43 "raw_changes", dd 44 "changes_between", dd 45 "better_of"]
def fnL1 : List He.DefD := [dd 46 "mends_of", dd 47 "raw_mends", dd 48 "mended", dd 50 "_law_bag", dd 51 "_law_pick", dd 52 "_law_some", dd 53 "_law_signature", dd 54 "_law_choices", dd 55 "_law_book", dd 56 "_law_nodes", dd 57 "_law_tree", dd 58 "_law_lot", dd 59 "_law_of_form", dd 60 "_law_changes", dd 61 "_law_mended", dd 62 "_law_said", dd 63 "_law_no_tree", dd 64 "_law_no_book", dd 65 "_law_is_kind_right", dd 66 "_law_are_refused", dd 67 "law", dm 2 "NoSignature" "NoSignature.__init__", dm 3 "NoTree" "NoTree.__init__", dm 4 "NoBook" "NoBook.__init__", dm 5 "NoKind" "NoKind.__init__"]
def fnL : List He.DefD := fnL0 ++ fnL1
def looseL0 : List PySem.Str := ["ShapeError", "NoSignature", "NoTree", "NoBook", "NoKind", "LETTERS", "MOST_LETTERS", "is_integer", "is_within", "is_name", "is_sized", "are_rising", "MOST_LABELS", "MOST_RANK", "is_signature", "check_signature", "raw_is_tree", "is_tree", "check_tree", "check_both", "raw_nodes", "raw_nodes_many", "order_key", "least_of", "MOST_KINDS", "MOST_RULES", "is_rule", "is_book", "check_book", "check_kind"]
def looseL1 : List PySem.Str := ["rules_by_label", "step_of", "lots_in", "raw_kinds_of", "kinds_of", "check_kind_tree", "is_of", "is_tree_of", "raw_changes", "changes_between", "better_of", "mends_of", "raw_mends", "mended", "_law_bag", "_law_pick", "_law_some", "_law_signature", "_law_choices", "_law_book", "_law_nodes", "_law_tree", "_law_lot", "_law_of_form", "_law_changes", "_law_mended", "_law_said", "_law_no_tree", "_law_no_book", "_law_is_kind_right"]
def looseL2 : List PySem.Str := ["_law_are_refused"]
def looseL : List PySem.Str := looseL0 ++ looseL1 ++ looseL2
def exK (K : PySem.W.Frag) : Bool := (exfB K "NoSignature" && (exfB K "NoTree" && (exfB K "NoBook" && (exfB K "NoKind" && (supB K "ShapeError" && emB K emL)))))
def tfL : List He.Defn := [("_law_are_refused", none)]
abbrev R : PySem.W.OpenRow := PySem.W.OpenLaw.row PySem.Challenge.rw_shaperoads_k75_whole_trees_mended_by_all
abbrev hk : PySem.W.Hook := hookZ 5 faL fnL tfL exK
def ob (s : PySem.W.SharedT) : He.AlX := obsZ 5 faL fnL tfL exK (HandSHeadRun.getT s)
theorem ob_eq (s : PySem.W.SharedT) : ob s = hk.obs s.abs := obsZ_eq (HandSHeadRun.getT_eq s)
theorem run (w : World) : HandSHeadRun.RunEq R (PySem.W.view R.prog [67]) hk ob 4000 looseL w := by
  intro os
  kernel_rfl
theorem facts_of {w : World} {K : PySem.W.Frag} {h : Heap} {mg : Str → Option Value} {P : Program} {base : Heap} (X : K.In h) (G : h.Ns mainGlobals mg) (c : He.SaysX faL fnL [] tfL exK w h K)
    (tb : LamX.TabB base mg (He.codeOf K ("_law_are_refused", none)) (cT K "_law_are_refused")) : Facts P w K mg base := by
  have d : He.SaysD faL fnL K := c.t.d
  have x := c.more
  unfold exK at x
  obtain ⟨x0, x⟩ := He.ba x
  obtain ⟨x1, x⟩ := He.ba x
  obtain ⟨x2, x⟩ := He.ba x
  obtain ⟨x3, x⟩ := He.ba x
  obtain ⟨x4, x⟩ := He.ba x
  constructor
  · exact He.free_ok X G (d.fact 51 (f := .free "abs") rfl)
  · exact He.free_ok X G (d.fact 52 (f := .free "all") rfl)
  · exact He.free_ok X G (d.fact 53 (f := .free "bool") rfl)
  · exact He.free_ok X G (d.fact 54 (f := .free "dict") rfl)
  · exact He.free_ok X G (d.fact 55 (f := .free "int") rfl)
  · exact He.free_ok X G (d.fact 56 (f := .free "isinstance") rfl)
  · exact He.free_ok X G (d.fact 57 (f := .free "len") rfl)
  · exact He.free_ok X G (d.fact 58 (f := .free "list") rfl)
  · exact He.free_ok X G (d.fact 59 (f := .free "min") rfl)
  · exact He.free_ok X G (d.fact 60 (f := .free "range") rfl)
  · exact He.free_ok X G (d.fact 61 (f := .free "repr") rfl)
  · exact He.free_ok X G (d.fact 62 (f := .free "sorted") rfl)
  · exact He.free_ok X G (d.fact 63 (f := .free "str") rfl)
  · exact He.free_ok X G (d.fact 64 (f := .free "sum") rfl)
  · exact He.free_ok X G (d.fact 65 (f := .free "tuple") rfl)
  · exact He.free_ok X G (d.fact 66 (f := .free "zip") rfl)
  · exact He.str_ok X G (d.fact 67 (f := .str "LETTERS" "abcdefghijklmnopqrstuvwxyz") rfl)
  · exact He.int_ok X G (d.fact 68 (f := .int "MOST_KINDS" 200) rfl)
  · exact He.int_ok X G (d.fact 69 (f := .int "MOST_LABELS" 10) rfl)
  · exact He.int_ok X G (d.fact 70 (f := .int "MOST_LETTERS" 8) rfl)
  · exact He.int_ok X G (d.fact 71 (f := .int "MOST_RANK" 2) rfl)
  · exact He.int_ok X G (d.fact 72 (f := .int "MOST_RULES" 2000) rfl)
  · exact He.glo_ok X G (d.fact 73 (f := .glo "NoBook") rfl)
  · exact He.glo_ok X G (d.fact 74 (f := .glo "NoKind") rfl)
  · exact He.glo_ok X G (d.fact 75 (f := .glo "NoSignature") rfl)
  · exact He.glo_ok X G (d.fact 76 (f := .glo "NoTree") rfl)
  · exact He.glo_ok X G (d.fact 77 (f := .glo "ShapeError") rfl)
  · exact supB_ok X G x4
  · exact ⟨exfB_ok X G x0, d.def_ 51 (d := dm 2 "NoSignature" "NoSignature.__init__") rfl⟩
  · exact ⟨exfB_ok X G x1, d.def_ 52 (d := dm 3 "NoTree" "NoTree.__init__") rfl⟩
  · exact ⟨exfB_ok X G x2, d.def_ 53 (d := dm 4 "NoBook" "NoBook.__init__") rfl⟩
  · exact ⟨exfB_ok X G x3, d.def_ 54 (d := dm 5 "NoKind" "NoKind.__init__") rfl⟩
  · obtain ⟨fd, F⟩ := d.def_ 0 (d := dd 9 "is_integer") rfl
    exact ⟨fd, F, He.glo_ok X G (d.fact 0 (f := .glo "is_integer") rfl)⟩
  · obtain ⟨fd, F⟩ := d.def_ 1 (d := dd 10 "is_within") rfl
    exact ⟨fd, F, He.glo_ok X G (d.fact 1 (f := .glo "is_within") rfl)⟩
  · obtain ⟨fd, F⟩ := d.def_ 2 (d := dd 11 "is_name") rfl
    exact ⟨fd, F, He.glo_ok X G (d.fact 2 (f := .glo "is_name") rfl)⟩
  · obtain ⟨fd, F⟩ := d.def_ 3 (d := dd 12 "is_sized") rfl
    exact ⟨fd, F, He.glo_ok X G (d.fact 3 (f := .glo "is_sized") rfl)⟩
  · obtain ⟨fd, F⟩ := d.def_ 4 (d := dd 13 "are_rising") rfl
    exact ⟨fd, F, He.glo_ok X G (d.fact 4 (f := .glo "are_rising") rfl)⟩
  · obtain ⟨fd, F⟩ := d.def_ 5 (d := dd 17 "is_signature") rfl
    exact ⟨fd, F, He.glo_ok X G (d.fact 5 (f := .glo "is_signature") rfl)⟩
  · obtain ⟨fd, F⟩ := d.def_ 6 (d := dd 18 "check_signature") rfl
    exact ⟨fd, F, He.glo_ok X G (d.fact 6 (f := .glo "check_signature") rfl)⟩
  · obtain ⟨fd, F⟩ := d.def_ 7 (d := dd 19 "raw_is_tree") rfl
    exact ⟨fd, F, He.glo_ok X G (d.fact 7 (f := .glo "raw_is_tree") rfl)⟩
  · obtain ⟨fd, F⟩ := d.def_ 8 (d := dd 20 "is_tree") rfl
    exact ⟨fd, F, He.glo_ok X G (d.fact 8 (f := .glo "is_tree") rfl)⟩
  · obtain ⟨fd, F⟩ := d.def_ 9 (d := dd 21 "check_tree") rfl
    exact ⟨fd, F, He.glo_ok X G (d.fact 9 (f := .glo "check_tree") rfl)⟩
  · obtain ⟨fd, F⟩ := d.def_ 10 (d := dd 22 "check_both") rfl
    exact ⟨fd, F, He.glo_ok X G (d.fact 10 (f := .glo "check_both") rfl)⟩
  · obtain ⟨fd, F⟩ := d.def_ 11 (d := dd 23 "raw_nodes") rfl
    exact ⟨fd, F, He.glo_ok X G (d.fact 11 (f := .glo "raw_nodes") rfl)⟩
  · obtain ⟨fd, F⟩ := d.def_ 12 (d := dd 24 "raw_nodes_many") rfl
    exact ⟨fd, F, He.glo_ok X G (d.fact 12 (f := .glo "raw_nodes_many") rfl)⟩
  · obtain ⟨fd, F⟩ := d.def_ 13 (d := dd 25 "order_key") rfl
    exact ⟨fd, F, He.glo_ok X G (d.fact 13 (f := .glo "order_key") rfl)⟩
  · obtain ⟨fd, F⟩ := d.def_ 14 (d := dd 26 "least_of") rfl
    exact ⟨fd, F, He.glo_ok X G (d.fact 14 (f := .glo "least_of") rfl)⟩
  · obtain ⟨fd, F⟩ := d.def_ 15 (d := dd 30 "is_rule") rfl
    exact ⟨fd, F, He.glo_ok X G (d.fact 15 (f := .glo "is_rule") rfl)⟩
  · obtain ⟨fd, F⟩ := d.def_ 16 (d := dd 31 "is_book") rfl
    exact ⟨fd, F, He.glo_ok X G (d.fact 16 (f := .glo "is_book") rfl)⟩
  · obtain ⟨fd, F⟩ := d.def_ 17 (d := dd 32 "check_book") rfl
    exact ⟨fd, F, He.glo_ok X G (d.fact 17 (f := .glo "check_book") rfl)⟩
  · obtain ⟨fd, F⟩ := d.def_ 18 (d := dd 33 "check_kind") rfl
    exact ⟨fd, F, He.glo_ok X G (d.fact 18 (f := .glo "check_kind") rfl)⟩
  · obtain ⟨fd, F⟩ := d.def_ 19 (d := dd 34 "rules_by_label") rfl
    exact ⟨fd, F, He.glo_ok X G (d.fact 19 (f := .glo "rules_by_label") rfl)⟩
  · obtain ⟨fd, F⟩ := d.def_ 20 (d := dd 35 "step_of") rfl
    exact ⟨fd, F, He.glo_ok X G (d.fact 20 (f := .glo "step_of") rfl)⟩
  · obtain ⟨fd, F⟩ := d.def_ 21 (d := dd 36 "lots_in") rfl
    exact ⟨fd, F, He.glo_ok X G (d.fact 21 (f := .glo "lots_in") rfl)⟩
  · obtain ⟨fd, F⟩ := d.def_ 22 (d := dd 37 "raw_kinds_of") rfl
    exact ⟨fd, F, He.glo_ok X G (d.fact 22 (f := .glo "raw_kinds_of") rfl)⟩
  · obtain ⟨fd, F⟩ := d.def_ 23 (d := dd 38 "kinds_of") rfl
    exact ⟨fd, F, He.glo_ok X G (d.fact 23 (f := .glo "kinds_of") rfl)⟩
  · obtain ⟨fd, F⟩ := d.def_ 24 (d := dd 39 "check_kind_tree") rfl
    exact ⟨fd, F, He.glo_ok X G (d.fact 24 (f := .glo "check_kind_tree") rfl)⟩
  · obtain ⟨fd, F⟩ := d.def_ 25 (d := dd 41 "is_tree_of") rfl
    exact ⟨fd, F, He.glo_ok X G (d.fact 25 (f := .glo "is_tree_of") rfl)⟩
  · obtain ⟨fd, F⟩ := d.def_ 26 (d := dd 40 "is_of") rfl
    exact ⟨fd, F, He.glo_ok X G (d.fact 26 (f := .glo "is_of") rfl)⟩
  · obtain ⟨fd, F⟩ := d.def_ 27 (d := dd 43 "raw_changes") rfl
    exact ⟨fd, F, He.glo_ok X G (d.fact 27 (f := .glo "raw_changes") rfl)⟩
  · obtain ⟨fd, F⟩ := d.def_ 28 (d := dd 44 "changes_between") rfl
    exact ⟨fd, F, He.glo_ok X G (d.fact 28 (f := .glo "changes_between") rfl)⟩
  · obtain ⟨fd, F⟩ := d.def_ 29 (d := dd 45 "better_of") rfl
    exact ⟨fd, F, He.glo_ok X G (d.fact 29 (f := .glo "better_of") rfl)⟩
  · obtain ⟨fd, F⟩ := d.def_ 30 (d := dd 46 "mends_of") rfl
    exact ⟨fd, F, He.glo_ok X G (d.fact 30 (f := .glo "mends_of") rfl)⟩
  · obtain ⟨fd, F⟩ := d.def_ 31 (d := dd 47 "raw_mends") rfl
    exact ⟨fd, F, He.glo_ok X G (d.fact 31 (f := .glo "raw_mends") rfl)⟩
  · obtain ⟨fd, F⟩ := d.def_ 32 (d := dd 48 "mended") rfl
    exact ⟨fd, F, He.glo_ok X G (d.fact 32 (f := .glo "mended") rfl)⟩
  · obtain ⟨fd, F⟩ := d.def_ 33 (d := dd 50 "_law_bag") rfl
    exact ⟨fd, F, He.glo_ok X G (d.fact 33 (f := .glo "_law_bag") rfl)⟩
  · obtain ⟨fd, F⟩ := d.def_ 34 (d := dd 51 "_law_pick") rfl
    exact ⟨fd, F, He.glo_ok X G (d.fact 34 (f := .glo "_law_pick") rfl)⟩
  · obtain ⟨fd, F⟩ := d.def_ 35 (d := dd 52 "_law_some") rfl
    exact ⟨fd, F, He.glo_ok X G (d.fact 35 (f := .glo "_law_some") rfl)⟩
  · obtain ⟨fd, F⟩ := d.def_ 36 (d := dd 53 "_law_signature") rfl
    exact ⟨fd, F, He.glo_ok X G (d.fact 36 (f := .glo "_law_signature") rfl)⟩
  · obtain ⟨fd, F⟩ := d.def_ 37 (d := dd 54 "_law_choices") rfl
    exact ⟨fd, F, He.glo_ok X G (d.fact 37 (f := .glo "_law_choices") rfl)⟩
  · obtain ⟨fd, F⟩ := d.def_ 38 (d := dd 55 "_law_book") rfl
    exact ⟨fd, F, He.glo_ok X G (d.fact 38 (f := .glo "_law_book") rfl)⟩
  · obtain ⟨fd, F⟩ := d.def_ 39 (d := dd 56 "_law_nodes") rfl
    exact ⟨fd, F, He.glo_ok X G (d.fact 39 (f := .glo "_law_nodes") rfl)⟩
  · obtain ⟨fd, F⟩ := d.def_ 40 (d := dd 57 "_law_tree") rfl
    exact ⟨fd, F, He.glo_ok X G (d.fact 40 (f := .glo "_law_tree") rfl)⟩
  · obtain ⟨fd, F⟩ := d.def_ 41 (d := dd 58 "_law_lot") rfl
    exact ⟨fd, F, He.glo_ok X G (d.fact 41 (f := .glo "_law_lot") rfl)⟩
  · obtain ⟨fd, F⟩ := d.def_ 42 (d := dd 59 "_law_of_form") rfl
    exact ⟨fd, F, He.glo_ok X G (d.fact 42 (f := .glo "_law_of_form") rfl)⟩
  · obtain ⟨fd, F⟩ := d.def_ 43 (d := dd 60 "_law_changes") rfl
    exact ⟨fd, F, He.glo_ok X G (d.fact 43 (f := .glo "_law_changes") rfl)⟩
  · obtain ⟨fd, F⟩ := d.def_ 44 (d := dd 61 "_law_mended") rfl
    exact ⟨fd, F, He.glo_ok X G (d.fact 44 (f := .glo "_law_mended") rfl)⟩
  · obtain ⟨fd, F⟩ := d.def_ 45 (d := dd 62 "_law_said") rfl
    exact ⟨fd, F, He.glo_ok X G (d.fact 45 (f := .glo "_law_said") rfl)⟩
  · obtain ⟨fd, F⟩ := d.def_ 46 (d := dd 63 "_law_no_tree") rfl
    exact ⟨fd, F, He.glo_ok X G (d.fact 46 (f := .glo "_law_no_tree") rfl)⟩
  · obtain ⟨fd, F⟩ := d.def_ 47 (d := dd 64 "_law_no_book") rfl
    exact ⟨fd, F, He.glo_ok X G (d.fact 47 (f := .glo "_law_no_book") rfl)⟩
  · obtain ⟨fd, F⟩ := d.def_ 48 (d := dd 65 "_law_is_kind_right") rfl
    exact ⟨fd, F, He.glo_ok X G (d.fact 48 (f := .glo "_law_is_kind_right") rfl)⟩
  · obtain ⟨fd, F⟩ := d.def_ 49 (d := dd 66 "_law_are_refused") rfl
    exact ⟨fd, F, He.glo_ok X G (d.fact 49 (f := .glo "_law_are_refused") rfl)⟩
  · obtain ⟨fd, F⟩ := d.def_ 50 (d := dd 67 "law") rfl
    exact ⟨fd, F, He.glo_ok X G (d.fact 50 (f := .glo "law") rfl)⟩
  · exact tb
  · exact x
theorem plain_end (main : ∀ ns : List Int, ns.length ≤ 63 → (∀ z ∈ ns, Builtin.Int.intBits z ≤ 1048576) → ∃ ρ, g_law [.scr ns] = some (.ok (.dat (.bool true)), ρ)) : PySem.Challenge.rw_shaperoads_k75_whole_trees_mended_by_all.Holds := by
  open PySem.W PySem.Calls in w_on
  open PySem.W PySem.Calls in o_law
  refine HandSHeadRun.head_any (r := R) (q := PySem.W.view R.prog [67]) (H := hk) (ob := ob) (M := 4000) (loose := looseL) (d := HandSHeadRun.topDef R.prog 67) (kwd := []) ob_eq
    (by kernel_rfl) (fun s => by kernel_rfl) run (by kernel_rfl) (by kernel_rfl) (by kernel_rfl) (by rfl) (by first | assumption | decide +kernel) (by decide +kernel) ⟨rfl, rfl, rfl, rfl, rfl, by decide +kernel⟩ ?hw ?hc
  case hw => w_witness2
  case hc =>
    refine LamX.walk_ofTsE (l := PySem.Challenge.rw_shaperoads_k75_whole_trees_mended_by_all) (n := 63) (k := levLaw) (x := "script") (CX := fun w => L2.CX R.prog w) rfl (by decide) (by kernel_rfl) ⟨rfl, by decide, by decide⟩ ?F ?G
    case G =>
      intro w H s e s' z
      obtain ⟨_, _, _, _, _, _, _, _, _, _, _, _, z⟩ := z
      exact z
    case F =>
      intro w mg fa h Y G hmg0
      obtain ⟨K, KX, c⟩ := Y
      have d : He.SaysD faL fnL K := c.t.d
      obtain ⟨fd, F⟩ := d.def_ 50 (d := dd 67 "law") rfl
      have hmg : mg ("law" : PySem.Str) = some (.ref fa) := by
        have e : (HandSHeadRun.topDef R.prog 67).name = ("law" : PySem.Str) := by kernel_rfl
        rw [← e]
        exact hmg0
      have ga : mg ("law" : PySem.Str) = some (.ref (He.ga K "law")) := He.glo_ok KX G (d.fact 50 (f := .glo "law") rfl)
      obtain rfl : fa = He.ga K "law" := Value.ref.inj (Option.some.inj (hmg.symm.trans ga))
      refine ⟨K, KX, fd, [(He.codeOf K ("_law_are_refused", none), cT K "_law_are_refused")], SpG K (TT K) [] 1 g_law, ?_, ?_, ?_, ?_, ?_, ?_⟩
      · intro p hp
        rw [List.mem_singleton.mp hp]; exact c.empty ("_law_are_refused", none) List.mem_cons_self
      · intro p hp
        rw [List.mem_singleton.mp hp]; exact c.out ("_law_are_refused", none) List.mem_cons_self
      · intro p hp
        rw [List.mem_singleton.mp hp]; exact PySem.W.codeHd_of_K KX (c.hd ("_law_are_refused", none) List.mem_cons_self)
      · exact fun s v => FunD.bindsA (ps := ["script"]) F (fun _ _ _ _ _ _ us hl => match us, hl with | [_], _ => rfl) s [v] rfl
      · intro H a ns hl hb ht hs
        obtain ⟨ρ, e⟩ := main ns hl hb
        refine sp_law hs ?_ e
        intro p hp
        rw [List.mem_singleton.mp hp]; exact LamX.TabS.nil (ht _ List.mem_cons_self)
      · intro base KB GB tb
        exact all_ok (facts_of KX G c (tb _ List.mem_cons_self)) F
end Sh.Own
set_option Elab.async false
set_option linter.all false
set_option maxRecDepth 100000
set_option maxHeartbeats 2000000
/-! Pk, part A: basics. -/
namespace Sh.Own
open PySem PySem.Spec PyProof.Rows L2 Sh
def isIntD : D → Bool
  | .int _ => true
  | _ => false
theorem r_is_integer (d : D) : val (g_is_integer [.dat d]) = some (.ok (.dat (.bool (isIntD d)))) := by
  unfold g_is_integer p_is_integer
  cases d <;> simp [isIntD, isD, tyD]
def withinD (d : D) (lo hi : Int) : Bool := match d with
  | .int z => decide (lo ≤ z) && decide (z ≤ hi)
  | _ => false
theorem r_is_within (d : D) (lo hi : Int) : val (g_is_within [.dat d, .dat (.int lo), .dat (.int hi)]) = some (.ok (.dat (.bool (withinD d lo hi)))) := by
  unfold g_is_within p_is_within
  cases d with
  | int z => by_cases h : lo ≤ z <;> simp [r_is_integer, isIntD, withinD, h]
  | _ => simp [r_is_integer, isIntD, withinD]
def szD (d : D) (lo hi : Int) : Bool := match d with
  | .tuple xs => decide (lo ≤ (xs.length : Int)) && decide ((xs.length : Int) ≤ hi)
  | _ => false
theorem r_is_sized (d : D) (lo hi : Int) : val (g_is_sized [.dat d, .dat (.int lo), .dat (.int hi)]) = some (.ok (.dat (.bool (szD d lo hi)))) := by
  unfold g_is_sized p_is_sized
  cases d with
  | tuple xs => by_cases h : lo ≤ (xs.length : Int) <;> simp [isD, tyD, szD, h]
  | _ => simp [isD, tyD, szD]
def letters : List Nat := ("abcdefghijklmnopqrstuvwxyz" : Str).cps.toList
def nameS (x : Str) : Bool := decide (1 ≤ x.length) && decide (x.length ≤ 8) && x.cps.toList.all fun c => decide (c ∈ letters)
def nameD : D → Bool
  | .str x => nameS x
  | _ => false
/-- texts are not too long -/
def fitD : D → Bool
  | .str x => decide (x.length ≤ sizeLine)
  | _ => true
theorem r_is_name (d : D) (h : fitD d = true) : val (g_is_name [.dat d]) = some (.ok (.dat (.bool (nameD d)))) := by
  unfold g_is_name p_is_name
  cases d with
  | str x =>
    simp [fitD] at h
    by_cases h1 : 1 ≤ x.length
    · by_cases h2 : x.length ≤ 8
      · have h3 : (1 : Int) ≤ x.length := by omega
        have h4 : (x.length : Int) ≤ 8 := by omega
        simp [isD, tyD, lenO, h, h3, h4, nameD, nameS, h1, h2, seqD]
        rw [lc_mapE (fun c => .bool (decide (c ∈ letters)))]
        · simp
        · rw [sizeLine_eq]
          unfold Str.length at h2
          simp
          omega
        · intro c hc
          simp [inB, letters]
      · have h3 : (1 : Int) ≤ x.length := by omega
        have h4 : ¬ (x.length : Int) ≤ 8 := by omega
        simp [isD, tyD, lenO, h, h3, h4, nameD, nameS, h1, h2]
    · have h3 : ¬ (1 : Int) ≤ x.length := by omega
      simp [isD, tyD, lenO, h, h3, nameD, nameS, h1]
  | _ => simp [isD, tyD, nameD]
end Sh.Own
set_option Elab.async false
set_option linter.all false
set_option maxRecDepth 100000
set_option maxHeartbeats 2000000
/-! Pk, part B: signatures, trees. -/
namespace Sh.Own
open PySem PySem.Spec PyProof.Rows L2 Sh
theorem r_are_rising {d : D} {ds : List D} (hd : d = .tuple ds ∨ d = .list ds) (hl : ds.length ≤ 1000000) (hc : CmpN ds) : val (g_are_rising [.dat d]) = some (.ok (.dat (.bool (risingD ds)))) := by
  unfold g_are_rising p_are_rising
  have sm : smI ((ds.length : Int) - 1) = true := by
    unfold smI
    simp
    omega
  have el : lenO (.dat d) = some (ds.length : Int) := by rcases hd with rfl | rfl <;> rfl
  have ei : ∀ i : Int, ixD d (.int i) = atI ds i := fun i => by rcases hd with rfl | rfl <;> rfl
  have e1 : ((ds.length : Int) - 1).toNat = ds.length - 1 := by omega
  simp [el, rng1, sm, rgD, e1]
  rw [lc_mapE (fun i => .bool (dl (ds.getD i .none) (ds.getD (i + 1) .none)))]
  · have k := rising_range ds
    simp [restE] at k ⊢
    exact k
  · simp
    omega
  · intro i hi
    rw [List.mem_range] at hi
    have h1 : ds[i]? = some ds[i] := List.getElem?_eq_getElem _
    have h2 : ds[i + 1]? = some ds[i + 1] := List.getElem?_eq_getElem (by omega)
    have h3 := hc i _ _ h1 h2
    simp [ei, h1, h2, h3]
def sigP (p : D) : Bool := match p with
  | .tuple [a, b] => nameD a && withinD b 0 2
  | _ => false
def fstD (p : D) : D := match p with
  | .tuple (a :: _) => a
  | _ => .none
def sigD (d : D) : Bool := szD d 1 10 && (match d with
  | .tuple ps => ps.all (fun p => szD p 2 2) && (ps.all sigP && risingD (ps.map fstD))
  | _ => false)
theorem strOk_name {x : Str} (h : nameS x = true) : (PyData.str x).canLay0 = true := by
  unfold nameS at h
  simp only [Bool.and_eq_true, List.all_eq_true, decide_eq_true_eq] at h
  unfold PyData.canLay0 PyData.strOk
  rw [Array.all_eq_true']
  intro c hc
  have m := h.2 c (by simpa using hc)
  have k : letters.all (fun c => decide (c < 0x110000)) = true := by decide +kernel
  exact List.all_eq_true.mp k c m
theorem cmpOk_str {x : Str} (h : (PyData.str x).canLay0 = true) : cmpOk (.str x) = true := by
  unfold cmpOk
  simp [h, isNone, PyData.depth]
theorem nameD_str {d : D} (h : nameD d = true) : ∃ x, d = .str x ∧ nameS x = true := by
  cases d with
  | str x => exact ⟨x, rfl, h⟩
  | _ => cases h
theorem szD2 {p : D} (h : szD p 2 2 = true) : ∃ a b, p = .tuple [a, b] := by
  cases p with
  | tuple xs =>
    simp [szD] at h
    match xs, h with
    | [a, b], _ => exact ⟨a, b, rfl⟩
    | [], h => simp at h
    | [_], h => simp at h
    | _ :: _ :: _ :: r, h => simp at h; omega
  | _ => cases h
theorem r_is_signature (d : D) (hf : ∀ ps, d = .tuple ps → ∀ p ∈ ps, ∀ a b, p = .tuple [a, b] → fitD a = true) : val (g_is_signature [.dat d]) = some (.ok (.dat (.bool (sigD d)))) := by
  unfold g_is_signature p_is_signature
  by_cases h1 : szD d 1 10 = true
  · cases d with
    | tuple ps =>
      have hl : ps.length ≤ 10 := by simp [szD] at h1; omega
      simp [r_is_sized, h1, sigD]
      rw [lc_map (fun p => .bool (szD p 2 2))]
      · by_cases h2 : (ps.all fun p => szD p 2 2) = true
        · simp [restE, h2]
          rw [lc_map (fun p => .bool (sigP p))]
          · by_cases h3 : ps.all sigP = true
            · simp [restE, h3]
              rw [lc_map fstD]
              · have hs : ∀ d ∈ ps.map fstD, ∃ x, d = .str x ∧ nameS x = true := by
                  intro d hd
                  obtain ⟨p, hp, rfl⟩ := List.mem_map.mp hd
                  obtain ⟨a, b, rfl⟩ := szD2 (List.all_eq_true.mp h2 p hp)
                  have := List.all_eq_true.mp h3 _ hp
                  simp only [sigP, Bool.and_eq_true] at this
                  exact nameD_str this.1
                have hc : CmpN (ps.map fstD) := by
                  refine cmpN_of (fun d hd => ?_) (fun a ha b hb => ?_)
                  · obtain ⟨x, rfl, k⟩ := hs d hd
                    exact cmpOk_str (strOk_name k)
                  · obtain ⟨x, rfl, _⟩ := hs a ha
                    obtain ⟨y, rfl, _⟩ := hs b hb
                    rfl
                have e := r_are_rising (d := .list (ps.map fstD)) (.inr rfl) (by simp; omega) hc
                simp [restE, e]
              · simp; omega
              · intro p hp
                obtain ⟨a, b, rfl⟩ := szD2 (List.all_eq_true.mp h2 p hp)
                simp [fstD]
            · simp [restE, h3]
          · simp; omega
          · intro p hp
            obtain ⟨a, b, rfl⟩ := szD2 (List.all_eq_true.mp h2 p hp)
            have hn := r_is_name a (hf ps rfl _ hp a b rfl)
            cases h4 : nameD a <;> simp [hn, h4, r_is_within, sigP]
        · simp [restE, h2]
      · simp; omega
      · intro p hp
        simp [r_is_sized]
    | _ => cases h1
  · simp [r_is_sized, h1, sigD]
theorem r_check_signature {d : D} (hf : ∀ ps, d = .tuple ps → ∀ p ∈ ps, ∀ a b, p = .tuple [a, b] → fitD a = true) : val (g_check_signature [.dat d]) = some (if sigD d = true then .ok (.dat .none) else .ex ⟨"NoSignature", none⟩) := by
  unfold g_check_signature p_check_signature
  cases h : sigD d <;> simp [r_is_signature d hf, h]
/-- a signature that is one -/
structure GoodSg (g : Sg) : Prop where
  nd : (g.map (·.1)).Nodup
  is : sigD (sgD g) = true
theorem GoodSg.name {g : Sg} (h : GoodSg g) : ∀ p ∈ g, nameS p.1 = true := by
  intro p hp
  have := h.is
  simp only [sigD, sgD, Bool.and_eq_true, List.all_eq_true] at this
  have q := this.2.2.1 (prD p) (List.mem_map.mpr ⟨p, hp, rfl⟩)
  simp only [prD, sigP, Bool.and_eq_true, nameD] at q
  exact q.1
theorem GoodSg.len {g : Sg} (h : GoodSg g) : g.length ≤ 10 := by
  have := h.is
  simp only [sigD, sgD, Bool.and_eq_true, szD] at this
  have := this.1.2
  simp at this
  omega
theorem GoodSg.rank {g : Sg} (h : GoodSg g) : ∀ p ∈ g, 0 ≤ p.2 ∧ p.2 ≤ 2 := by
  intro p hp
  have := h.is
  simp only [sigD, sgD, Bool.and_eq_true, List.all_eq_true] at this
  have q := this.2.2.1 (prD p) (List.mem_map.mpr ⟨p, hp, rfl⟩)
  simp only [prD, sigP, Bool.and_eq_true, nameD, withinD, decide_eq_true_eq] at q
  exact q.2
theorem name_fit {x : Str} (h : nameS x = true) : x.length ≤ sizeLine := by
  unfold nameS at h
  simp only [Bool.and_eq_true, decide_eq_true_eq] at h
  rw [sizeLine_eq]
  omega
theorem GoodSg.fit {g : Sg} (h : GoodSg g) : ∀ ps, sgD g = .tuple ps → ∀ p ∈ ps, ∀ a b, p = .tuple [a, b] → fitD a = true := by
  intro ps e p hp a b e2
  unfold sgD at e
  cases e
  obtain ⟨q, hq, rfl⟩ := List.mem_map.mp hp
  cases e2
  have := name_fit (h.name q hq)
  simpa [fitD] using this
theorem r_check_sg {g : Sg} (h : GoodSg g) : val (g_check_signature [.dat (sgD g)]) = some (.ok (.dat .none)) := by
  rw [r_check_signature h.fit, if_pos h.is]
open Classical in
theorem r_raw_is_tree {g : Sg} (hg : GoodSg g) (d : D) (hw : wD d ≤ 1000000) : val (g_raw_is_tree [.dat (sgD g), .dat d]) = some (.ok (.dat (.bool (decide (isTr g d))))) := by
  unfold g_raw_is_tree p_raw_is_tree
  simp [dict_sg hg.nd]
  refine while_C (C := fun r => rn (sq r _) = _) (σ := List D) (fun st ρ => (∃ x, ρ = [some (.dat (sgD g)), some (.dat d), some (.dic (rkD g)), some (.lst st), x]) ∧ ((∀ e ∈ st, isTr g e) ↔ isTr g d) ∧ wDs st ≤ wD d) wDs [d] ⟨⟨_, rfl⟩, by simp, by simp [wDs]⟩ ?_
  rintro st ρ ⟨⟨x, rfl⟩, hi, hm⟩
  rcases List.eq_nil_or_concat st with rfl | ⟨st, h, rfl⟩
  · refine ⟨false, _, by simp; rfl, ?_⟩
    have : isTr g d := hi.mp (by simp)
    simp [this]
  · refine ⟨true, _, by simp; rfl, ?_⟩
    simp only [List.concat_eq_append] at *
    rw [wDs_app] at hm
    simp only [wDs, Nat.add_zero] at hm
    have no : ∀ (q : ¬ isTr g h), ¬ isTr g d := fun q z => q (hi.mpr z h (by simp))
    by_cases h1 : szD h 2 2 = true
    · obtain ⟨a, b, rfl⟩ := szD2 h1
      by_cases h2 : isD "str" a = true
      · cases a with
        | str l =>
          cases h3 : rk g l with
          | none =>
            have q : ¬ isTr g (.tuple [.str l, b]) := by
              rintro h
              obtain ⟨l', ds, e⟩ := isTr_form h
              cases e
              have := (isTr_iff.mp h).1
              rw [h3] at this
              cases this
            simp [r_is_sized, h1, isD, tyD, inOG, keyD, dlook_rk, h3, no q]
          | some r =>
            by_cases h4 : szD b r r = true
            · cases b with
              | tuple ps =>
                have e4 : r = (ps.length : Int) := by simp [szD] at h4; omega
                have hb : st.length + ps.length ≤ 16777216 := by
                  have := wDs_len st
                  have := wDs_len ps
                  simp only [wD_tup, wDs, wD] at hm
                  omega
                simp [r_is_sized, h1, isD, tyD, inOG, keyD, dlook_rk, h3, h4, ixO, hb]
                refine ⟨st ++ ps, ?_, rfl, ?_, ?_⟩
                · rw [wDs_app, wDs_app]; simp [wDs, wD_tup, wD]; omega
                · rw [← hi]
                  simp only [List.mem_append, List.mem_singleton]
                  have k := isTr_iff (g := g) (l := l) (ds := ps)
                  rw [h3, e4] at k
                  constructor
                  · intro z e m
                    rcases m with m | rfl
                    · exact z e (.inl m)
                    · exact k.mpr ⟨rfl, fun e m => z e (.inr m)⟩
                  · intro z e m
                    rcases m with m | m
                    · exact z e (.inl m)
                    · exact (k.mp (z _ (.inr rfl))).2 e m
                · rw [wDs_app]; simp only [wD_tup, wDs, wD] at hm; omega
              | _ => cases h4
            · have q : ¬ isTr g (.tuple [.str l, b]) := by
                rintro h
                obtain ⟨l', ds, e⟩ := isTr_form h
                cases e
                have := (isTr_iff.mp h).1
                rw [h3] at this
                cases this
                simp [szD] at h4
              simp [r_is_sized, h1, isD, tyD, inOG, keyD, dlook_rk, h3, h4, ixO, no q]
        | _ => cases h2
      · have q : ¬ isTr g (.tuple [a, b]) := by
          rintro h
          obtain ⟨l', ds, e⟩ := isTr_form h
          cases e
          exact h2 rfl
        simp [r_is_sized, h1, h2, no q]
    · have q : ¬ isTr g h := by
        rintro h
        obtain ⟨l', ds, e⟩ := isTr_form h
        subst e
        simp [szD] at h1
      simp [r_is_sized, h1, no q]
end Sh.Own
set_option Elab.async false
set_option linter.all false
set_option maxRecDepth 100000
set_option maxHeartbeats 2000000
/-! Pk, part C: trees. -/
namespace Sh.Own
open PySem PySem.Spec PyProof.Rows L2 Sh
theorem okT_lay {g : Sg} (hg : GoodSg g) {t : Tr} (h : okT g t) : t.d.canLay0 = true := by
  induction t using Tr.ind with
  | h l ps ih =>
    rw [okT_nd] at h
    rw [Tr.d_nd]
    have k := strOk_name (hg.name _ (rk_mem h.1))
    have k2 := Tr.canLays fun p m => ih p m (h.2 p m)
    simp only [PyData.canLay0, PyData.canLayAll0] at k k2 ⊢
    simp [k, k2]
theorem okT_sm {g : Sg} (hg : GoodSg g) {t : Tr} (h : okT g t) (k : t.size ≤ 28) : Sm t := ⟨okT_lay hg h, k⟩
open Classical in
theorem r_is_tree {g : Sg} (hg : GoodSg g) (d : D) (hw : wD d ≤ 1000000) : val (g_is_tree [.dat (sgD g), .dat d]) = some (.ok (.dat (.bool (decide (isTr g d))))) := by
  unfold g_is_tree p_is_tree
  simp [r_check_sg hg, r_raw_is_tree hg d hw]
open Classical in
theorem r_check_tree {g : Sg} (hg : GoodSg g) (d : D) (hw : wD d ≤ 1000000) : val (g_check_tree [.dat (sgD g), .dat d]) = some (if isTr g d then .ok (.dat .none) else .ex ⟨"NoTree", none⟩) := by
  unfold g_check_tree p_check_tree
  by_cases h : isTr g d <;> simp [r_raw_is_tree hg d hw, h]
theorem wD_le {t : Tr} (h : t.size ≤ 300000) : wD t.d ≤ 1000000 := by
  rw [Tr.wD_t]
  omega
theorem isTr_of {g : Sg} {t : Tr} (h : okT g t) : isTr g t.d := ⟨t, rfl, h⟩
theorem isTr_d {g : Sg} {t : Tr} (h : isTr g t.d) : okT g t := by
  obtain ⟨s, e, o⟩ := h
  rw [Tr.d_inj e]
  exact o
theorem r_check_ok {g : Sg} (hg : GoodSg g) {t : Tr} (ho : okT g t) (hw : t.size ≤ 300000) : val (g_check_tree [.dat (sgD g), .dat t.d]) = some (.ok (.dat .none)) := by
  rw [r_check_tree hg _ (wD_le hw), if_pos (isTr_of ho)]
theorem r_check_both {g : Sg} (hg : GoodSg g) {t : Tr} (ho : okT g t) (hw : t.size ≤ 300000) : val (g_check_both [.dat (sgD g), .dat t.d]) = some (.ok (.dat .none)) := by
  unfold g_check_both p_check_both
  simp [r_check_sg hg, r_check_ok hg ho hw]
theorem r_raw_nodes (t : Tr) (hw : t.size ≤ 300000) : val (g_raw_nodes [.dat t.d]) = some (.ok (.lst (t.pre.map Tr.d))) := by
  unfold g_raw_nodes p_raw_nodes
  simp
  refine while_C (C := fun r => rn (sq r _) = _) (σ := List Tr × List Tr) (fun s ρ => (∃ x, ρ = [some (.dat t.d), some (.lst (s.1.map Tr.d)), some (.lst (s.2.map Tr.d)), x]) ∧ s.1 ++ Tr.pres s.2.reverse = t.pre) (fun s => Tr.sizes s.2) ([], [t]) ⟨⟨_, rfl⟩, by simp [Tr.pres]⟩ ?_
  rintro ⟨out, st⟩ ρ ⟨⟨x, rfl⟩, hi⟩
  dsimp only at hi ⊢
  rcases List.eq_nil_or_concat st with rfl | ⟨st, h, rfl⟩
  · refine ⟨false, _, by simp; rfl, ?_⟩
    simp [Tr.pres] at hi
    simp [hi]
  · refine ⟨true, _, by simp; rfl, ?_⟩
    simp only [List.concat_eq_append] at *
    cases h with
    | nd l ps =>
      have b1 : out.length + 1 + (Tr.pres ps).length + (Tr.pres st.reverse).length = t.size := by
        have := congrArg List.length hi
        rw [Tr.pre_len] at this
        simp [Tr.pres, Tr.pre] at this
        omega
      have b2 := Tr.sizes_len ps
      have b3 := Tr.sizes_len st.reverse
      rw [← Tr.pres_len fun p _ => Tr.pre_len p] at b2 b3
      simp at b3
      have c1 : out.length < 16777216 := by omega
      have c2 : st.length + ps.length ≤ 16777216 := by omega
      simp [Tr.d_nd, c1, c2]
      refine ⟨out ++ [.nd l ps], st ++ ps.reverse, ?_, ⟨by simp [Tr.d_nd], by simp⟩, ?_⟩
      · rw [Tr.sizes_app, Tr.sizes_app, Tr.sizes_rev]
        simp [Tr.sizes, Tr.size]
      · rw [← hi]
        simp [Tr.pres, Tr.pres_app, Tr.pre]
theorem r_raw_nodes_many (t : Tr) (hw : t.size ≤ 300000) : val (g_raw_nodes_many [.dat t.d]) = some (.ok (.dat (.int t.size))) := by
  unfold g_raw_nodes_many p_raw_nodes_many
  simp
  refine while_C (C := fun r => rn (sq r _) = _) (σ := Nat × List Tr) (fun s ρ => (ρ = [some (.dat t.d), some (.dat (.int s.1)), some (.lst (s.2.map Tr.d))]) ∧ s.1 + Tr.sizes s.2 = t.size) (fun s => Tr.sizes s.2) (0, [t]) ⟨rfl, by simp [Tr.sizes]⟩ ?_
  rintro ⟨n, st⟩ ρ ⟨rfl, hi⟩
  dsimp only at hi ⊢
  rcases List.eq_nil_or_concat st with rfl | ⟨st, h, rfl⟩
  · refine ⟨false, _, by simp; rfl, ?_⟩
    simp [Tr.sizes] at hi
    simp [hi]
  · refine ⟨true, _, by simp; rfl, ?_⟩
    simp only [List.concat_eq_append] at *
    cases h with
    | nd l ps =>
      rw [Tr.sizes_app] at hi
      simp only [Tr.sizes, Tr.size] at hi
      have b2 := Tr.sizes_len ps
      have b3 := Tr.sizes_len st
      have c2 : st.length + ps.length ≤ 16777216 := by omega
      simp [Tr.d_nd, c2]
      refine ⟨n + 1, st ++ ps, ?_, ⟨by simp, by simp⟩, ?_⟩
      · rw [Tr.sizes_app, Tr.sizes_app]
        simp [Tr.sizes, Tr.size]
      · rw [Tr.sizes_app]
        omega
theorem r_order_key (t : Tr) (hw : t.size ≤ 300000) : val (g_order_key [.dat t.d]) = some (.ok (.dat (encP (t.size, t)))) := by
  unfold g_order_key p_order_key
  simp [r_raw_nodes_many t hw, encP]
/-- the least of some trees -/
theorem r_least_of {g : Sg} (hg : GoodSg g) {ts : List Tr} (h0 : ts ≠ []) (hl : ts.length ≤ 1000000) (ho : ∀ t ∈ ts, okT g t) (hs : ∀ t ∈ ts, t.size ≤ 28) :
    ∃ m ∈ ts, val (g_least_of [.dat (sgD g), .dat (.tuple (ts.map Tr.d))]) = some (.ok (.dat m.d)) ∧ ∀ t ∈ ts, ltP (t.size, t) (m.size, m) = false := by
  obtain ⟨p, hp, e, k⟩ := minG_P (ps := ts.map fun t => ((t.size : Int), t)) (by simpa using h0) (fun p hp => by
    obtain ⟨t, ht, rfl⟩ := List.mem_map.mp hp
    exact okT_sm hg (ho t ht) (hs t ht))
  obtain ⟨m, hm, rfl⟩ := List.mem_map.mp hp
  refine ⟨m, hm, ?_, fun t ht => k _ (List.mem_map.mpr ⟨t, ht, rfl⟩)⟩
  unfold g_least_of p_least_of
  simp [r_check_sg hg, isD, tyD, h0]
  refine for_C (C := fun r => rn (sq r _) = _) (fun pre ρ => ∃ x, okSlot (some x) = true ∧ ρ = [some (.dat (sgD g)), some (.dat (.tuple (ts.map Tr.d))), x]) ⟨_, rfl, rfl⟩ ?_ ?_
  · rintro pre d post ρ eq ⟨x, hx, rfl⟩
    have hd : d ∈ ts.map Tr.d := by rw [eq]; simp
    obtain ⟨t, ht, rfl⟩ := List.mem_map.mp hd
    simp [r_check_ok hg (ho t ht) (by have := hs t ht; omega)]
  · rintro ρ ⟨x, hx, rfl⟩
    simp [hx]
    rw [lc_mapE (fun t => encP (t.size, t))]
    · rw [List.map_map] at e
      have e' : minG [PyData.list (List.map (fun t : Tr => encP ((t.size : Int), t)) ts)] = some (encP ((m.size : Int), m)) := e
      simp [restE, e']
    · simp; omega
    · intro t ht
      simp [r_order_key t (by have := hs t ht; omega)]
end Sh.Own
set_option Elab.async false
set_option linter.all false
set_option maxRecDepth 100000
set_option maxHeartbeats 2000000
/-! Pk, part D: books. -/
namespace Sh.Own
open PySem PySem.Spec PyProof.Rows L2 Sh
def insD (ks : D) (m : Int) : Bool := match ks with
  | .tuple xs => xs.all fun x => withinD x 0 (m - 1)
  | _ => false
def ruleB (g : Sg) (m : Int) (k n ks : D) : Bool := withinD k 0 (m - 1) && (nameD n && (match n with
    | .str l => (match rk g l with
      | some r => szD ks r r && insD ks m
      | none => false)
    | _ => false))
def ruleD (g : Sg) (m : Int) (d : D) : Bool := match d with
  | .tuple [k, n, ks] => ruleB g m k n ks
  | _ => false
theorem szD3 {p : D} (h : szD p 3 3 = true) : ∃ a b c, p = .tuple [a, b, c] := by
  cases p with
  | tuple xs =>
    simp [szD] at h
    match xs, h with
    | [a, b, c], _ => exact ⟨a, b, c, rfl⟩
    | [], h => simp at h
    | [_], h => simp at h
    | [_, _], h => simp at h
    | _ :: _ :: _ :: _ :: r, h => simp at h; omega
  | _ => cases h
theorem szD_not3 {p : D} (h : szD p 3 3 ≠ true) (g : Sg) (m : Int) : ruleD g m p = false := by
  cases p with
  | tuple xs =>
    match xs, h with
    | [a, b, c], h => exact absurd rfl h
    | [], h => rfl
    | [_], h => rfl
    | [_, _], h => rfl
    | _ :: _ :: _ :: _ :: r, h => rfl
  | _ => rfl
def rkO (g : Sg) : O := .dat (.dict ((rkD g).map fun p => (kD p.1, p.2)))
theorem r_is_rule (g : Sg) (m : Int) (d : D) (hf : ∀ k n ks, d = .tuple [k, n, ks] → fitD n = true) (hl : ∀ k n xs, d = .tuple [k, n, .tuple xs] → xs.length ≤ sizeLine) : val (g_is_rule [rkO g, .dat (.int m), .dat d]) = some (.ok (.dat (.bool (ruleD g m d)))) := by
  unfold g_is_rule p_is_rule rkO
  by_cases h1 : szD d 3 3 = true
  · obtain ⟨k, n, ks, rfl⟩ := szD3 h1
    have hn := r_is_name n (hf k n ks rfl)
    simp only [ruleD]
    by_cases h2 : withinD k 0 (m - 1) = true
    · by_cases h3 : nameD n = true
      · obtain ⟨l, rfl, _⟩ := nameD_str h3
        cases h4 : rk g l with
        | none => simp [r_is_sized, r_is_within, hn, h1, h2, h3, inOG, inB, keyD, dval_kD, dlook_rk, h4, ruleB]
        | some r =>
          by_cases h5 : szD ks r r = true
          · cases ks with
            | tuple xs =>
              simp [r_is_sized, r_is_within, hn, h1, h2, h3, inOG, inB, keyD, ixD, dval_kD, dlook_rk, h4, h5, ruleB]
              rw [lc_map (fun x => .bool (withinD x 0 (m - 1)))]
              · simp [restE, insD]
              · exact hl _ _ _ rfl
              · intro x hx
                simp [r_is_within]
            | _ => cases h5
          · simp [r_is_sized, r_is_within, hn, h1, h2, h3, inOG, inB, keyD, ixD, dval_kD, dlook_rk, h4, h5, ruleB]
      · simp [r_is_sized, r_is_within, hn, h1, h2, h3, ruleB]
    · simp [r_is_sized, r_is_within, h1, h2, ruleB]
  · simp [r_is_sized, h1, szD_not3 h1]
theorem ints_of {m : Int} : ∀ {xs : List D}, (xs.all fun x => withinD x 0 (m - 1)) = true → ∃ ks : List Int, xs = ks.map .int ∧ ∀ k ∈ ks, 0 ≤ k ∧ k < m
  | [], _ => ⟨[], rfl, by simp⟩
  | x :: xs, h => by
    simp only [List.all_cons, Bool.and_eq_true] at h
    obtain ⟨ks, e, b⟩ := ints_of h.2
    cases x with
    | int z =>
      have := h.1
      simp only [withinD, Bool.and_eq_true, decide_eq_true_eq] at this
      refine ⟨z :: ks, by rw [e]; rfl, fun k hk => ?_⟩
      rcases List.mem_cons.mp hk with rfl | hk
      · omega
      · exact b k hk
    | _ => simp [withinD] at h
theorem ruleD_inv {g : Sg} {m : Int} {d : D} (h : ruleD g m d = true) : ∃ r : Rl, d = rlD r ∧ 0 ≤ r.1 ∧ r.1 < m ∧ nameS r.2.1 = true ∧ rk g r.2.1 = some (r.2.2.length : Int) ∧ ∀ k ∈ r.2.2, 0 ≤ k ∧ k < m := by
  have h1 : szD d 3 3 = true := by
    cases q : szD d 3 3 with
    | true => rfl
    | false => rw [szD_not3 (by rw [q]; simp)] at h; cases h
  obtain ⟨k, n, ks, rfl⟩ := szD3 h1
  simp only [ruleD, ruleB, Bool.and_eq_true] at h
  obtain ⟨h2, h3, h4⟩ := h
  obtain ⟨l, rfl, hn⟩ := nameD_str h3
  cases k with
  | int z =>
    simp only [withinD, Bool.and_eq_true, decide_eq_true_eq] at h2
    dsimp only at h4
    cases q : rk g l with
    | none => rw [q] at h4; cases h4
    | some r =>
      rw [q] at h4
      simp only [Bool.and_eq_true] at h4
      cases ks with
      | tuple xs =>
        obtain ⟨ns, rfl, b⟩ := ints_of (show (xs.all fun x => withinD x 0 (m - 1)) = true from h4.2)
        have h5 := h4.1
        simp [szD] at h5
        exact ⟨(z, l, ns), rfl, h2.1, by dsimp only; omega, hn, by dsimp only; rw [q]; congr 1; omega, b⟩
      | _ => simp [insD] at h4
  | _ => simp [withinD] at h2
theorem ints_lay (xs : List Int) : PyData.canLayAll0 (xs.map .int) = true := canLayAll fun d h => by
  obtain ⟨x, _, rfl⟩ := List.mem_map.mp h
  rfl
theorem ints_depth (xs : List Int) : PyData.depthAll (xs.map .int) = 0 := by
  induction xs with
  | nil => rfl
  | cons x xs ih => rw [List.map_cons, PyData.depthAll, ih]; rfl
theorem ints_alike : ∀ xs ys : List Int, PySem.W.alikeAll (xs.map .int) (ys.map .int) = true
  | [], _ => by simp [PySem.W.alikeAll]
  | _ :: _, [] => by simp [PySem.W.alikeAll]
  | x :: xs, y :: ys => by
    simp only [List.map_cons, PySem.W.alikeAll, PySem.W.alike, Bool.true_and]
    exact ints_alike xs ys
theorem rlD_cmp {r : Rl} (h : nameS r.2.1 = true) : cmpOk (rlD r) = true := by
  have k := strOk_name h
  have i := ints_lay r.2.2
  have j := ints_depth r.2.2
  unfold cmpOk rlD ltD
  simp only [PyData.canLay0, PyData.canLayAll0, PyData.depth, PyData.depthAll, isNone] at k ⊢
  simp [k, i, j]
theorem rlD_alike (r s : Rl) : PySem.W.alike (rlD r) (rlD s) = true := by
  unfold rlD ltD
  simp only [PySem.W.alike, PySem.W.alikeAll, Bool.true_and, Bool.and_true]
  exact ints_alike _ _
def bookD (g : Sg) (m rs : D) : Bool := withinD m 1 200 && (szD rs 0 2000 && (match m, rs with
  | .int m, .tuple rs => rs.all (ruleD g m) && risingD rs
  | _, _ => false))
theorem r_is_book (g : Sg) (hg : GoodSg g) (m rs : D) (hf : ∀ rs', rs = .tuple rs' → ∀ r ∈ rs', ∀ k n ks, r = .tuple [k, n, ks] → fitD n = true) (hl : ∀ rs', rs = .tuple rs' → ∀ r ∈ rs', ∀ k n xs, r = .tuple [k, n, .tuple xs] → xs.length ≤ sizeLine) :
    val (g_is_book [.dat (.tuple [sgD g, m, rs])]) = some (.ok (.dat (.bool (bookD g m rs)))) := by
  unfold g_is_book p_is_book
  have hs := r_is_signature (sgD g) hg.fit
  rw [hg.is] at hs
  have s3 : szD (.tuple [sgD g, m, rs]) 3 3 = true := rfl
  by_cases h1 : withinD m 1 200 = true
  · cases m with
    | int m =>
      by_cases h2 : szD rs 0 2000 = true
      · cases rs with
        | tuple xs =>
          have hl2 : xs.length ≤ 2000 := by simp [szD] at h2; omega
          simp [r_is_sized, r_is_within, hs, s3, h1, h2, dict_sg hg.nd, bookD]
          generalize hX : lcLoop _ _ _ _ _ _ _ = X
          rw [← List.map_id xs] at hX
          obtain ⟨ρ', rfl, hρ⟩ := lc_mapZ hX (fun r => .bool (ruleD g m r)) [some (.dat (.tuple [sgD g, .int m, .tuple xs])), some (rkO g), none] (by rw [sizeLine_eq]; omega) (fun r hr ρ' h => by
            have e := r_is_rule g m r (hf xs rfl r hr) (hl xs rfl r hr)
            unfold rkO at e
            rcases h with rfl | rfl <;> simp [rkO, e])
          by_cases h3 : xs.all (ruleD g m) = true
          · have hi := fun r hr => ruleD_inv (List.all_eq_true.mp h3 r hr)
            have hc : CmpN xs := cmpN_of (fun r hr => by
              obtain ⟨s, rfl, _, _, k, _⟩ := hi r hr
              exact rlD_cmp k) (fun a ha b hb => by
              obtain ⟨s, rfl, _⟩ := hi a ha
              obtain ⟨t, rfl, _⟩ := hi b hb
              exact rlD_alike s t)
            have e := r_are_rising (d := .tuple xs) (.inl rfl) (by omega) hc
            rcases hρ with rfl | rfl <;> simp [restE, h3, e]
          · rcases hρ with rfl | rfl <;> simp [restE, h3]
        | _ => cases h2
      · simp [r_is_sized, r_is_within, hs, s3, h1, h2, dict_sg hg.nd, bookD]
    | _ => cases h1
  · simp [r_is_sized, r_is_within, hs, s3, h1, bookD]
/-- no book: not three, or the first no signature -/
theorem r_is_book3 {d : D} (h : szD d 3 3 = false) : val (g_is_book [.dat d]) = some (.ok (.dat (.bool false))) := by
  unfold g_is_book p_is_book
  simp [r_is_sized, h]
theorem r_is_bookS {s m rs : D} (h : sigD s = false) (hf : ∀ ps, s = .tuple ps → ∀ p ∈ ps, ∀ a b, p = .tuple [a, b] → fitD a = true) : val (g_is_book [.dat (.tuple [s, m, rs])]) = some (.ok (.dat (.bool false))) := by
  unfold g_is_book p_is_book
  have hs := r_is_signature s hf
  rw [h] at hs
  have s3 : szD (.tuple [s, m, rs]) 3 3 = true := rfl
  simp [r_is_sized, s3, hs]
theorem r_check_book {d : D} {b : Bool} (h : val (g_is_book [.dat d]) = some (.ok (.dat (.bool b)))) : val (g_check_book [.dat d]) = some (if b = true then .ok (.dat .none) else .ex ⟨"NoBook", none⟩) := by
  unfold g_check_book p_check_book
  cases b <;> simp [h]
/-- a book that is one -/
structure GoodBk (B : Bk) : Prop where
  sg : GoodSg B.sg
  is : bookD B.sg (.int B.many) (.tuple (B.rules.map rlD)) = true
theorem GoodBk.rule {B : Bk} (h : GoodBk B) : ∀ r ∈ B.rules, 0 ≤ r.1 ∧ r.1 < B.many ∧ nameS r.2.1 = true ∧ rk B.sg r.2.1 = some (r.2.2.length : Int) ∧ ∀ k ∈ r.2.2, 0 ≤ k ∧ k < B.many := by
  intro r hr
  have := h.is
  simp only [bookD, Bool.and_eq_true, List.all_eq_true] at this
  obtain ⟨s, e, b⟩ := ruleD_inv (this.2.2.1 (rlD r) (List.mem_map.mpr ⟨r, hr, rfl⟩))
  have : r = s := by
    unfold rlD ltD at e
    simp only [PyData.tuple.injEq, List.cons.injEq, PyData.int.injEq, PyData.str.injEq, and_true] at e
    obtain ⟨e1, e2, e3⟩ := e
    have := (List.map_inj_right (f := PyData.int) (fun _ _ e => PyData.int.inj e)).mp e3
    exact Prod.ext e1 (Prod.ext e2 this)
  rw [this]
  exact b
theorem GoodBk.rk {B : Bk} (h : GoodBk B) : RkOk B.sg B.rules := fun r hr => (h.rule r hr).2.2.2.1
theorem GoodBk.len {B : Bk} (h : GoodBk B) : B.rules.length ≤ 2000 := by
  have := h.is
  simp only [bookD, Bool.and_eq_true, szD] at this
  have := this.2.1.2
  simp at this
  omega
theorem GoodBk.many {B : Bk} (h : GoodBk B) : 1 ≤ B.many ∧ B.many ≤ 200 := by
  have := h.is
  simp only [bookD, Bool.and_eq_true, withinD, decide_eq_true_eq] at this
  exact this.1
theorem r_is_bk {B : Bk} (h : GoodBk B) : val (g_is_book [.dat (bkD B)]) = some (.ok (.dat (.bool true))) := by
  have e := r_is_book B.sg h.sg (.int B.many) (.tuple (B.rules.map rlD)) (fun rs' e r hr k n ks e2 => by
    cases e
    obtain ⟨s, hs, rfl⟩ := List.mem_map.mp hr
    cases e2
    have := name_fit (h.rule s hs).2.2.1
    simpa [fitD] using this) (fun rs' e r hr k n xs e2 => by
    cases e
    obtain ⟨s, hs, rfl⟩ := List.mem_map.mp hr
    cases e2
    obtain ⟨_, _, _, q, _⟩ := h.rule s hs
    have := (h.sg.rank _ (rk_mem q)).2
    dsimp only at this
    rw [List.length_map, sizeLine_eq]
    omega)
  rw [h.is] at e
  exact e
theorem r_check_bk {B : Bk} (h : GoodBk B) : val (g_check_book [.dat (bkD B)]) = some (.ok (.dat .none)) := r_check_book (r_is_bk h)
theorem r_check_kind (B : Bk) (k : D) : val (g_check_kind [.dat (bkD B), .dat k]) = some (if withinD k 0 (B.many - 1) = true then .ok (.dat .none) else .ex ⟨"NoKind", none⟩) := by
  unfold g_check_kind p_check_kind bkD
  by_cases h : withinD k 0 (B.many - 1) = true <;> simp [r_is_within, h]
theorem r_rules_by_label {B : Bk} (h : GoodBk B) : val (g_rules_by_label [.dat (bkD B)]) = some (.ok (.dil (dilOf B.sg B.rules))) := by
  unfold g_rules_by_label p_rules_by_label bkD sgD
  have hd : ∀ (gs acc : Sg), ((acc ++ gs).map (·.1)).Nodup → (∀ p ∈ gs, p.1.length ≤ sizeLine) → gs.length + acc.length ≤ 10 → dcLoop [1, 5] (gTp 2 (gsCons (gNm 1) (gsCons (gNm 5) gsNil))) trueM (getD 1) (lstM nilM) (gs.map prD) (.dil (dilOf acc [])) [some (.dat (bkD B)), none, none, none, none, none] = some (.dil (dilOf (acc ++ gs) []), [some (.dat (bkD B)), none, none, none, none, none]) := by
    intro gs
    induction gs with
    | nil => intro acc _ _ _; simp [dcLoop]
    | cons p gs ih =>
      intro acc nd hn hl
      have nk : ((dilOf acc []).any fun kv => decide (kv.1 = Sum.inr p.1)) = false := by
        rw [Bool.eq_false_iff]
        intro z
        obtain ⟨q, m, e⟩ := List.any_eq_true.mp z
        have mk : q.1 ∈ (dilOf acc []).map (·.1) := List.mem_map.mpr ⟨q, m, rfl⟩
        rw [dilOf_keys] at mk
        obtain ⟨y, my, ey⟩ := List.mem_map.mp mk
        simp at e
        rw [e] at ey
        have := Sum.inr.inj ey
        rw [List.map_append, List.nodup_append] at nd
        exact nd.2.2 y my p.1 (by simp) this
      have ll : (dilOf acc []).length < 16777216 := by
        unfold dilOf
        rw [List.length_map]
        simp at hl
        omega
      rw [List.map_cons]
      unfold dcLoop
      have e1 : dcPut (.dil (dilOf acc [])) (.inr p.1) (.lst []) = some (.dil (dilOf (acc ++ [p]) [])) := by
        show (if _ then _ else _) = _
        rw [if_pos ⟨by simpa using ll, nk⟩]
        simp [dilOf, tbl]
      simp [prD, keyD, e1]
      have := ih (acc ++ [p]) (by simpa using nd) (fun q m => hn q (List.mem_cons_of_mem _ m)) (by simp at hl ⊢; omega)
      simpa using this
  have hd0 := hd B.sg [] (by simpa using h.sg.nd) (fun p hp => name_fit (h.sg.name p hp)) (by simpa using h.sg.len)
  unfold bkD sgD at hd0
  have e0 : dilOf [] [] = [] := rfl
  rw [e0] at hd0
  simp [hd0, restE]
  clear hd hd0 e0
  generalize hX : forL _ _ _ _ = X
  obtain ⟨ρ', rfl, a, b, c, rfl⟩ := for_XE hX (fun rs ρ => ∃ a b c, ρ = [some (.dat (bkD B)), a, some (.dil (dilOf B.sg rs)), b, c, none]) ⟨_, _, _, rfl⟩ (fun pre r post ρ eq ⟨a, b, c, e⟩ => by
    subst e
    have hr := h.rule r (by rw [eq]; simp)
    have hk : r.2.1 ∈ B.sg.map (·.1) := List.mem_map.mpr ⟨_, rk_mem hr.2.2.2.1, rfl⟩
    have nd : ((dilOf B.sg pre).map (·.1)).Nodup := by
      rw [dilOf_keys]
      exact nodup_inr h.sg.nd
    have ek : dilKey (.dil (dilOf B.sg pre)) (.str r.2.1) = some (dilOf B.sg pre, .inr r.2.1, (tbl pre r.2.1).map rwD) := by
      show (if _ then _ else _) = _
      rw [if_pos nd]
      simp [keyD, dilOf_look hk]
    have le : (tbl pre r.2.1).length < 16777216 := by
      have h1 := h.len
      have h2 : pre.length ≤ B.rules.length := by rw [eq]; simp
      have h3 : (tbl pre r.2.1).length ≤ pre.length := by
        unfold tbl
        rw [List.length_map]
        exact List.length_filter_le _ _
      omega
    have es := dilOf_set B.sg pre r
    simp [rlD, ek, le, rwD, ltD] at es ⊢
    exact es)
  simp
theorem zip_rw (ks : List Int) (ls : List (List Int)) : zipG [ltD ks, .list (ls.map ltD)] = some ((ks.zip ls).map fun p => .tuple [.int p.1, ltD p.2]) := by
  show some (zipD (ks.map .int) (ls.map ltD)) = _
  rw [zip_lots]
theorem r_step_of {rs : List Rw} {lots : List (List Int)} (hk : ∀ r ∈ rs, 0 ≤ r.1 ∧ r.1 < 63) (hl : ∀ r ∈ rs, r.2.length ≤ 1000) : val (g_step_of [.dat (.list (rs.map rwD)), .dat (.list (lots.map ltD))]) = some (.ok (.dat (ltD (stepL rs lots)))) := by
  unfold g_step_of p_step_of
  simp
  generalize hX : forL _ _ _ _ = X
  obtain ⟨ρ', rfl, a, b, rfl⟩ := for_XE hX (fun pre ρ => ∃ a b, ρ = [some (.dat (.list (rs.map rwD))), some (.dat (.list (lots.map ltD))), some (.dic (dkK (foundK pre lots))), a, b, none, none]) ⟨_, _, rfl⟩ (fun pre r post ρ eq ⟨a, b, e⟩ => by
    subst e
    have hm : r ∈ rs := by rw [eq]; simp
    have lz : (r.2.zip lots).length ≤ sizeLine := by
      rw [List.length_zip, sizeLine_eq]
      have := hl r hm
      omega
    have lf : (dkK (foundK pre lots)).length < 16777216 := by
      have := foundK_len (rs := pre) (lots := lots) fun r hr => hk r (by rw [eq]; simp [hr])
      unfold dkK
      rw [List.length_map]
      omega
    simp [rwD, zip_rw]
    rw [lc_mapE (fun p => .bool (decide (p.1 ∈ p.2))) lz (fun p hp => by simp)]
    simp [restE, zip_fits]
    have ef := foundK_app pre r lots
    cases q : fitsB r.2 lots with
    | false =>
      rw [q, if_neg (by simp)] at ef
      simp [ef]
    | true =>
      rw [q, if_pos rfl] at ef
      simp [stoG, lf, keyD, putD_dk, ef])
  have ll : (foundK rs lots).length < 64 := by
    have := foundK_len (rs := rs) (lots := lots) hk
    omega
  have es := sorted_dk ll
  simp [es, stepL, ltD]
end Sh.Own
set_option Elab.async false
set_option linter.all false
set_option maxRecDepth 100000
set_option maxHeartbeats 2000000
namespace Sh.Own
open PySem PySem.Spec PyProof.Rows L2 Sh
theorem rng3_down {n : Nat} (h : n ≤ 1000000) : rng3 [.int ((n : Int) - 1), .int (-1), .int (-1)] = some ((List.range n).map fun i => .int ((n : Int) - 1 - (i : Nat))) := by
  unfold rng3 rgCD
  have s1 : smI ((n : Int) - 1) = true := by unfold smI; simp; omega
  have s2 : smI (-1) = true := by decide
  dsimp only
  rw [if_pos ⟨s1, s2, rfl⟩]
  have e : ((n : Int) - 1 - -1).toNat = n := by omega
  rw [e]
  congr 1
  refine List.map_congr_left fun i _ => ?_
  congr 1
  omega
abbrev lotF (R : List Rl) : Str → List (List Int) → List Int := fun l ls => stepL (tbl R l) ls
/-- what lies behind when so many nodes are done -/
def behL (R : List Rl) (t : Tr) (i : Nat) : List (List Int) := (t.pre.reverse.take i).foldl (Tr.turnN (lotF R)) []
def fndL (R : List Rl) (t : Tr) (i : Nat) : List D := List.replicate (t.pre.length - i) .none ++ (t.pre.drop (t.pre.length - i)).map fun s => ltD (lotT R s)
theorem beh_at {R : List Rl} {t s : Tr} {i k : Nat} (hk : t.pre.length = i + 1 + k) (hs : t.pre[k]? = some s) : ∃ st, behL R t i = st ++ (s.parts.map (lotT R)).reverse ∧ behL R t (i + 1) = st ++ [lotT R s] := by
  have h1 : t.pre.reverse[i]? = some s := by
    rw [List.getElem?_reverse (by omega), show t.pre.length - 1 - i = k by omega, hs]
  obtain ⟨hl, hs2⟩ := List.getElem?_eq_some_iff.mp h1
  have e : t.pre.reverse = t.pre.reverse.take i ++ s :: t.pre.reverse.drop (i + 1) := by
    rw [← hs2, ← List.drop_eq_getElem_cons hl, List.take_append_drop]
  obtain ⟨st, q⟩ := Tr.turn_at (lotF R) t [] _ _ _ e
  refine ⟨st, q, ?_⟩
  unfold behL
  rw [List.take_add_one, h1, List.foldl_append]
  show Tr.turnN (lotF R) ((t.pre.reverse.take i).foldl (Tr.turnN (lotF R)) []) s = _
  rw [q, Tr.turn_step]
  rfl
theorem turnN_len {α : Type} (f : Str → List α → α) (st : List α) (s : Tr) : (Tr.turnN f st s).length ≤ st.length + 1 := by
  unfold Tr.turnN
  rw [List.length_append, List.length_take, List.length_singleton]
  omega
theorem turns_len {α : Type} (f : Str → List α → α) : ∀ (ss : List Tr) (st : List α), (ss.foldl (Tr.turnN f) st).length ≤ st.length + ss.length
  | [], st => by simp
  | s :: ss, st => by
    rw [List.foldl_cons]
    have h1 := turns_len f ss (Tr.turnN f st s)
    have h2 := turnN_len f st s
    rw [List.length_cons]
    omega
theorem beh_len (R : List Rl) (t : Tr) (i : Nat) : (behL R t i).length ≤ t.pre.length := by
  have := turns_len (lotF R) (t.pre.reverse.take i) []
  unfold behL
  rw [List.length_take] at this
  simp at this
  omega
theorem fnd_set {R : List Rl} {t s : Tr} {i k : Nat} (hk : t.pre.length = i + 1 + k) (hs : t.pre[k]? = some s) : (fndL R t i).set k (ltD (lotT R s)) = fndL R t (i + 1) := by
  unfold fndL
  rw [show t.pre.length - i = k + 1 by omega, show t.pre.length - (i + 1) = k by omega]
  obtain ⟨hl, hs2⟩ := List.getElem?_eq_some_iff.mp hs
  have h2 : t.pre.drop k = s :: t.pre.drop (k + 1) := by rw [← hs2, ← List.drop_eq_getElem_cons hl]
  rw [h2, List.set_append_left _ _ (by simp), List.map_cons, List.replicate_succ']
  rw [List.set_append_right _ _ (by simp)]
  simp
theorem fnd_len {R : List Rl} {t : Tr} {i k : Nat} (hk : t.pre.length = i + 1 + k) : (fndL R t i).length = t.pre.length := by
  unfold fndL
  simp
theorem okT_pre {g : Sg} {t : Tr} (h : okT g t) : ∀ s ∈ t.pre, okT g s := by
  induction t using Tr.ind with
  | h l ps ih =>
    intro s hs
    rw [Tr.pre, List.mem_cons] at hs
    rcases hs with rfl | hs
    · exact h
    · rw [okT_nd] at h
      have key : ∀ qs : List Tr, (∀ p ∈ qs, okT g p ∧ ∀ s ∈ p.pre, okT g s) → ∀ s ∈ Tr.pres qs, okT g s := by
        intro qs
        induction qs with
        | nil => intro _ s h; simp [Tr.pres] at h
        | cons q qs ih2 =>
          intro hq s h
          rw [Tr.pres, List.mem_append] at h
          rcases h with h | h
          · exact (hq q List.mem_cons_self).2 s h
          · exact ih2 (fun p m => hq p (List.mem_cons_of_mem _ m)) s h
      exact key ps (fun p m => ⟨h.2 p m, ih p m (h.2 p m)⟩) s hs
theorem stoG_lst {ds : List D} {k : Nat} {d : D} (h : k < ds.length) : stoG (.int k) d (.lst ds) = some (.none, .lst (ds.set k d)) := by
  unfold stoG ixN
  dsimp only
  rw [if_pos (by omega), if_pos (by omega)]
  simp
theorem r_lots_in {B : Bk} (hB : GoodBk B) (hm : B.many ≤ 63) {t : Tr} (ho : okT B.sg t) (hs : t.size ≤ 300000) : val (g_lots_in [.dat (bkD B), .dat t.d]) = some (.ok (.lst (t.pre.map fun s => ltD (lotT B.rules s)))) := by
  unfold g_lots_in p_lots_in
  have e1 := mul_list1 .none (n := t.pre.length) (by rw [Tr.pre_len]; omega)
  have e2 := rng3_down (n := t.pre.length) (by rw [Tr.pre_len]; omega)
  simp [r_rules_by_label hB, r_raw_nodes t hs, e1, e2]
  generalize hX : forL _ _ _ _ = X
  obtain ⟨ρ', rfl, tb, hb, a, b, c, d, rfl⟩ := for_XE hX (fun pre ρ => ∃ tb, (tb = .dil (dilOf B.sg B.rules) ∨ tb = .dat (O.dil (dilOf B.sg B.rules)).view) ∧ ∃ a b c d, ρ = [some (.dat (bkD B)), some (.dat t.d), some tb, some (.lst (t.pre.map Tr.d)), some (.lst (fndL B.rules t pre.length)), some (.lst ((behL B.rules t pre.length).map ltD)), a, b, c, d, none])
    ⟨_, .inl rfl, none, none, none, none, by simp [fndL, behL]⟩ (fun pre i post ρ eq ⟨tb, hb, a, b, c, d, e⟩ => by
    subst e
    have hlt : pre.length < t.pre.length := by
      rw [← List.length_range (n := t.pre.length), eq]; simp
    have hi : i = pre.length := by
      have h1 : (List.range t.pre.length)[pre.length]? = some i := by rw [eq]; simp
      rw [List.getElem?_range hlt] at h1
      exact (Option.some.inj h1).symm
    subst hi
    obtain ⟨k, hk⟩ : ∃ k, t.pre.length = pre.length + 1 + k := ⟨t.pre.length - (pre.length + 1), by omega⟩
    have es : t.pre[k]? = some t.pre[k] := List.getElem?_eq_getElem (by omega)
    generalize hs' : t.pre[k] = s at es
    have os : okT B.sg s := okT_pre ho s (List.mem_of_getElem? es)
    have ek : (t.pre.length : Int) - 1 - pre.length = (k : Int) := by omega
    obtain ⟨st, b1, b2⟩ := beh_at (R := B.rules) hk es
    have f1 := fnd_set (R := B.rules) hk es
    have f2 := fnd_len (R := B.rules) hk
    have f3 : k < (fndL B.rules t pre.length).length := by omega
    cases s with
    | nd l ps =>
      rw [okT_nd] at os
      have hl : l ∈ B.sg.map (·.1) := List.mem_map.mpr ⟨_, rk_mem os.1, rfl⟩
      have dv := dval_dil (R := B.rules) hl
      have lp : ps.length ≤ 2 := by
        have := (hB.sg.rank _ (rk_mem os.1)).2
        dsimp only at this
        omega
      have so := r_step_of (rs := tbl B.rules l) (lots := ps.map (lotT B.rules)) (fun r hr => by
        unfold tbl at hr
        obtain ⟨q, hq, rfl⟩ := List.mem_map.mp hr
        have := hB.rule q (List.mem_filter.mp hq).1
        dsimp only
        omega) (fun r hr => by
        unfold tbl at hr
        obtain ⟨q, hq, rfl⟩ := List.mem_map.mp hr
        have h1 := (hB.rule q (List.mem_filter.mp hq).1).2.2.2.1
        have := (hB.sg.rank _ (rk_mem h1)).2
        dsimp only at this ⊢
        omega)
      rw [List.map_map] at so
      have b1' : (behL B.rules t pre.length).map ltD = st.map ltD ++ ((ps.map (lotT B.rules)).map ltD).reverse := by
        rw [b1]
        simp [Tr.parts]
      have hst : st.length < 16777216 := by
        have h1 := beh_len B.rules t pre.length
        have h2 := congrArg List.length b1
        rw [List.length_append] at h2
        have h3 := Tr.pre_len t
        omega
      rw [lotT_nd] at f1 b2
      have f4 : (fndL B.rules t (pre.length + 1))[k]? = some (ltD (stepL (tbl B.rules l) (ps.map (lotT B.rules)))) := by
        rw [← f1, List.getElem?_set_self f3]
      simp only [ek]
      rcases hb with rfl | rfl <;>
      · simp [es, Tr.d_nd]
        rw [lc_pop (xs := (ps.map (lotT B.rules)).map ltD) (st := st.map ltD) rfl (by simp [b1']) (by simp) (by simp; omega)]
        simp [restE, keyD, ixD, O.view, dv, so, stoG_lst f3, f3, hst, f1, f4, b2])
  have ef : fndL B.rules t (List.range t.pre.length).length = t.pre.map fun s => ltD (lotT B.rules s) := by
    unfold fndL
    rw [List.length_range, Nat.sub_self, List.drop_zero]
    rfl
  rw [ef]
  rfl
theorem r_raw_kinds_of {B : Bk} (hB : GoodBk B) (hm : B.many ≤ 63) {t : Tr} (ho : okT B.sg t) (hs : t.size ≤ 300000) : val (g_raw_kinds_of [.dat (bkD B), .dat t.d]) = some (.ok (.dat (ltD (lotT B.rules t)))) := by
  unfold g_raw_kinds_of p_raw_kinds_of
  obtain ⟨r, e⟩ : ∃ r, t.pre.map (fun s => ltD (lotT B.rules s)) = ltD (lotT B.rules t) :: r := by
    cases t with
    | nd l ps => exact ⟨_, by rw [Tr.pre, List.map_cons]⟩
  simp [r_lots_in hB hm ho hs, e]
theorem r_kinds_of {B : Bk} (hB : GoodBk B) (hm : B.many ≤ 63) {t : Tr} (ho : okT B.sg t) (hs : t.size ≤ 300000) : val (g_kinds_of [.dat (bkD B), .dat t.d]) = some (.ok (.dat (ltD (lotT B.rules t)))) := by
  unfold g_kinds_of p_kinds_of
  have e : ixD (bkD B) (.int 0) = some (sgD B.sg) := by simp [bkD]
  simp [r_check_bk hB, e, r_check_ok hB.sg ho hs, r_raw_kinds_of hB hm ho hs]
open Classical in
/-- what is refused ahead of all that asks a book, a kind and a tree -/
theorem r_check_kind_tree {B : Bk} (hB : GoodBk B) (k d : D) (hw : wD d ≤ 1000000) : val (g_check_kind_tree [.dat (bkD B), .dat k, .dat d]) = some (if withinD k 0 (B.many - 1) = true then (if isTr B.sg d then .ok (.dat .none) else .ex ⟨"NoTree", none⟩) else .ex ⟨"NoKind", none⟩) := by
  unfold g_check_kind_tree p_check_kind_tree
  have e : ixD (bkD B) (.int 0) = some (sgD B.sg) := by simp [bkD]
  by_cases h1 : withinD k 0 (B.many - 1) = true
  · by_cases h2 : isTr B.sg d <;> simp [r_check_bk hB, r_check_kind, h1, h2, e, r_check_tree hB.sg d hw]
  · simp [r_check_bk hB, r_check_kind, h1]
theorem r_check_kind_tree_no {d : D} (h : val (g_is_book [.dat d]) = some (.ok (.dat (.bool false)))) (k t : D) : val (g_check_kind_tree [.dat d, .dat k, .dat t]) = some (.ex ⟨"NoBook", none⟩) := by
  unfold g_check_kind_tree p_check_kind_tree
  have e := r_check_book h
  rw [if_neg (by simp)] at e
  simp [e]
theorem r_is_tree_of {B : Bk} (hB : GoodBk B) (hm : B.many ≤ 63) (k : Int) {t : Tr} (ho : okT B.sg t) (hs : t.size ≤ 300000) : val (g_is_tree_of [.dat (bkD B), .dat (.int k), .dat t.d]) = some (.ok (.dat (.bool (decide (k ∈ lotT B.rules t))))) := by
  unfold g_is_tree_of p_is_tree_of
  have e : ixD (bkD B) (.int 0) = some (sgD B.sg) := by simp [bkD]
  simp [e, r_raw_is_tree hB.sg _ (wD_le hs), isTr_of ho, r_raw_kinds_of hB hm ho hs]
theorem r_is_of {B : Bk} (hB : GoodBk B) (hm : B.many ≤ 63) {k : Int} (hk : 0 ≤ k ∧ k < B.many) {t : Tr} (ho : okT B.sg t) (hs : t.size ≤ 300000) : val (g_is_of [.dat (bkD B), .dat (.int k), .dat t.d]) = some (.ok (.dat (.bool (decide (k ∈ lotT B.rules t))))) := by
  unfold g_is_of p_is_of
  have h1 : withinD (.int k) 0 (B.many - 1) = true := by
    simp [withinD]
    omega
  simp [r_check_bk hB, r_check_kind, h1, r_is_tree_of hB hm k ho hs]
end Sh.Own
set_option Elab.async false
set_option linter.all false
set_option maxRecDepth 100000
set_option maxHeartbeats 2000000
/-! Pk, part F: trees mended. -/
namespace Sh.Own
open PySem PySem.Spec PyProof.Rows L2 Sh
/-- the pairs of nodes of two trees of one form -/
def prsD (st : List (Tr × Tr)) : List D := st.map fun p => .tuple [p.1.d, p.2.d]
def sumC : List (Tr × Tr) → Int
  | [] => 0
  | p :: r => chg p.1 p.2 + sumC r
theorem sumC_app : ∀ xs ys : List (Tr × Tr), sumC (xs ++ ys) = sumC xs + sumC ys
  | [], _ => by simp [sumC]
  | x :: xs, ys => by rw [List.cons_append, sumC, sumC, sumC_app xs ys]; omega
theorem sumC_zip : ∀ ps qs : List Tr, sumC (ps.zip qs) = chgs ps qs
  | [], _ => by simp [sumC, chgs]
  | _ :: _, [] => by simp [sumC, chgs]
  | p :: ps, q :: qs => by rw [List.zip_cons_cons, sumC, chgs, sumC_zip ps qs]
theorem forms_zip : ∀ {ps qs : List Tr}, forms ps qs → ∀ x ∈ ps.zip qs, form x.1 x.2
  | [], [], _, x, h => by simp at h
  | p :: ps, q :: qs, f, x, h => by
    rw [forms] at f
    rw [List.zip_cons_cons, List.mem_cons] at h
    rcases h with rfl | h
    · exact f.1
    · exact forms_zip f.2 x h
  | [], _ :: _, f, _, _ => by rw [forms] at f; exact f.elim
  | _ :: _, [], f, _, _ => by rw [forms] at f; exact f.elim
theorem zip_trees : ∀ ps qs : List Tr, zipD (ps.map Tr.d) (qs.map Tr.d) = prsD (ps.zip qs)
  | [], _ => by simp [zipD, prsD]
  | _ :: _, [] => by simp [zipD, prsD]
  | p :: ps, q :: qs => by
    have := zip_trees ps qs
    unfold prsD at this ⊢
    simp [zipD, this]
theorem lay_nd {l : Str} {ps : List Tr} (h : (Tr.nd l ps).d.canLay0 = true) : (PyData.str l).canLay0 = true ∧ ∀ p ∈ ps, p.d.canLay0 = true := by
  rw [Tr.d_nd] at h
  have key : ∀ qs : List Tr, PyData.canLayAll0 (qs.map Tr.d) = true → ∀ p ∈ qs, p.d.canLay0 = true := by
    intro qs
    induction qs with
    | nil => intro _ p h; cases h
    | cons q qs ih =>
      intro h p hp
      rw [List.map_cons, PyData.canLayAll0, Bool.and_eq_true] at h
      rcases List.mem_cons.mp hp with rfl | hp
      · exact h.1
      · exact ih h.2 p hp
  simp only [PyData.canLay0, PyData.canLayAll0, Bool.and_eq_true, Bool.and_true] at h ⊢
  exact ⟨h.1, key ps h.2⟩
def szs (st : List (Tr × Tr)) : Nat := Tr.sizes (st.map (·.1))
theorem szs_app (xs ys : List (Tr × Tr)) : szs (xs ++ ys) = szs xs + szs ys := by
  unfold szs
  rw [List.map_append, Tr.sizes_app]
theorem szs_zip : ∀ {ps qs : List Tr}, ps.length = qs.length → szs (ps.zip qs) = Tr.sizes ps := by
  intro ps qs h
  unfold szs
  rw [List.map_fst_zip (by omega)]
theorem lz_trees {ps qs : List Tr} (hl : ps.length ≤ 1000000) : lzG [.tuple (ps.map Tr.d), .tuple (qs.map Tr.d)] = some (prsD (ps.zip qs)) := by
  unfold lzG seqQ
  dsimp only
  rw [Option.bind_some, Option.bind_some, if_pos (by rw [sizeLine_eq]; simp; omega)]
  simp [zip_trees]
/-- the turn that both functions share -/
structure ChI (s t : Tr) (c : Int) (st : List (Tr × Tr)) : Prop where
  sum : c + sumC st = chg s t
  form : ∀ x ∈ st, Sh.form x.1 x.2
  lay : ∀ x ∈ st, x.1.d.canLay0 = true ∧ x.2.d.canLay0 = true
  small : szs st ≤ 300000
theorem ChI.turn {s t : Tr} {c : Int} {st : List (Tr × Tr)} {l l' : Str} {ps qs : List Tr} (h : ChI s t c (st ++ [(.nd l ps, .nd l' qs)])) : ChI s t (c + (if l = l' then 0 else 1)) (st ++ ps.zip qs) ∧ szs (st ++ ps.zip qs) < szs (st ++ [(.nd l ps, .nd l' qs)]) ∧ ps.length = qs.length ∧
    st.length + (ps.zip qs).length ≤ 300000 ∧ neB (.str l) (.str l') = some (!decide (l = l')) := by
  have f := h.form (.nd l ps, .nd l' qs) (by simp)
  dsimp only at f
  rw [form_nd] at f
  have hl := forms_len f
  obtain ⟨y1, y2⟩ := h.lay (.nd l ps, .nd l' qs) (by simp)
  obtain ⟨y3, y4⟩ := lay_nd y1
  obtain ⟨y5, y6⟩ := lay_nd y2
  have hs := h.small
  rw [szs_app] at hs
  have e1 : szs [(Tr.nd l ps, Tr.nd l' qs)] = Tr.sizes ps + 1 := by simp [szs, Tr.sizes, Tr.size]
  have e2 : szs (ps.zip qs) = Tr.sizes ps := szs_zip hl
  have l1 : st.length ≤ szs st := by
    have := Tr.sizes_len (st.map (·.1))
    rw [List.length_map] at this
    exact this
  have l2 := Tr.sizes_len ps
  refine ⟨⟨?_, fun x hx => ?_, fun x hx => ?_, ?_⟩, ?_, hl, ?_, e_neBS y3 y5⟩
  · have := h.sum
    rw [sumC_app, sumC, sumC] at this
    dsimp only at this
    rw [chg_nd] at this
    rw [sumC_app, sumC_zip]
    omega
  · rcases List.mem_append.mp hx with hx | hx
    · exact h.form x (List.mem_append_left _ hx)
    · exact forms_zip f x hx
  · rcases List.mem_append.mp hx with hx | hx
    · exact h.lay x (List.mem_append_left _ hx)
    · exact ⟨y4 _ (List.of_mem_zip hx).1, y6 _ (List.of_mem_zip hx).2⟩
  · rw [szs_app, e2]; omega
  · rw [szs_app, szs_app, e1, e2]; omega
  · rw [List.length_zip]; omega
theorem r_raw_changes {s t : Tr} (f : form s t) (hs : s.d.canLay0 = true) (ht : t.d.canLay0 = true) (hz : s.size ≤ 300000) : val (g_raw_changes [.dat s.d, .dat t.d]) = some (.ok (.dat (.int (chg s t)))) := by
  unfold g_raw_changes p_raw_changes
  simp
  refine while_C (C := fun r => rn (sq r _) = _) (σ := Int × List (Tr × Tr)) (fun x ρ => ChI s t x.1 x.2 ∧ ∃ a b, ρ = [some (.dat s.d), some (.dat t.d), some (.dat (.int x.1)), some (.lst (prsD x.2)), a, b]) (fun x => szs x.2) (0, [(s, t)])
    ⟨⟨by simp [sumC], by simp [f], by simp [hs, ht], by simp [szs, Tr.sizes]; omega⟩, _, _, rfl⟩ ?_
  rintro ⟨c, st⟩ ρ ⟨hi, a, b, rfl⟩
  dsimp only at hi ⊢
  rcases List.eq_nil_or_concat st with rfl | ⟨st, h, rfl⟩
  · refine ⟨false, _, by simp [prsD]; rfl, ?_⟩
    have := hi.sum
    simp [sumC] at this
    simp [this]
  · refine ⟨true, _, by simp [prsD]; rfl, ?_⟩
    simp only [List.concat_eq_append] at *
    obtain ⟨x, y⟩ := h
    cases x with
    | nd l ps =>
      cases y with
      | nd l' qs =>
        obtain ⟨j1, j2, j3, j4, j5⟩ := hi.turn
        have lz := lz_trees (qs := qs) (show ps.length ≤ 1000000 by rw [List.length_zip] at j4; omega)
        have j6 : st.length + qs.length ≤ 16777216 := by
          rw [List.length_zip, j3, Nat.min_self] at j4
          omega
        simp [Tr.d_nd, j3, lz, j5, prsD, j6]
        exact ⟨_, _, j2, j1, by simp⟩
theorem r_changes_between {g : Sg} (hg : GoodSg g) {s t : Tr} (f : form s t) (hs : okT g s) (ht : okT g t) (hz : s.size ≤ 300000) : val (g_changes_between [.dat (sgD g), .dat s.d, .dat t.d]) = some (.ok (.dat (.int (chg s t)))) := by
  unfold g_changes_between p_changes_between
  have hz2 : t.size ≤ 300000 := by rw [form_size f]; exact hz
  simp [r_check_both hg hs hz, r_check_ok hg ht hz2, r_raw_changes f (okT_lay hg hs) (okT_lay hg ht) hz]
theorem r_better_of {m : Mt} {k : Int} {b : Pr} (hm : ∀ e ∈ m, Sm e.2.2) (hb : Sm b.2) (hl : m.length ≤ 1000000) : valN 0 (g_better_of [.dic (mtD m), .dat (.int k), .dat (encP b)]) = some (.ok (.dat .none), some (.dic (mtD (betterF m k b)))) := by
  unfold g_better_of p_better_of
  have l1 : (mtD m).length < 16777216 := by rw [mt_len]; omega
  unfold betterF
  cases q : alook m k with
  | none => simp [inOG, keyD, dlook_mt, q, stoG, l1, putD_mt]
  | some b0 =>
    obtain ⟨e, he, e2⟩ := alook_mem q
    have lt : Sh.ltB (encP b) (encP b0) = some (Sh.ltP b b0) := Sm.ltP hb (e2 ▸ hm e he) b.1 b0.1
    cases z : Sh.ltP b b0 with
    | true => rw [z] at lt; simp [inOG, keyD, dlook_mt, q, ixO, lt, stoG, l1, putD_mt, z]
    | false => rw [z] at lt; simp [inOG, keyD, dlook_mt, q, ixO, lt, z]
theorem r_mends_of {B : Bk} (hB : GoodBk B) {l : Str} (hl : (PyData.str l).canLay0 = true) {ps : List Tr} {ms : List Mt} (hlen : ms.length = ps.length) (hm : ∀ x ∈ ps.zip ms, MtOk B.sg x.1 x.2) (hs : Tr.sizes ps + 1 ≤ 28) :
    val (g_mends_of [.dat (bkD B), .dat (.str l), .dat (.list (ms.map dictD))]) = some (.ok (.dic (mtD (mendF B.rules l ms)))) := by
  unfold g_mends_of p_mends_of
  have e1 : ixD (bkD B) (.int 2) = some (.tuple (B.rules.map rlD)) := by simp [bkD]
  simp [e1]
  generalize hX : forL _ _ _ _ = X
  have sm : ∀ (acc : Mt), MtOk B.sg (.nd l ps) acc → ∀ e ∈ acc, Sm e.2.2 := fun acc h e he => by
    obtain ⟨f, o⟩ := h e he
    refine okT_sm hB.sg o ?_
    rw [form_size f, Tr.size]
    exact hs
  obtain ⟨ρ', rfl, _, a, b, c, d, e, rfl⟩ := for_XE hX (fun pre ρ => MtOk B.sg (.nd l ps) (pre.foldl (mendStep l ms) []) ∧ ∃ a b c d e, ρ = [some (.dat (bkD B)), some (.dat (.str l)), some (.dat (.list (ms.map dictD))), some (.dic (mtD (pre.foldl (mendStep l ms) []))), a, b, c, d, e, none, none, none])
    ⟨(fun e he => by cases he), none, none, none, none, none, rfl⟩ (fun pre r post ρ eq ⟨ok, a, b, c, d, e, hρ⟩ => by
    subst hρ
    have hr := hB.rule r (by rw [eq]; simp)
    have ok2 := ok.step (r := r) hr.2.2.2.1 hlen hm
    have ll : (pre.foldl (mendStep l ms) []).length ≤ 1000000 := by
      have h1 := mends_len (l := l) (ms := ms) pre []
      have h2 := hB.len
      have h3 : B.rules.length = pre.length + (post.length + 1) := by rw [eq]; simp
      simp at h1
      omega
    have ef : (pre ++ [r]).foldl (mendStep l ms) [] = mendStep l ms (pre.foldl (mendStep l ms) []) r := by rw [List.foldl_append]; rfl
    rw [ef]
    generalize hacc : pre.foldl (mendStep l ms) [] = acc at ok ok2 ll ⊢
    have ez : zipG [ltD r.2.2, .list (ms.map dictD)] = some ((r.2.2.zip ms).map fun p => .tuple [.int p.1, dictD p.2]) := by
      show some (zipD (r.2.2.map .int) (ms.map dictD)) = _
      rw [zip_dicts]
    have lz : (r.2.2.zip ms).length ≤ sizeLine := by
      have := (hB.sg.rank _ (rk_mem hr.2.2.2.1)).2
      dsimp only at this
      rw [List.length_zip, sizeLine_eq]
      omega
    have ln : lenO (.dat (ltD r.2.2)) = some (r.2.2.length : Int) := by simp [ltD]
    by_cases h1 : r.2.2.length = ms.length
    · have h2 : (r.2.2.length : Int) = (ms.length : Int) := by omega
      simp [rlD, ln, h2, ez]
      rw [lc_mapE (fun p => .bool (alook p.2 p.1).isSome) lz (fun p hp => by simp)]
      cases hall : ((r.2.2.zip ms).all fun p => (alook p.2 p.1).isSome) with
      | false =>
        have es : mendStep l ms acc r = acc := by unfold mendStep; rw [lookAll_no h1 hall]
        rw [es] at ok2 ⊢
        simp [restE, hall, ok]
      | true =>
        have hy := lookAll_yes h1 hall
        have es : mendStep l ms acc r = betterF acc r.1 (candOf l r ((r.2.2.zip ms).map fun p => (alook p.2 p.1).getD dfl)) := by unfold mendStep; rw [hy]
        have co := cand_ok (l := l) hr.2.2.2.1 hlen hm hy
        have sc : Sm (candOf l r ((r.2.2.zip ms).map fun p => (alook p.2 p.1).getD dfl)).2 := by
          refine okT_sm hB.sg co.2 ?_
          rw [form_size co.1, Tr.size]
          exact hs
        have bo := r_better_of (k := r.1) (sm acc ok) sc ll
        rw [es] at ok2 ⊢
        have em : ((r.2.2.zip ms).map fun p => encP ((alook p.2 p.1).getD dfl)) = (((r.2.2.zip ms).map fun p => (alook p.2 p.1).getD dfl)).map encP := by rw [List.map_map]; rfl
        have lb : (((r.2.2.zip ms).map fun p => (alook p.2 p.1).getD dfl)).length ≤ sizeLine := by rw [List.length_map]; exact lz
        simp [restE, hall, ez]
        rw [lc_mapE (fun p => encP ((alook p.2 p.1).getD dfl)) lz (fun p hp => by
          obtain ⟨b, hb⟩ := Option.isSome_iff_exists.mp (List.all_eq_true.mp hall p hp)
          simp [hb])]
        rw [em]
        generalize ((r.2.2.zip ms).map fun p => (alook p.2 p.1).getD dfl) = bs at bo ok2 lb ⊢
        have ne := e_neBS (strOk_name hr.2.2.1) hl
        have se := sumP_map bs
        have ce : encP (candOf l r bs) = .tuple [.int ((if r.2.1 = l then 0 else 1) + sumP bs), .tuple [.str r.2.1, .tuple (bs.map fun b => b.2.d)]] := by
          unfold candOf encP
          rw [Tr.d_nd, List.map_map]
          by_cases q : l = r.2.1
          · rw [if_pos q, if_pos q.symm]; rfl
          · rw [if_neg q, if_neg (Ne.symm q)]; rfl
        rw [ce] at bo
        simp [restE, ne]
        rw [lc_mapE (fun b => .int b.1) lb (fun b hb => by simp)]
        simp [restE, se]
        rw [lc_mapE (fun b => b.2.d) lb (fun b hb => by simp)]
        simp [restE, ins, bo, ok2]
    · have no := lookAll_len h1
      have es : mendStep l ms acc r = acc := by unfold mendStep; rw [no]
      have h2 : ¬ ((r.2.2.length : Int) = (ms.length : Int)) := by omega
      rw [es] at ok2 ⊢
      simp [rlD, ln, h2, ok])
  simp [mendF]
theorem form_pre {t s : Tr} (h : s ∈ t.pre) : s.size ≤ t.size := by
  induction t using Tr.ind with
  | h l ps ih =>
    rw [Tr.pre, List.mem_cons] at h
    rcases h with rfl | h
    · omega
    · have key : ∀ qs : List Tr, (∀ p ∈ qs, s ∈ p.pre → s.size ≤ p.size) → s ∈ Tr.pres qs → s.size ≤ Tr.sizes qs := by
        intro qs
        induction qs with
        | nil => intro _ h; simp [Tr.pres] at h
        | cons q qs ih2 =>
          intro hq h
          rw [Tr.pres, List.mem_append] at h
          rw [Tr.sizes]
          rcases h with h | h
          · have := hq q List.mem_cons_self h; omega
          · have := ih2 (fun p m => hq p (List.mem_cons_of_mem _ m)) h; omega
      have := key ps ih h
      rw [Tr.size]
      omega
theorem r_raw_mends {B : Bk} (hB : GoodBk B) {t : Tr} (ho : okT B.sg t) (hs : t.size ≤ 28) : val (g_raw_mends [.dat (bkD B), .dat t.d]) = some (.ok (.dat (dictD (mendT B.rules t)))) := by
  unfold g_raw_mends p_raw_mends
  simp [r_raw_nodes t (by omega)]
  rw [← List.map_reverse]
  generalize hX : forL _ _ _ _ = X
  obtain ⟨ρ', rfl, a, b, c, rfl⟩ := for_XE hX (fun pre ρ => ∃ a b c, ρ = [some (.dat (bkD B)), some (.dat t.d), some (.lst ((pre.foldl (Tr.turnN (mendF B.rules)) []).map dictD)), a, b, c, none])
    ⟨none, none, none, rfl⟩ (fun pre s post ρ eq ⟨a, b, c, e⟩ => by
    subst e
    obtain ⟨st, q⟩ := Tr.turn_at (mendF B.rules) t [] _ _ _ eq
    have hm : s ∈ t.pre := by
      rw [← List.mem_reverse, eq]
      simp
    have os := okT_pre ho s hm
    have ss := form_pre hm
    have e1 : (pre ++ [s]).foldl (Tr.turnN (mendF B.rules)) [] = st ++ [mendT B.rules s] := by
      rw [List.foldl_append]
      show Tr.turnN (mendF B.rules) (pre.foldl (Tr.turnN (mendF B.rules)) []) s = _
      rw [q, Tr.turn_step, mendT_fold]
    have lst : st.length + 1 ≤ 16777216 := by
      have h1 := turns_len (mendF B.rules) (pre ++ [s]) []
      rw [e1] at h1
      have h2 : (pre ++ [s]).length ≤ t.pre.reverse.length := by rw [eq]; simp
      rw [List.length_reverse, Tr.pre_len] at h2
      simp at h1 h2
      omega
    rw [e1, q]
    cases s with
    | nd l ps =>
      rw [okT_nd] at os
      have lp : ps.length ≤ 2 := by
        have := (hB.sg.rank _ (rk_mem os.1)).2
        dsimp only at this
        omega
      have e2 : (Tr.parts (.nd l ps)).map (Tr.fold (mendF B.rules)) = ps.map (mendT B.rules) := by
        refine List.map_congr_left fun p _ => ?_
        rw [mendT_fold]
      rw [e2]
      rw [Tr.size] at ss
      have mo := r_mends_of hB (strOk_name (hB.sg.name _ (rk_mem os.1))) (ps := ps) (ms := ps.map (mendT B.rules)) (by simp) (zip_mends fun p _ => mendT_ok hB.rk p) (by omega)
      have mt : mendF B.rules l (ps.map (mendT B.rules)) = mendT B.rules (.nd l ps) := by rw [mendT, mendTs_map]
      rw [mt, List.map_map] at mo
      have lst2 : st.length < 16777216 := by omega
      simp [Tr.d_nd]
      rw [lc_pop (xs := (ps.map (mendT B.rules)).map dictD) (st := st.map dictD) rfl (by simp) (by simp) (by simp; omega)]
      simp [restE, mo, lst2, dictD])
  have e3 := Tr.turn_pre (mendF B.rules) t []
  rw [List.nil_append, ← mendT_fold] at e3
  simp [e3]
theorem r_mended {B : Bk} (hB : GoodBk B) {k : Int} (hk : 0 ≤ k ∧ k < B.many) {t : Tr} (ho : okT B.sg t) (hs : t.size ≤ 28) : val (g_mended [.dat (bkD B), .dat (.int k), .dat t.d]) = some (.ok (.dat (match alook (mendT B.rules t) k with
    | some b => b.2.d
    | none => .none))) := by
  unfold g_mended p_mended
  have h1 : withinD (.int k) 0 (B.many - 1) = true := by
    simp [withinD]
    omega
  have c := r_check_kind_tree hB (.int k) t.d (wD_le (by omega))
  rw [if_pos h1, if_pos (isTr_of ho)] at c
  cases q : alook (mendT B.rules t) k with
  | none => simp [c, r_raw_mends hB ho hs, inOG, q]
  | some b => simp [c, r_raw_mends hB ho hs, inOG, ixO, q]
open Classical in
theorem r_mended_no {B : Bk} (hB : GoodBk B) (k d : D) (hw : wD d ≤ 1000000) (h : withinD k 0 (B.many - 1) = true → ¬ isTr B.sg d) : val (g_mended [.dat (bkD B), .dat k, .dat d]) = some (.ex ⟨if withinD k 0 (B.many - 1) = true then "NoTree" else "NoKind", none⟩) := by
  unfold g_mended p_mended
  have c := r_check_kind_tree hB k d hw
  by_cases q : withinD k 0 (B.many - 1) = true
  · rw [if_pos q, if_neg (h q)] at c
    simp [c, q]
  · rw [if_neg q] at c
    simp [c, q]
theorem r_mended_nobook {d : D} (h : val (g_is_book [.dat d]) = some (.ok (.dat (.bool false)))) (k t : D) : val (g_mended [.dat d, .dat k, .dat t]) = some (.ex ⟨"NoBook", none⟩) := by
  unfold g_mended p_mended
  simp [r_check_kind_tree_no h k t]
end Sh.Own
set_option Elab.async false
set_option linter.all false
set_option maxRecDepth 100000
set_option maxHeartbeats 4000000
/-! Lw, part A: the bag, what is drawn. -/
namespace Sh.Own
open PySem PySem.Spec PyProof.Rows L2 Sh
def bagL (cs : List Int) (k : Nat) (l m n : Int) : List D := [.list (cs.map .int), .int k, .int l, .int m, .int n]
def BagOk (b : List D) : Prop := ∃ cs k l m n, b = bagL cs k l m n
@[simp] theorem e_ltBI {i j : Int} : ltB (.int i) (.int j) = some (decide (i < j)) := by
  rw [ltB_some (by simp [cmpOk, PyData.canLay0, isNone, PyData.depth]) (by simp [PyData.canLay0]) (by simp [PySem.W.alike]), dl_int]
/-- a drawn number -/
def PickOk (r : Option (Ret O × Option O)) (w : Int) : Prop := match r with
  | some (.ok (.dat (.int r)), some (.lst b)) => BagOk b ∧ 0 ≤ r ∧ r < w
  | _ => False
theorem PickOk.inv {r : Option (Ret O × Option O)} {w : Int} (h : PickOk r w) : ∃ z b, r = some (.ok (.dat (.int z)), some (.lst b)) ∧ BagOk b ∧ 0 ≤ z ∧ z < w := by
  unfold PickOk at h
  split at h
  · exact ⟨_, _, rfl, h⟩
  · exact h.elim
theorem fmod_lt {a b : Int} (h : 0 < b) : 0 ≤ a.fmod b ∧ a.fmod b < b := ⟨Int.fmod_nonneg_of_pos _ h, Int.fmod_lt_of_pos _ h⟩
@[simp] theorem e_stoL {ds : List D} {d : D} {i : Int} : stoG (.int i) d (.lst ds) = (ixN ds.length i).map fun j => (.none, .lst (ds.set j d)) := by
  first | rfl | simp [stoG]
theorem cmul_lit {i j : Int} (h : -(2 ^ 64) < j ∧ j < 2 ^ 64) : CMul i j := .inr h
theorem r_pick {b : List D} (hb : BagOk b) {w : Int} (hw : 0 < w) (hw2 : w < 1073741824) : ∃ z b', valN 0 (g__law_pick [.lst b, .dat (.int w)]) = some (.ok (.dat (.int z)), some (.lst b')) ∧ BagOk b' ∧ 0 ≤ z ∧ z < w := by
  obtain ⟨cs, k, l, m, n, rfl⟩ := hb
  refine PickOk.inv ?_
  unfold g__law_pick p__law_pick bagL
  have w0 : w ≠ 0 := by omega
  have wn : w.natAbs < 1073741824 := by omega
  have m1 : ∀ i, CMul i 48271 := fun i => cmul_lit (by decide)
  have m2 : ∀ i, CMul i 69621 := fun i => cmul_lit (by decide)
  have m3 : ∀ i, CMul 7919 i := fun i => .inl (by decide)
  have m4 : ∀ a b : Int, CMul (a.fmod 2147483647) b := fun a b => .inl (by
    have := fmod_lt (a := a) (b := 2147483647) (by decide)
    omega)
  have cp : CPow 10 18 := by decide
  have bag : ∀ (cs : List Int) (k : Nat) (l m n : Int), BagOk [.list (cs.map .int), .int k, .int l, .int m, .int n] := fun cs k l m n => ⟨cs, k, l, m, n, rfl⟩
  have bag1 : ∀ (cs : List Int) (k : Nat) (l m n : Int), BagOk [.list (cs.map .int), .int ((k : Int) + 1), .int l, .int m, .int n] := fun cs k l m n => ⟨cs, k + 1, l, m, n, rfl⟩
  by_cases hl : l = 0
  · subst hl
    by_cases hk : k < cs.length
    · have hk2 : (k : Int) < (cs.length : Int) := by omega
      obtain ⟨z, hz⟩ : ∃ z, cs[k]? = some z := ⟨_, List.getElem?_eq_getElem hk⟩
      by_cases h8 : (1000000000000000000 : Int) ≤ z
      · have z0 : 0 < z := by omega
        simp [hk2, ixN, hz, m1, m2, cp, h8, z0, w0, wn, PickOk, bag1, fmod_lt hw]
      · simp [hk2, ixN, hz, m1, m2, m3, m4, cp, h8, w0, wn, PickOk, bag1, fmod_lt hw]
    · have hk2 : ¬ (k : Int) < (cs.length : Int) := by omega
      simp [hk2, ixN, m1, m2, m3, m4, cp, w0, wn, PickOk, bag, fmod_lt hw]
  · by_cases h0 : 0 < l
    · simp [hl, h0, ixN, w0, wn, PickOk, bag, fmod_lt hw]
    · simp [hl, h0, ixN, m1, m2, m3, m4, w0, wn, PickOk, bag, fmod_lt hw]
/-- one of some things -/
theorem r_some {b : List D} (hb : BagOk b) {d : D} {ds : List D} (hd : d = .list ds ∨ d = .tuple ds) (h0 : ds ≠ []) (hl : ds.length < 1073741824) : ∃ x ∈ ds, ∃ b', valN 0 (g__law_some [.lst b, .dat d]) = some (.ok (.dat x), some (.lst b')) ∧ BagOk b' := by
  have l0 := List.length_pos_iff.mpr h0
  obtain ⟨z, b', e, hb', z0, z1⟩ := r_pick hb (w := (ds.length : Int)) (by omega) (by omega)
  obtain ⟨j, rfl⟩ : ∃ j : Nat, z = (j : Int) := ⟨z.toNat, by omega⟩
  have hz : j < ds.length := by omega
  refine ⟨ds[j], List.getElem_mem _, b', ?_, hb'⟩
  have el : lenO (.dat d) = some (ds.length : Int) := by rcases hd with rfl | rfl <;> rfl
  have ei : ixD d (.int (j : Int)) = some ds[j] := by
    rcases hd with rfl | rfl
    · rw [e_ixL, atI_n]; simp [List.getElem?_eq_getElem hz]
    · rw [e_ixT, atI_n]; simp [List.getElem?_eq_getElem hz]
  unfold g__law_some p__law_some
  simp [el, ins, e, ei]
def sig1 : Sg := [("a", 0), ("b", 0), ("f", 1), ("g", 2), ("h", 1), ("k", 2)]
def sig2 : Sg := [("a", 0), ("b", 0), ("s", 1)]
def sig3 : Sg := [("e", 0), ("m", 2), ("n", 2)]
def sig4 : Sg := [("a", 0), ("b", 0), ("c", 0), ("g", 2)]
def sig5 : Sg := [("f", 1), ("g", 1), ("z", 0)]
def sig6 : Sg := [("a", 0), ("g", 2), ("k", 2), ("u", 1)]
/-- a signature as they are drawn: at most six labels, one without parts -/
structure LawSg (g : Sg) : Prop where
  good : GoodSg g
  few : g.length ≤ 6
  leaf : ∃ l, (l, 0) ∈ g
  node : ∃ p ∈ g, 0 < p.2
  nozz : rk g "zz" = none
theorem sig_all : ∀ g ∈ [sig1, sig2, sig3, sig4, sig5, sig6], LawSg g := by
  intro g hg
  simp only [List.mem_cons, List.not_mem_nil, or_false] at hg
  rcases hg with rfl | rfl | rfl | rfl | rfl | rfl
  · exact ⟨⟨by decide +kernel, by decide +kernel⟩, by decide, ⟨"a", by decide⟩, ⟨("f", 1), by decide, by decide⟩, by decide +kernel⟩
  · exact ⟨⟨by decide +kernel, by decide +kernel⟩, by decide, ⟨"a", by decide⟩, ⟨("s", 1), by decide, by decide⟩, by decide +kernel⟩
  · exact ⟨⟨by decide +kernel, by decide +kernel⟩, by decide, ⟨"e", by decide⟩, ⟨("m", 2), by decide, by decide⟩, by decide +kernel⟩
  · exact ⟨⟨by decide +kernel, by decide +kernel⟩, by decide, ⟨"a", by decide⟩, ⟨("g", 2), by decide, by decide⟩, by decide +kernel⟩
  · exact ⟨⟨by decide +kernel, by decide +kernel⟩, by decide, ⟨"z", by decide⟩, ⟨("f", 1), by decide, by decide⟩, by decide +kernel⟩
  · exact ⟨⟨by decide +kernel, by decide +kernel⟩, by decide, ⟨"a", by decide⟩, ⟨("g", 2), by decide, by decide⟩, by decide +kernel⟩
theorem r_law_signature {b : List D} (hb : BagOk b) : ∃ g b', valN 0 (g__law_signature [.lst b]) = some (.ok (.dat (sgD g)), some (.lst b')) ∧ BagOk b' ∧ LawSg g := by
  obtain ⟨x, hx, b', e, hb'⟩ := r_some hb (d := .list ([sig1, sig2, sig3, sig4, sig5, sig6].map sgD)) (.inl rfl) (by simp) (by simp)
  obtain ⟨g, hg, rfl⟩ := List.mem_map.mp hx
  refine ⟨g, b', ?_, hb', sig_all g hg⟩
  unfold g__law_signature p__law_signature
  simp only [List.map_cons, List.map_nil, sgD, prD, sig1, sig2, sig3, sig4, sig5, sig6] at e
  simp [ins, e, sgD, prD]
/-! ### choices -/
def choL (xs : List Int) : Nat → List (List Int)
  | 0 => [[]]
  | n + 1 => (choL xs n).flatMap fun one => xs.map fun x => one ++ [x]
theorem choL_mem {xs : List Int} : ∀ {n : Nat} {ks : List Int}, ks ∈ choL xs n → ks.length = n ∧ ∀ k ∈ ks, k ∈ xs
  | 0, ks, h => by
    simp [choL] at h
    subst h
    simp
  | n + 1, ks, h => by
    rw [choL, List.mem_flatMap] at h
    obtain ⟨one, h1, h2⟩ := h
    obtain ⟨x, hx, rfl⟩ := List.mem_map.mp h2
    obtain ⟨i1, i2⟩ := choL_mem h1
    refine ⟨by simp [i1], fun k hk => ?_⟩
    rcases List.mem_append.mp hk with hk | hk
    · exact i2 k hk
    · rw [List.mem_singleton.mp hk]; exact hx
theorem choL_nd {xs : List Int} (hx : xs.Nodup) : ∀ n, (choL xs n).Nodup
  | 0 => by simp [choL]
  | n + 1 => by
    rw [choL, List.nodup_iff_pairwise_ne, List.pairwise_flatMap]
    have ih := choL_nd hx n
    rw [List.nodup_iff_pairwise_ne] at ih hx
    refine ⟨fun one _ => ?_, ih.imp fun {a b} ne x hx y hy e => ?_⟩
    · rw [List.pairwise_map]
      refine hx.imp fun {a b} ne e => ne ?_
      have := List.append_cancel_left e
      simpa using this
    · obtain ⟨u, _, rfl⟩ := List.mem_map.mp hx
      obtain ⟨v, _, rfl⟩ := List.mem_map.mp hy
      exact ne (List.append_inj_left' e (by simp))
theorem flat_len {xs : List Int} (L : List (List Int)) : (L.flatMap fun one => xs.map fun x => one ++ [x]).length = L.length * xs.length := by
  rw [List.length_flatMap]
  induction L with
  | nil => simp
  | cons a L ih => rw [List.map_cons, List.sum_cons, ih, List.length_map, List.length_cons, Nat.add_mul, Nat.one_mul, Nat.add_comm]
theorem choL_len {xs : List Int} : ∀ n, (choL xs n).length = xs.length ^ n
  | 0 => rfl
  | n + 1 => by rw [choL, flat_len, Nat.pow_succ, ← choL_len n]
theorem rg_ints (n : Nat) : rgD 0 n = ((List.range n).map fun i : Nat => (i : Int)).map PyData.int := by
  unfold rgD
  rw [List.map_map]
  refine List.map_congr_left fun i _ => ?_
  simp
theorem r_choices (xs : List Int) (n : Nat) (hx : xs.length ≤ 10) (hn : n ≤ 2) : ∃ o, val (g__law_choices [.dat (.list (xs.map .int)), .dat (.int n)]) = some (.ok o) ∧ o.view = .list ((choL xs n).map ltD) ∧ o.isScr = false := by
  unfold g__law_choices p__law_choices
  have sm : smI (n : Int) = true := by unfold smI; simp; omega
  simp [rng1, sm, rg_ints]
  generalize hX : forL _ _ _ _ = X
  obtain ⟨ρ', rfl, f, hf, a, b, c, rfl⟩ := for_XE hX (fun pre ρ => ∃ f, (f = .lst ((choL xs pre.length).map ltD) ∨ f = .dat (.list ((choL xs pre.length).map ltD))) ∧ ∃ a b c, ρ = [some (.dat (.list (xs.map .int))), some (.dat (.int n)), some f, a, b, c, none])
    ⟨_, .inl rfl, none, none, none, by simp [choL, ltD]⟩ (fun pre i post ρ eq ⟨f, hf, a, b, c, e⟩ => by
    subst e
    have hp : pre.length < n := by
      have := congrArg List.length eq
      simp at this
      omega
    have hlen : (choL xs pre.length).length ≤ 100 := by
      rw [choL_len]
      calc xs.length ^ pre.length ≤ 10 ^ pre.length := Nat.pow_le_pow_left hx _
        _ ≤ 10 ^ 2 := Nat.pow_le_pow_right (by decide) (by omega)
    have fv : f.view = .list ((choL xs pre.length).map ltD) ∧ f.isScr = false := by rcases hf with rfl | rfl <;> exact ⟨rfl, rfl⟩
    simp [fv]
    generalize hY : forL _ _ _ _ = Y
    obtain ⟨ρ', rfl, b', rfl⟩ := for_XE hY (fun p2 ρ => ∃ b', ρ = [some (.dat (.list (xs.map .int))), some (.dat (.int n)), some (.dat (.list ((choL xs pre.length).map ltD))), some (.dat (.int i)), some (.lst ((p2.flatMap fun one => xs.map fun x => one ++ [x]).map ltD)), b', none])
      ⟨c, by simp⟩ (fun p2 one post2 ρ eq2 ⟨b', e⟩ => by
      subst e
      have hm : one ∈ choL xs pre.length := by rw [eq2]; simp
      have h1 := (choL_mem hm).1
      have h2 : (p2.flatMap fun one => xs.map fun x => one ++ [x]).length + xs.length ≤ 16777216 := by
        have h3 := congrArg List.length eq2
        simp at h3
        rw [flat_len]
        have : p2.length * xs.length ≤ 100 * 10 := Nat.mul_le_mul (by omega) hx
        omega
      have hs : one.length + 1 ≤ 16777216 := by omega
      simp at h2
      simp
      rw [lc_mapE (fun x => ltD (one ++ [x])) (by rw [sizeLine_eq]; omega) (fun x hx => by simp [ltD, hs])]
      simp [restE, h2, Function.comp_def])
    have ec : choL xs (pre.length + 1) = (choL xs pre.length).flatMap fun one => xs.map fun x => one ++ [x] := rfl
    simp [ec])
  rw [List.length_range] at hf
  refine ⟨f, by simp, ?_⟩
  rcases hf with rfl | rfl <;> exact ⟨rfl, rfl⟩
end Sh.Own
set_option Elab.async false
set_option linter.all false
set_option maxRecDepth 100000
set_option maxHeartbeats 4000000
/-! Lw, part B: drawn books. -/
namespace Sh.Own
open PySem PySem.Spec PyProof.Rows L2 Sh
theorem eqv_ints : ∀ xs ys : List Int, PyData.eqvAll (xs.map .int) (ys.map .int) = decide (xs = ys)
  | [], [] => rfl
  | [], _ :: _ => by simp [PyData.eqvAll]
  | _ :: _, [] => by simp [PyData.eqvAll]
  | x :: xs, y :: ys => by
    rw [List.map_cons, List.map_cons, PyData.eqvAll, e_eqI, eqv_ints xs ys]
    by_cases h : x = y <;> simp [h]
theorem rlD_eqv {r s : Rl} (h : PyData.eqv (rlD r) (rlD s) = true) : r = s := by
  obtain ⟨a, b, c⟩ := r
  obtain ⟨a', b', c'⟩ := s
  simp only [rlD, ltD] at h
  rw [PyData.eqv, PyData.eqvAll, PyData.eqvAll, PyData.eqvAll, PyData.eqvAll, e_eqI, e_eqS, PyData.eqv, eqv_ints] at h
  simp at h
  obtain ⟨rfl, rfl, rfl⟩ := h
  rfl
theorem rising_of : ∀ {ds : List D}, ds.Pairwise (fun a b => dl a b = true) → risingD ds = true
  | [], _ => rfl
  | [_], _ => rfl
  | a :: b :: r, h => by
    rw [List.pairwise_cons] at h
    rw [risingD, h.1 b List.mem_cons_self, rising_of h.2]
    rfl
/-- rules in order -/
def sortR (acc : List Rl) : List Rl := acc.mergeSort fun a b => !dl (rlD b) (rlD a)
theorem sortR_map (acc : List Rl) : sortD (acc.map rlD) = (sortR acc).map rlD := by
  unfold sortD sortR
  rw [List.map_mergeSort]
  intro a _ b _
  rfl
theorem sortR_mem {acc : List Rl} {r : Rl} : r ∈ sortR acc ↔ r ∈ acc := (List.mergeSort_perm acc _).mem_iff
theorem sortR_rise {acc : List Rl} (nd : acc.Nodup) : risingD ((sortR acc).map rlD) = true := by
  have p := List.pairwise_mergeSort (le := fun a b : Rl => !dl (rlD b) (rlD a)) (fun a b c h k => by
    simp only [Bool.not_eq_true'] at *
    exact dl_nlt h k) (fun a b => by
    cases q : dl (rlD b) (rlD a) with
    | false => rfl
    | true => simp [dl_asym q]) acc
  have n : (sortR acc).Nodup := (List.mergeSort_perm acc _).nodup_iff.mpr nd
  refine rising_of ?_
  rw [List.pairwise_map]
  rw [List.nodup_iff_pairwise_ne] at n
  refine (p.and n).imp fun {a b} h => ?_
  obtain ⟨h1, h2⟩ := h
  simp only [Bool.not_eq_true'] at h1
  cases q : dl (rlD a) (rlD b) with
  | true => rfl
  | false => exact absurd (rlD_eqv (dl_tot (rlD_alike a b) q h1)) h2
theorem sort_ok {acc : List Rl} (h : ∀ r ∈ acc, nameS r.2.1 = true) : sortedG [.list (acc.map rlD)] = some (.lst ((sortR acc).map rlD)) := by
  have c : sortB (acc.map rlD) = true := by
    unfold sortB alikeB
    simp only [Bool.and_eq_true, Bool.or_eq_true, List.all_eq_true, List.mem_map]
    refine ⟨⟨?_, .inl ?_⟩, ?_⟩
    · rintro _ ⟨r, _, rfl⟩ _ ⟨s, _, rfl⟩
      exact rlD_alike r s
    · rintro _ ⟨r, _, rfl⟩
      rfl
    · rintro _ ⟨r, hr, rfl⟩
      have k := rlD_cmp (h r hr)
      unfold cmpOk at k
      simp only [Bool.and_eq_true, decide_eq_true_eq] at k ⊢
      refine ⟨k.1.1, ?_⟩
      have := ints_depth r.2.2
      unfold rlD ltD
      simp [PyData.depth, PyData.depthAll, this]
  unfold sortedG
  dsimp only
  rw [if_pos c, sortR_map]
theorem ruleD_mk {g : Sg} {m : Int} {r : Rl} (h1 : 0 ≤ r.1 ∧ r.1 < m) (h2 : nameS r.2.1 = true) (h3 : rk g r.2.1 = some (r.2.2.length : Int)) (h4 : ∀ k ∈ r.2.2, 0 ≤ k ∧ k < m) : ruleD g m (rlD r) = true := by
  unfold rlD ruleD ruleB ltD
  have a : withinD (.int r.1) 0 (m - 1) = true := by simp [withinD]; omega
  have b : (r.2.2.map PyData.int).all (fun x => withinD x 0 (m - 1)) = true := by
    rw [List.all_map, List.all_eq_true]
    intro k hk
    have := h4 k hk
    simp [withinD]
    omega
  simp [a, nameD, h2, h3, szD, insD, b]
/-- the ints below -/
def belI (n : Nat) : List Int := (List.range n).map fun i : Nat => (i : Int)
def rowsOf (n : Nat) (k : Int) (p : Str × Int) : List Rl := (choL (belI n) p.2.toNat).map fun ks => (k, p.1, ks)
def fullL (g : Sg) (n : Nat) : List Rl := (belI n).flatMap fun k => g.flatMap fun p => rowsOf n k p
theorem belI_mem {n : Nat} {k : Int} : k ∈ belI n ↔ 0 ≤ k ∧ k < n := by
  unfold belI
  rw [List.mem_map]
  constructor
  · rintro ⟨i, h, rfl⟩
    rw [List.mem_range] at h
    omega
  · intro h
    exact ⟨k.toNat, by rw [List.mem_range]; omega, by omega⟩
theorem belI_nd (n : Nat) : (belI n).Nodup := by
  unfold belI
  rw [List.nodup_iff_pairwise_ne, List.pairwise_map]
  have := List.nodup_range (n := n)
  rw [List.nodup_iff_pairwise_ne] at this
  exact this.imp fun h e => h (by omega)
theorem full_mem {g : Sg} {n : Nat} {r : Rl} (h : r ∈ fullL g n) : (0 ≤ r.1 ∧ r.1 < n) ∧ ∃ p ∈ g, r.2.1 = p.1 ∧ r.2.2.length = p.2.toNat ∧ ∀ k ∈ r.2.2, 0 ≤ k ∧ k < n := by
  unfold fullL rowsOf at h
  rw [List.mem_flatMap] at h
  obtain ⟨k, hk, h⟩ := h
  rw [List.mem_flatMap] at h
  obtain ⟨p, hp, h⟩ := h
  obtain ⟨ks, hks, rfl⟩ := List.mem_map.mp h
  obtain ⟨c1, c2⟩ := choL_mem hks
  exact ⟨belI_mem.mp hk, p, hp, rfl, c1, fun x hx => belI_mem.mp (c2 x hx)⟩
theorem full_nd {g : Sg} (hg : (g.map (·.1)).Nodup) (n : Nat) : (fullL g n).Nodup := by
  unfold fullL
  rw [List.nodup_iff_pairwise_ne, List.pairwise_flatMap]
  constructor
  · intro k _
    rw [List.pairwise_flatMap]
    constructor
    · intro p _
      unfold rowsOf
      rw [List.pairwise_map]
      have := choL_nd (belI_nd n) p.2.toNat
      rw [List.nodup_iff_pairwise_ne] at this
      refine this.imp fun {a b} ne e => ne ?_
      simpa using e
    · rw [List.nodup_iff_pairwise_ne, List.pairwise_map] at hg
      refine hg.imp fun {p q} ne x hx y hy e => ?_
      unfold rowsOf at hx hy
      obtain ⟨a, _, rfl⟩ := List.mem_map.mp hx
      obtain ⟨b, _, rfl⟩ := List.mem_map.mp hy
      exact ne (by simpa using (congrArg (·.2.1) e))
  · have := belI_nd n
    rw [List.nodup_iff_pairwise_ne] at this
    refine this.imp fun {k k'} ne x hx y hy e => ?_
    rw [List.mem_flatMap] at hx hy
    obtain ⟨p, _, hx⟩ := hx
    obtain ⟨q, _, hy⟩ := hy
    unfold rowsOf at hx hy
    obtain ⟨a, _, rfl⟩ := List.mem_map.mp hx
    obtain ⟨b, _, rfl⟩ := List.mem_map.mp hy
    exact ne (by simpa using (congrArg (·.1) e))
theorem sum_le {α : Type} {f : α → Nat} {c : Nat} : ∀ {xs : List α}, (∀ x ∈ xs, f x ≤ c) → (xs.map f).sum ≤ xs.length * c
  | [], _ => by simp
  | x :: xs, h => by
    rw [List.map_cons, List.sum_cons, List.length_cons, Nat.add_mul, Nat.one_mul]
    have := h x List.mem_cons_self
    have := sum_le fun y hy => h y (List.mem_cons_of_mem _ hy)
    omega
theorem full_len {g : Sg} (hg : GoodSg g) {n : Nat} (hn : n ≤ 3) : (fullL g n).length ≤ 300 := by
  unfold fullL
  rw [List.length_flatMap]
  have h1 : ∀ k : Int, (g.flatMap fun p => rowsOf n k p).length ≤ 90 := by
    intro k
    rw [List.length_flatMap]
    have := sum_le (f := fun p => (rowsOf n k p).length) (c := 9) (xs := g) (fun p hp => by
      unfold rowsOf belI
      rw [List.length_map, choL_len, List.length_map, List.length_range]
      have := (hg.rank p hp).2
      calc n ^ p.2.toNat ≤ 3 ^ p.2.toNat := Nat.pow_le_pow_left hn _
        _ ≤ 3 ^ 2 := Nat.pow_le_pow_right (by decide) (by omega))
    have := hg.len
    omega
  have := sum_le (f := fun k : Int => (g.flatMap fun p => rowsOf n k p).length) (c := 90) (xs := belI n) (fun k _ => h1 k)
  have : (belI n).length = n := by unfold belI; rw [List.length_map, List.length_range]
  omega
/-- rules drawn make a book -/
theorem book_of {g : Sg} (hg : GoodSg g) {n : Nat} (h1 : 1 ≤ n) (hn : n ≤ 3) {acc : List Rl} (h : acc.Sublist (fullL g n)) : GoodBk ⟨g, n, sortR acc⟩ ∧ ∀ r ∈ acc, nameS r.2.1 = true := by
  have hm : ∀ r ∈ acc, (0 ≤ r.1 ∧ r.1 < n) ∧ nameS r.2.1 = true ∧ rk g r.2.1 = some (r.2.2.length : Int) ∧ ∀ k ∈ r.2.2, 0 ≤ k ∧ k < (n : Int) := fun r hr => by
    obtain ⟨a, p, hp, e1, e2, b⟩ := full_mem (h.subset hr)
    have rp := hg.rank p hp
    refine ⟨a, by rw [e1]; exact hg.name p hp, ?_, b⟩
    rw [e1, rk_of_mem hg.nd (show (p.1, p.2) ∈ g from hp), e2]
    congr 1
    omega
  refine ⟨⟨hg, ?_⟩, fun r hr => (hm r hr).2.1⟩
  have len : (sortR acc).length ≤ 300 := by
    unfold sortR
    rw [List.length_mergeSort]
    exact Nat.le_trans h.length_le (full_len hg hn)
  unfold bookD
  have a : withinD (.int (n : Int)) 1 200 = true := by simp [withinD]; omega
  have b : szD (.tuple ((sortR acc).map rlD)) 0 2000 = true := by simp [szD]; omega
  have c : ((sortR acc).map rlD).all (ruleD g n) = true := by
    rw [List.all_map, List.all_eq_true]
    intro r hr
    obtain ⟨x1, x2, x3, x4⟩ := hm r (sortR_mem.mp hr)
    exact ruleD_mk x1 x2 x3 x4
  have d : risingD ((sortR acc).map rlD) = true := sortR_rise ((full_nd hg.nd n).sublist h)
  simp only [a, b, c, d, Bool.and_self]
theorem full_split {g : Sg} {n i : Nat} {pre post : List Nat} {p : Str × Int} {p2 post2 : List (Str × Int)} {ks : List Int} {p3 post3 : List (List Int)} (eq : List.range n = pre ++ i :: post) (eq2 : g = p2 ++ p :: post2) (eq3 : choL (belI n) p.2.toNat = p3 ++ ks :: post3) :
    ∃ r, fullL g n = ((((pre.map fun i : Nat => (i : Int)).flatMap fun k => g.flatMap fun p => rowsOf n k p) ++ p2.flatMap fun p => rowsOf n i p) ++ p3.map fun ks => ((i : Int), p.1, ks)) ++ r := by
  have e1 : rowsOf n i p = p3.map (fun ks => ((i : Int), p.1, ks)) ++ (((i : Int), p.1, ks) :: post3.map fun ks => ((i : Int), p.1, ks)) := by
    unfold rowsOf
    rw [eq3, List.map_append, List.map_cons]
  have e2 : (g.flatMap fun p => rowsOf n i p) = (p2.flatMap fun p => rowsOf n i p) ++ (rowsOf n i p ++ post2.flatMap fun p => rowsOf n i p) := by
    conv => lhs; rw [eq2]
    rw [List.flatMap_append, List.flatMap_cons]
  unfold fullL belI
  rw [eq, List.map_append, List.map_cons, List.flatMap_append, List.flatMap_cons, e2, e1]
  refine ⟨((((i : Int), p.1, ks) :: post3.map fun ks => ((i : Int), p.1, ks)) ++ (post2.flatMap fun p => rowsOf n i p)) ++ ((post.map fun i : Nat => (i : Int)).flatMap fun k => g.flatMap fun p => rowsOf n k p), ?_⟩
  simp only [List.append_assoc, List.cons_append]
@[simp] theorem e_seqSg {g : Sg} : seqD (sgD g) = some (g.map prD) := rfl
theorem r_law_book {b : List D} (hb : BagOk b) {g : Sg} (hg : GoodSg g) : ∃ B b', valN 0 (g__law_book [.lst b, .dat (sgD g)]) = some (.ok (.dat (bkD B)), some (.lst b')) ∧ BagOk b' ∧ GoodBk B ∧ B.sg = g ∧ 1 ≤ B.many ∧ B.many ≤ 3 := by
  obtain ⟨z1, b1, e1, hb1, p1, q1⟩ := r_pick hb (w := 3) (by decide) (by decide)
  obtain ⟨z2, b2, e2, hb2, p2, q2⟩ := r_pick hb1 (w := 3) (by decide) (by decide)
  obtain ⟨z3, b3, e3, hb3, p3, q3⟩ := r_pick hb2 (w := 2) (by decide) (by decide)
  obtain ⟨n, hn, hn1, hn3⟩ : ∃ n : Nat, (1 : Int) + z1 = (n : Int) ∧ 1 ≤ n ∧ n ≤ 3 := ⟨(1 + z1).toNat, by omega, by omega, by omega⟩
  have sh1 : 0 < 2 + z2 := by omega
  have sh2 : 2 + z2 < 1073741824 := by omega
  suffices h : ∃ acc b', acc.Sublist (fullL g n) ∧ BagOk b' ∧ valN 0 (g__law_book [.lst b, .dat (sgD g)]) = some (.ok (.dat (bkD ⟨g, n, sortR acc⟩)), some (.lst b')) by
    obtain ⟨acc, b', h1, h2, h3⟩ := h
    exact ⟨_, b', h3, h2, (book_of hg hn1 hn3 h1).1, rfl, by dsimp only; omega, by dsimp only; omega⟩
  unfold g__law_book p__law_book
  have sm : smI (n : Int) = true := by unfold smI; simp; omega
  simp [ins, e1, e2, e3, hn, rng1, sm, rg_ints]
  generalize 2 + z2 = share at sh1 sh2 ⊢
  generalize decide (z3 = 0) = few
  generalize hX : forL _ _ _ _ = X
  obtain ⟨ρ', rfl, acc, b', a1, a2, a3, a4, hs, hb', rfl⟩ := for_XE hX (fun pre ρ => ∃ acc b a1 a2 a3 a4, acc.Sublist ((pre.map fun i : Nat => (i : Int)).flatMap fun k => g.flatMap fun p => rowsOf n k p) ∧ BagOk b ∧ ρ = [some (.lst b), some (.dat (sgD g)), some (.dat (.int n)), some (.lst (acc.map rlD)), some (.dat (.int share)), some (.dat (.bool few)), a1, a2, a3, a4])
    ⟨[], b3, none, none, none, none, List.nil_sublist _, hb3, rfl⟩ (fun pre i post ρ eq ⟨acc, b', a1, a2, a3, a4, hs, hb', e⟩ => by
    subst e
    simp
    generalize hY : forL _ _ _ _ = Y
    obtain ⟨ρ', rfl, acc, b', a2, a3, a4, hs, hb', rfl⟩ := for_XE hY (fun p2 ρ => ∃ acc b a2 a3 a4, acc.Sublist (((pre.map fun i : Nat => (i : Int)).flatMap fun k => g.flatMap fun p => rowsOf n k p) ++ p2.flatMap fun p => rowsOf n i p) ∧ BagOk b ∧ ρ = [some (.lst b), some (.dat (sgD g)), some (.dat (.int n)), some (.lst (acc.map rlD)), some (.dat (.int share)), some (.dat (.bool few)), some (.dat (.int i)), a2, a3, a4])
      ⟨acc, b', a2, a3, a4, by simpa using hs, hb', rfl⟩ (fun p2 p post2 ρ eq2 ⟨acc, b', a2, a3, a4, hs, hb', e⟩ => by
      subst e
      have hr := hg.rank p (by rw [eq2]; simp)
      have hx : (belI n).length ≤ 10 := by
        unfold belI
        rw [List.length_map, List.length_range]
        omega
      have hn2 : p.2.toNat ≤ 2 := by omega
      have hh := r_choices (belI n) p.2.toNat hx hn2
      cases hh with
      | intro o ho =>
      have eo := ho.1
      have ov := ho.2.1
      have os := ho.2.2
      have ec : ((p.2.toNat : Nat) : Int) = p.2 := by omega
      rw [ec] at eo
      have el : rgL (.int (n : Int)) = some (.lst ((belI n).map .int)) := by
        unfold rgL
        dsimp only
        rw [if_pos ⟨sm, by rw [sizeLine_eq]; omega⟩, rg_ints]
        rfl
      simp [prD, el, eo, ov, os]
      generalize hZ : forL _ _ _ _ = Z
      obtain ⟨ρ', rfl, acc, b', a4, hs, hb', rfl⟩ := for_XE hZ (fun p3 ρ => ∃ acc b a4, acc.Sublist ((((pre.map fun i : Nat => (i : Int)).flatMap fun k => g.flatMap fun p => rowsOf n k p) ++ p2.flatMap fun p => rowsOf n i p) ++ p3.map fun ks => ((i : Int), p.1, ks)) ∧ BagOk b ∧ ρ = [some (.lst b), some (.dat (sgD g)), some (.dat (.int n)), some (.lst (acc.map rlD)), some (.dat (.int share)), some (.dat (.bool few)), some (.dat (.int i)), some (.dat (.str p.1)), some (.dat (.int p.2)), a4])
        ⟨acc, b', a4, by simpa using hs, hb', rfl⟩ (fun p3 ks post3 ρ eq3 ⟨acc, b', a4, hs, hb', e⟩ => by
        subst e
        obtain ⟨z, b2, ez, hb2, _, _⟩ := r_pick hb' sh1 sh2
        have le : acc.length < 16777216 := by
          obtain ⟨r, er⟩ := full_split eq eq2 eq3
          have h1 := hs.length_le
          have h2 := full_len hg hn3
          rw [er, List.length_append] at h2
          omega
        have hs1 : acc.Sublist (((((pre.map fun i : Nat => (i : Int)).flatMap fun k => g.flatMap fun p => rowsOf n k p) ++ p2.flatMap fun p => rowsOf n i p) ++ p3.map fun ks => ((i : Int), p.1, ks)) ++ [((i : Int), p.1, ks)]) := hs.trans (List.sublist_append_left _ _)
        have hs2 : (acc ++ [((i : Int), p.1, ks)]).Sublist (((((pre.map fun i : Nat => (i : Int)).flatMap fun k => g.flatMap fun p => rowsOf n k p) ++ p2.flatMap fun p => rowsOf n i p) ++ p3.map fun ks => ((i : Int), p.1, ks)) ++ [((i : Int), p.1, ks)]) := hs.append (List.Sublist.refl _)
        by_cases q : decide (z = 0) = few
        · simp [ins, ez, q, le]
          exact ⟨acc ++ [((i : Int), p.1, ks)], by simpa using hs2, b2, hb2, by simp [rlD, ltD]⟩
        · simp [ins, ez, q]
          exact ⟨acc, by simpa using hs1, b2, hb2, by simp⟩)
      simp
      exact ⟨acc, by simpa [rowsOf] using hs, b', hb', rfl, rfl⟩)
    simp
    exact ⟨acc, hs, b', hb', rfl, rfl⟩)
  refine ⟨acc, hs, b', hb', ?_⟩
  have so := sort_ok (book_of hg hn1 hn3 hs).2
  simp [so, bkD]
end Sh.Own
set_option Elab.async false
set_option linter.all false
set_option maxRecDepth 100000
set_option maxHeartbeats 4000000
/-! Lw, part C: drawn trees, lots. -/
namespace Sh.Own
open PySem PySem.Spec PyProof.Rows L2 Sh
theorem r_law_nodes (t : Tr) (hw : t.size ≤ 300000) : val (g__law_nodes [.dat t.d]) = some (.ok (.dat (.int t.size))) := by
  unfold g__law_nodes p__law_nodes
  simp
  refine while_C (C := fun r => rn (sq r _) = _) (σ := Nat × List Tr) (fun s ρ => (∃ x, ρ = [some (.dat t.d), some (.dat (.int s.1)), some (.lst (s.2.map Tr.d)), x]) ∧ s.1 + Tr.sizes s.2 = t.size) (fun s => Tr.sizes s.2) (0, [t]) ⟨⟨_, rfl⟩, by simp [Tr.sizes]⟩ ?_
  rintro ⟨n, st⟩ ρ ⟨⟨x, rfl⟩, hi⟩
  dsimp only at hi ⊢
  rcases List.eq_nil_or_concat st with rfl | ⟨st, h, rfl⟩
  · refine ⟨false, _, by simp; rfl, ?_⟩
    simp [Tr.sizes] at hi
    simp [hi]
  · refine ⟨true, _, by simp; rfl, ?_⟩
    simp only [List.concat_eq_append] at *
    cases h with
    | nd l ps =>
      rw [Tr.sizes_app] at hi
      simp only [Tr.sizes, Tr.size] at hi
      have b2 := Tr.sizes_len ps
      have b3 := Tr.sizes_len st
      have c2 : st.length + ps.length ≤ 16777216 := by omega
      simp [Tr.d_nd, c2]
      refine ⟨n + 1, st ++ ps, ?_, ⟨by simp, by simp⟩, ?_⟩
      · rw [Tr.sizes_app, Tr.sizes_app]
        simp [Tr.sizes, Tr.size]
      · rw [Tr.sizes_app]
        omega
theorem cut_neg {α : Type} (xs : List α) {v : Int} (h : v < 0) : cutD xs (some v) none = xs.drop (v + xs.length).toNat := by
  unfold cutD
  have e1 : HT.sIx xs.length 0 (some v) = (v + xs.length).toNat := by
    show (if v < 0 then _ else _) = _
    rw [if_pos h]
  have e2 : HT.sIx xs.length xs.length none = xs.length := rfl
  rw [e1, e2, List.take_of_length_le (by simp)]
theorem r_law_tree {b : List D} (hb : BagOk b) {g : Sg} (hg : LawSg g) {m : Nat} (hm1 : 1 ≤ m) (hm : m ≤ 10) : ∃ t b', valN 0 (g__law_tree [.lst b, .dat (sgD g), .dat (.int m)]) = some (.ok (.dat t.d), some (.lst b')) ∧ BagOk b' ∧ okT g t ∧ t.size ≤ m := by
  obtain ⟨z, b1, e1, hb1, z0, z1⟩ := r_pick hb (w := (m : Int)) (by omega) (by omega)
  have gl := hg.good.len
  suffices h : ∃ (b' : List D) (pool : List Tr) (x : D), BagOk b' ∧ (∀ t ∈ pool, okT g t ∧ t.size ≤ m) ∧ x ∈ pool.map Tr.d ∧ valN 0 (g__law_tree [.lst b, .dat (sgD g), .dat (.int m)]) = some (.ok (.dat x), some (.lst b')) by
    obtain ⟨b', pool, x, h1, h2, h3, h4⟩ := h
    obtain ⟨t, ht, rfl⟩ := List.mem_map.mp h3
    exact ⟨t, b', h4, h1, h2 t ht⟩
  unfold g__law_tree p__law_tree
  simp
  rw [lc_filE (fun p => decide (p.2 = 0)) (fun p => (Tr.nd p.1 []).d) (by rw [sizeLine_eq]; omega) (fun p hp => by
    by_cases q : p.2 = 0 <;> simp [prD, q, Tr.d_nd])]
  have sm : smI z = true := by unfold smI; simp; omega
  have pe : (g.filter fun p => decide (p.2 = 0)).map (fun p => (Tr.nd p.1 []).d) = ((g.filter fun p => decide (p.2 = 0)).map fun p => Tr.nd p.1 []).map Tr.d := by rw [List.map_map]; rfl
  rw [pe]
  have p0 : ((g.filter fun p => decide (p.2 = 0)).map fun p => Tr.nd p.1 []) ≠ [] := by
    obtain ⟨l, hl⟩ := hg.leaf
    intro z
    rw [List.map_eq_nil_iff, List.filter_eq_nil_iff] at z
    exact z (l, 0) hl (by simp)
  have pk : ∀ t ∈ ((g.filter fun p => decide (p.2 = 0)).map fun p => Tr.nd p.1 []), okT g t ∧ t.size ≤ m := by
    intro t ht
    obtain ⟨p, hp, rfl⟩ := List.mem_map.mp ht
    obtain ⟨h1, h2⟩ := List.mem_filter.mp hp
    simp at h2
    refine ⟨?_, by simp [Tr.size, Tr.sizes]; omega⟩
    rw [okT_nd, rk_of_mem hg.good.nd (show (p.1, p.2) ∈ g from h1), h2]
    simp
  have pl : ((g.filter fun p => decide (p.2 = 0)).map fun p => Tr.nd p.1 []).length ≤ 10 := by
    rw [List.length_map]
    exact Nat.le_trans (List.length_filter_le _ _) gl
  generalize ((g.filter fun p => decide (p.2 = 0)).map fun p => Tr.nd p.1 []) = pool0 at p0 pk pl
  simp [restE, ins, e1, rng1, sm, rgD]
  generalize hX : forL _ _ _ _ = X
  obtain ⟨ρ', rfl, b', pool, a3, a4, a6, a7, hb', q0, qk, ql, rfl⟩ := for_XE hX (fun pre ρ => ∃ b pool a3 a4 a6 a7, BagOk b ∧ pool ≠ [] ∧ (∀ t ∈ pool, okT g t ∧ t.size ≤ m) ∧ pool.length ≤ 10 + pre.length ∧ ρ = [some (.lst b), some (.dat (sgD g)), some (.dat (.int m)), a3, a4, some (.lst (pool.map Tr.d)), a6, a7, none, none])
    ⟨b1, pool0, none, none, none, none, hb1, p0, pk, pl, rfl⟩ (fun pre i post ρ eq ⟨b', pool, a3, a4, a6, a7, hb', q0, qk, ql, e⟩ => by
    subst e
    have lp : pre.length < z.toNat := by
      have := congrArg List.length eq
      simp at this
      omega
    simp
    rw [lc_filE (fun p => decide (0 < p.2)) prD (by rw [sizeLine_eq]; omega) (fun p hp => by
      by_cases q : 0 < p.2 <;> simp [prD, q])]
    have hh := r_some hb' (d := .list ((g.filter fun p => decide (0 < p.2)).map prD)) (.inl rfl) (by
      obtain ⟨p, hp, hp2⟩ := hg.node
      intro z
      rw [List.map_eq_nil_iff, List.filter_eq_nil_iff] at z
      exact z p hp (by simp [hp2])) (by
      rw [List.length_map]
      have := List.length_filter_le (fun p : Str × Int => decide (0 < p.2)) g
      omega)
    cases hh with
    | intro x hh =>
    obtain ⟨hx, b2, e2, hb2⟩ := hh
    obtain ⟨p, hp, rfl⟩ := List.mem_map.mp hx
    have hp1 : p ∈ g := (List.mem_filter.mp hp).1
    have hp2 : 0 < p.2 := by simpa using (List.mem_filter.mp hp).2
    have hr := hg.good.rank p hp1
    have smp : smI p.2 = true := by unfold smI; simp; omega
    simp [restE, ins, e2]
    simp [prD, rng1, smp, rgD]
    generalize hY : lcLoop _ _ _ _ _ _ _ = Y
    have pd : (pool.map Tr.d).drop ((-4 : Int) + (pool.map Tr.d).length).toNat ≠ [] := by
      intro z
      rw [List.drop_eq_nil_iff, List.length_map] at z
      have := List.length_pos_iff.mpr q0
      omega
    have hz := lc_XE hY (fun pre2 out ρ => ∃ b ts, BagOk b ∧ out = ts.map Tr.d ∧ ts.length = pre2.length ∧ (∀ t ∈ ts, t ∈ pool) ∧ ρ = [some (.lst b), some (.dat (sgD g)), some (.dat (.int m)), some (.dat (.str p.1)), some (.dat (.int p.2)), some (.lst (pool.map Tr.d)), some (.dat (.int i)), a7, none, none])
      ⟨b2, [], hb2, rfl, rfl, by simp, rfl⟩ (by rw [sizeLine_eq, List.length_range]; omega) (fun pre2 j post2 out ρ eq2 ⟨b3, ts, hb3, ho, hl, ht, e⟩ => by
      subst e
      have hh := r_some hb3 (d := .list ((pool.map Tr.d).drop ((-4 : Int) + (pool.map Tr.d).length).toNat)) (.inl rfl) pd (by
        rw [List.length_drop, List.length_map]
        omega)
      cases hh with
      | intro x hh =>
      obtain ⟨hx, b4, e4, hb4⟩ := hh
      obtain ⟨t, ht2, rfl⟩ := List.mem_map.mp (List.mem_of_mem_drop hx)
      refine ⟨some t.d, [some (.lst b4), some (.dat (sgD g)), some (.dat (.int m)), some (.dat (.str p.1)), some (.dat (.int p.2)), some (.lst (pool.map Tr.d)), some (.dat (.int i)), a7, none, none], ?_, b4, ts ++ [t], hb4, by simp [ho], by simp [hl], fun u hu => ?_, rfl⟩
      · simp [slO, cut_neg, ins]
        simp at e4
        simp [e4]
        exact ⟨_, _, ⟨rfl, rfl⟩, rfl, rfl⟩
      · rcases List.mem_append.mp hu with hu | hu
        · exact ht u hu
        · rw [List.mem_singleton.mp hu]; exact ht2)
    cases hz with
    | intro ys hz =>
    obtain ⟨ρ2, rfl, b5, ts, hb5, rfl, hts, htp, rfl⟩ := hz
    rw [List.length_range] at hts
    have okt : okT g (.nd p.1 ts) := by
      rw [okT_nd, rk_of_mem hg.good.nd (show (p.1, p.2) ∈ g from hp1)]
      exact ⟨by rw [hts]; congr 1; omega, fun t ht => (qk t (htp t ht)).1⟩
    have szt : (Tr.nd p.1 ts).size ≤ 21 := by
      rw [Tr.size]
      have h1 : Tr.sizes ts ≤ ts.length * m := by
        have h2 : ∀ us : List Tr, (∀ t ∈ us, t.size ≤ m) → Tr.sizes us ≤ us.length * m := by
          intro us
          induction us with
          | nil => simp [Tr.sizes]
          | cons u us ih =>
            intro h
            rw [Tr.sizes, List.length_cons, Nat.add_mul, Nat.one_mul]
            have := h u List.mem_cons_self
            have := ih fun t ht => h t (List.mem_cons_of_mem _ ht)
            omega
        exact h2 ts fun t ht => (qk t (htp t ht)).2
      have h3 : ts.length ≤ 2 := by omega
      have h4 : ts.length * m ≤ 2 * 10 := Nat.mul_le_mul h3 hm
      omega
    have ln := r_law_nodes (.nd p.1 ts) (by omega)
    have le1 : pool.length + 1 ≤ 16777216 := by omega
    have le2 : pool.length ≤ 16777216 := by omega
    rw [Tr.d_nd] at ln
    by_cases q : (Tr.nd p.1 ts).size ≤ m
    · have q2 : (((Tr.nd p.1 ts).size : Nat) : Int) ≤ (m : Int) := by omega
      simp [restE, ln, q, le1]
      refine ⟨b5, hb5, pool ++ [.nd p.1 ts], by simp, fun t ht => ?_, by simp; omega, rfl, by simp [Tr.d_nd]⟩
      rcases List.mem_append.mp ht with ht | ht
      · exact qk t ht
      · rw [List.mem_singleton.mp ht]; exact ⟨okt, q⟩
    · have q2 : ¬ (((Tr.nd p.1 ts).size : Nat) : Int) ≤ (m : Int) := by omega
      simp [restE, ln, q, le2]
      exact ⟨b5, hb5, pool, q0, qk, by omega, rfl, rfl⟩)
  have pd : (pool.map Tr.d).drop ((-2 : Int) + (pool.map Tr.d).length).toNat ≠ [] := by
    intro z
    rw [List.drop_eq_nil_iff, List.length_map] at z
    have := List.length_pos_iff.mpr q0
    omega
  have hh := r_some hb' (d := .list ((pool.map Tr.d).drop ((-2 : Int) + (pool.map Tr.d).length).toNat)) (.inl rfl) pd (by
    rw [List.length_drop, List.length_map]
    rw [List.length_range] at ql
    omega)
  cases hh with
  | intro x hh =>
  obtain ⟨hx, b4, e4, hb4⟩ := hh
  obtain ⟨t, ht2, rfl⟩ := List.mem_map.mp (List.mem_of_mem_drop hx)
  refine ⟨b4, hb4, pool, qk, t.d, ⟨t, ht2, rfl⟩, ?_⟩
  simp at e4
  simp [slO, cut_neg, ins, e4]
theorem r_law_lot {B : Bk} (hB : GoodBk B) (hm : B.many ≤ 63) : ∀ (j : Nat) (t : Tr), t.size ≤ j → okT B.sg t → val (g__law_lot j [.dat (bkD B), .dat t.d]) = some (.ok (.dat (ltD (lotT B.rules t))))
  | 0, t, h, _ => by have := Tr.size_pos t; omega
  | j + 1, .nd l ps, h, ho => by
    rw [okT_nd] at ho
    rw [Tr.size] at h
    have lp : ps.length ≤ 2 := by
      have := (hB.sg.rank _ (rk_mem ho.1)).2
      dsimp only at this
      omega
    have ll := strOk_name (hB.sg.name _ (rk_mem ho.1))
    have ih : ∀ p ∈ ps, val (g__law_lot j [.dat (bkD B), .dat p.d]) = some (.ok (.dat (ltD (lotT B.rules p)))) := fun p hp => r_law_lot hB hm j p (by have := Tr.size_mem hp; omega) (ho.2 p hp)
    have e1 : ixD (bkD B) (.int 2) = some (.tuple (B.rules.map rlD)) := by simp [bkD]
    unfold g__law_lot p__law_lot
    simp [Tr.d_nd]
    rw [lc_mapE (fun p => ltD (lotT B.rules p)) (by rw [sizeLine_eq]; omega) (fun p hp => by simp [ih p hp])]
    have em : (ps.map fun p => ltD (lotT B.rules p)) = (ps.map (lotT B.rules)).map ltD := by rw [List.map_map]; rfl
    rw [em]
    simp only [lotT_nd]
    generalize ps.map (lotT B.rules) = lots
    simp [restE, e1]
    generalize hX : forL _ _ _ _ = X
    obtain ⟨ρ', rfl, lo, hlo, a, b, c, rfl⟩ := for_XE hX (fun pre ρ => ∃ lo, (lo = .lst (lots.map ltD) ∨ lo = .dat (.list (lots.map ltD))) ∧ ∃ a b c, ρ = [some (.dat (bkD B)), some (.dat (.tuple [.str l, .tuple (ps.map Tr.d)])), some lo, some (.dic (dkK (foundK (tbl pre l) lots))), a, b, c, none, none, none])
      ⟨_, .inl rfl, none, none, none, rfl⟩ (fun pre r post ρ eq ⟨lo, hlo, a, b, c, e⟩ => by
      subst e
      have hr := hB.rule r (by rw [eq]; simp)
      have lr := (hB.sg.rank _ (rk_mem hr.2.2.2.1)).2
      dsimp only at lr
      have es := e_eqBS (strOk_name hr.2.2.1) ll
      have lov : lo.view = .list (lots.map ltD) ∧ lo.isScr = false := by rcases hlo with rfl | rfl <;> exact ⟨rfl, rfl⟩
      have lz : (r.2.2.zip lots).length ≤ sizeLine := by
        rw [List.length_zip, sizeLine_eq]
        omega
      have lf : (dkK (foundK (tbl pre l) lots)).length < 16777216 := by
        have := foundK_len (rs := tbl pre l) (lots := lots) fun r hr => by
          unfold tbl at hr
          obtain ⟨q, hq, rfl⟩ := List.mem_map.mp hr
          have := hB.rule q (by rw [eq]; simp [(List.mem_filter.mp hq).1])
          dsimp only
          omega
        unfold dkK
        rw [List.length_map]
        omega
      have et := tbl_app pre r l
      by_cases q : r.2.1 = l
      · rw [if_pos q] at et
        rw [et]
        have ef := foundK_app (tbl pre l) (r.1, r.2.2) lots
        have es2 := e_eqBS ll ll
        simp [rlD, es2, q, lov, zip_rw]
        rw [lc_mapE (fun p => .bool (decide (p.1 ∈ p.2))) lz (fun p hp => by simp)]
        simp [restE, zip_fits]
        dsimp only at ef
        cases z : fitsB r.2.2 lots with
        | false =>
          rw [z, if_neg (by simp)] at ef
          simp [ef]
        | true =>
          rw [z, if_pos rfl] at ef
          simp [stoG, lf, keyD, putD_dk, ef]
      · rw [if_neg q] at et
        rw [et]
        simp [rlD, es, q]
        rcases hlo with rfl | rfl <;> simp)
    have l3 : (foundK (tbl B.rules l) lots).length < 64 := by
      have := foundK_len (rs := tbl B.rules l) (lots := lots) fun r hr => by
        unfold tbl at hr
        obtain ⟨q, hq, rfl⟩ := List.mem_map.mp hr
        have := hB.rule q (List.mem_filter.mp hq).1
        dsimp only
        omega
      omega
    have es := sorted_dk l3
    simp [es, stepL, ltD]
end Sh.Own
set_option Elab.async false
set_option linter.all false
set_option maxRecDepth 100000
set_option maxHeartbeats 4000000
/-! Lw, part D: all trees of a form. -/
namespace Sh.Own
open PySem PySem.Spec PyProof.Rows L2 Sh
def grow (parts : List (List Tr)) (F : List Tr) : List (List Tr) := parts.flatMap fun one => F.map fun its => one ++ [its]
def prodL (fs : List (List Tr)) : List (List Tr) := fs.foldl grow [[]]
def rowF (g : Sg) (n : Nat) (parts : List (List Tr)) : List Tr := g.flatMap fun p => if p.2 = (n : Int) then parts.map (Tr.nd p.1) else []
def formL (g : Sg) (t : Tr) : List Tr := Tr.fold (fun _ fs => rowF g fs.length (prodL fs)) t
theorem formL_nd (g : Sg) (l : Str) (ps : List Tr) : formL g (.nd l ps) = rowF g ps.length (prodL (ps.map (formL g))) := by
  unfold formL
  rw [Tr.fold_nd, List.length_map]
def allIn : List Tr → List (List Tr) → Prop
  | [], [] => True
  | q :: qs, F :: fs => q ∈ F ∧ allIn qs fs
  | [], _ :: _ => False
  | _ :: _, [] => False
theorem prod_mem : ∀ {fs : List (List Tr)} {acc : List (List Tr)} {qs : List Tr}, qs ∈ fs.foldl grow acc ↔ ∃ a ∈ acc, ∃ r, qs = a ++ r ∧ allIn r fs
  | [], acc, qs => by
    rw [List.foldl_nil]
    constructor
    · intro h
      exact ⟨qs, h, [], by simp, trivial⟩
    · rintro ⟨a, ha, r, rfl, hr⟩
      cases r with
      | nil => simpa using ha
      | cons _ _ => exact hr.elim
  | F :: fs, acc, qs => by
    rw [List.foldl_cons, prod_mem]
    unfold grow
    constructor
    · rintro ⟨a, ha, r, rfl, hr⟩
      rw [List.mem_flatMap] at ha
      obtain ⟨one, h1, h2⟩ := ha
      obtain ⟨its, h3, rfl⟩ := List.mem_map.mp h2
      exact ⟨one, h1, its :: r, by simp, h3, hr⟩
    · rintro ⟨a, ha, r, rfl, hr⟩
      cases r with
      | nil => exact hr.elim
      | cons q r =>
        refine ⟨a ++ [q], ?_, r, by simp, hr.2⟩
        rw [List.mem_flatMap]
        exact ⟨a, ha, List.mem_map.mpr ⟨q, hr.1, rfl⟩⟩
theorem allIn_forms {g : Sg} : ∀ {ps qs : List Tr}, (∀ p ∈ ps, ∀ s, s ∈ formL g p ↔ form p s ∧ okT g s) → (allIn qs (ps.map (formL g)) ↔ forms ps qs ∧ ∀ q ∈ qs, okT g q)
  | [], [], _ => by simp [allIn, forms]
  | [], _ :: _, _ => by simp [allIn, forms]
  | _ :: _, [], _ => by simp [allIn, forms]
  | p :: ps, q :: qs, h => by
    rw [List.map_cons, allIn, h p List.mem_cons_self, allIn_forms fun r m => h r (List.mem_cons_of_mem _ m), forms]
    constructor
    · rintro ⟨⟨a, b⟩, c, d⟩
      exact ⟨⟨a, c⟩, fun x hx => by
        rcases List.mem_cons.mp hx with rfl | hx
        · exact b
        · exact d x hx⟩
    · rintro ⟨⟨a, c⟩, d⟩
      exact ⟨⟨a, d q List.mem_cons_self⟩, c, fun x hx => d x (List.mem_cons_of_mem _ hx)⟩
theorem formL_mem {g : Sg} (hg : (g.map (·.1)).Nodup) (t : Tr) : ∀ s, s ∈ formL g t ↔ form t s ∧ okT g s := by
  induction t using Tr.ind with
  | h l ps ih =>
    intro s
    rw [formL_nd]
    unfold rowF
    rw [List.mem_flatMap]
    constructor
    · rintro ⟨p, hp, hs⟩
      by_cases q : p.2 = (ps.length : Int)
      · rw [if_pos q] at hs
        obtain ⟨qs, hq, rfl⟩ := List.mem_map.mp hs
        obtain ⟨a, ha, r, rfl, hr⟩ := prod_mem.mp hq
        rw [List.mem_singleton] at ha
        subst ha
        rw [List.nil_append] at *
        obtain ⟨h1, h2⟩ := (allIn_forms ih).mp hr
        rw [form_nd, okT_nd, rk_of_mem hg (show (p.1, p.2) ∈ g from hp), q, forms_len h1]
        exact ⟨h1, rfl, h2⟩
      · rw [if_neg q] at hs
        cases hs
    · cases s with
      | nd l' qs =>
        rw [form_nd, okT_nd]
        rintro ⟨h1, h2, h3⟩
        refine ⟨(l', (qs.length : Int)), rk_mem h2, ?_⟩
        dsimp only
        rw [if_pos (by rw [forms_len h1])]
        exact List.mem_map.mpr ⟨qs, prod_mem.mpr ⟨[], List.mem_cons_self, qs, rfl, (allIn_forms ih).mpr ⟨h1, h3⟩⟩, rfl⟩
theorem grow_len (parts : List (List Tr)) (F : List Tr) : (grow parts F).length = parts.length * F.length := by
  unfold grow
  rw [List.length_flatMap]
  induction parts with
  | nil => simp
  | cons a L ih => rw [List.map_cons, List.sum_cons, ih, List.length_map, List.length_cons, Nat.add_mul, Nat.one_mul, Nat.add_comm]
theorem prod_len : ∀ (ps : List Tr) (f : Tr → List Tr) (acc : List (List Tr)) (c : Nat), (∀ p ∈ ps, (f p).length ≤ 10 ^ p.size) → acc.length ≤ c → ((ps.map f).foldl grow acc).length ≤ c * 10 ^ Tr.sizes ps
  | [], _, acc, c, _, h => by simpa [Tr.sizes] using h
  | p :: ps, f, acc, c, h, k => by
    rw [List.map_cons, List.foldl_cons, Tr.sizes, Nat.pow_add, ← Nat.mul_assoc]
    refine prod_len ps f _ _ (fun q m => h q (List.mem_cons_of_mem _ m)) ?_
    rw [grow_len]
    exact Nat.mul_le_mul k (h p List.mem_cons_self)
theorem rowF_len {g : Sg} {n : Nat} {parts : List (List Tr)} : (rowF g n parts).length ≤ g.length * parts.length := by
  unfold rowF
  rw [List.length_flatMap]
  refine sum_le fun p _ => ?_
  split
  · rw [List.length_map]; omega
  · simp
theorem formL_len {g : Sg} (hg : g.length ≤ 10) (t : Tr) : (formL g t).length ≤ 10 ^ t.size := by
  induction t using Tr.ind with
  | h l ps ih =>
    rw [formL_nd, Tr.size, Nat.pow_succ, Nat.mul_comm]
    have h1 := prod_len ps (formL g) [[]] 1 ih (by simp)
    rw [Nat.one_mul] at h1
    exact Nat.le_trans rowF_len (Nat.mul_le_mul hg h1)
def tupT (qs : List Tr) : D := .tuple (qs.map Tr.d)
theorem prod_snoc (fs : List (List Tr)) (F : List Tr) : prodL (fs ++ [F]) = grow (prodL fs) F := by
  unfold prodL
  rw [List.foldl_append]
  rfl
theorem sizes_pre {ps pre : List Tr} {p : Tr} {post : List Tr} (e : ps = pre ++ p :: post) : Tr.sizes pre + p.size ≤ Tr.sizes ps := by
  rw [e, Tr.sizes_app, Tr.sizes]
  omega
theorem r_law_of_form {g : Sg} (hg : GoodSg g) : ∀ (j : Nat) (t : Tr), t.size ≤ j → t.size ≤ 6 → okT g t → val (g__law_of_form j [.dat (sgD g), .dat t.d]) = some (.ok (.lst ((formL g t).map Tr.d)))
  | 0, t, h, _, _ => by have := Tr.size_pos t; omega
  | j + 1, .nd l ps, h, h6, ho => by
    rw [okT_nd] at ho
    rw [Tr.size] at h h6
    have lp : ps.length ≤ 2 := by
      have := (hg.rank _ (rk_mem ho.1)).2
      dsimp only at this
      omega
    have ih : ∀ p ∈ ps, val (g__law_of_form j [.dat (sgD g), .dat p.d]) = some (.ok (.lst ((formL g p).map Tr.d))) := fun p hp => r_law_of_form hg j p (by have := Tr.size_mem hp; omega) (by have := Tr.size_mem hp; omega) (ho.2 p hp)
    unfold g__law_of_form p__law_of_form
    simp [Tr.d_nd]
    generalize hX : forL _ _ _ _ = X
    have hx := for_XE hX (fun pre ρ => ∃ f, (f = .lst ((prodL (pre.map (formL g))).map tupT) ∨ f = .dat (.list ((prodL (pre.map (formL g))).map tupT))) ∧ ∃ a b c, ρ = [some (.dat (sgD g)), some (.dat (.tuple [.str l, .tuple (ps.map Tr.d)])), some (.dat (.int ps.length)), some f, a, b, c, none, none, none, none])
      ⟨_, .inl rfl, none, none, none, by simp [prodL, tupT]⟩ (fun pre p post ρ eq ⟨f, hf, a, b, c, e⟩ => by
      subst e
      have hp : p ∈ ps := by rw [eq]; simp
      have fv : f.view = .list ((prodL (pre.map (formL g))).map tupT) ∧ f.isScr = false := by rcases hf with rfl | rfl <;> exact ⟨rfl, rfl⟩
      have es : prodL ((pre ++ [p]).map (formL g)) = grow (prodL (pre.map (formL g))) (formL g p) := by rw [List.map_append]; exact prod_snoc _ _
      have l1 : (grow (prodL (pre.map (formL g))) (formL g p)).length ≤ 1000000 := by
        have h1 := prod_len pre (formL g) [[]] 1 (fun q _ => formL_len hg.len q) (by simp)
        have h2 := formL_len hg.len p
        have h3 := sizes_pre eq
        have h4 : (prodL (pre.map (formL g))).length ≤ 10 ^ Tr.sizes pre := by unfold prodL; omega
        rw [grow_len]
        calc (prodL (pre.map (formL g))).length * (formL g p).length ≤ 10 ^ Tr.sizes pre * 10 ^ p.size := Nat.mul_le_mul h4 h2
          _ = 10 ^ (Tr.sizes pre + p.size) := (Nat.pow_add _ _ _).symm
          _ ≤ 10 ^ 6 := Nat.pow_le_pow_right (by decide) (by omega)
      rw [es]
      have ip := ih p hp
      have lf := formL_len hg.len p
      have lf2 : (formL g p).length ≤ 1000000 := Nat.le_trans lf (show 10 ^ p.size ≤ 10 ^ 6 from Nat.pow_le_pow_right (by decide) (by have := Tr.size_mem hp; omega))
      have lq : ∀ one ∈ prodL (pre.map (formL g)), one.length + 1 ≤ 16777216 := by
        intro one ho
        obtain ⟨a, ha, r, rfl, hr⟩ := prod_mem.mp ho
        rw [List.mem_singleton] at ha
        subst ha
        have : ∀ (r : List Tr) (fs : List (List Tr)), allIn r fs → r.length = fs.length := by
          intro r
          induction r with
          | nil => intro fs h; cases fs with
            | nil => rfl
            | cons _ _ => exact h.elim
          | cons x r ih => intro fs h; cases fs with
            | nil => exact h.elim
            | cons F fs => rw [List.length_cons, List.length_cons, ih fs h.2]
        have h2 := this r _ hr
        rw [List.length_map] at h2
        have h3 : pre.length ≤ ps.length := by rw [eq]; simp
        rw [List.nil_append]
        omega
      simp [fv]
      generalize prodL (pre.map (formL g)) = parts at fv l1 lq ⊢
      generalize formL g p = F at ip l1 lf2 ⊢
      generalize hY : forL _ _ _ _ = Y
      have hy := for_XE hY (fun p2 ρ => ∃ c, ρ = [some (.dat (sgD g)), some (.dat (.tuple [.str l, .tuple (ps.map Tr.d)])), some (.dat (.int ps.length)), some (.dat (.list (parts.map tupT))), some (.dat p.d), some (.lst ((grow p2 F).map tupT)), c, none, none, none, none])
        ⟨c, by simp [grow]⟩ (fun p2 one post2 ρ eq2 ⟨c, e⟩ => by
        subst e
        have ls := lq one (by rw [eq2]; simp)
        have e2 : grow (p2 ++ [one]) F = grow p2 F ++ F.map fun its => one ++ [its] := by
          unfold grow
          rw [List.flatMap_append]
          simp
        have l2 : (grow p2 F).length + F.length ≤ 16777216 := by
          have h1 : (grow (p2 ++ [one]) F).length ≤ (grow parts F).length := by
            rw [grow_len, grow_len]
            refine Nat.mul_le_mul ?_ (Nat.le_refl _)
            rw [eq2]
            simp
          rw [e2, List.length_append, List.length_map] at h1
          omega
        rw [e2]
        simp [ip]
        rw [lc_mapE (fun its => tupT (one ++ [its])) (by rw [sizeLine_eq]; omega) (fun its hi => by simp [tupT, ls])]
        simp [restE, l2, Function.comp_def])
      obtain ⟨ρ', rfl, c', rfl⟩ := hy
      simp)
    obtain ⟨ρ', rfl, f, hf, a, b, c, rfl⟩ := hx
    have fv : f.view = .list ((prodL (ps.map (formL g))).map tupT) ∧ f.isScr = false := by rcases hf with rfl | rfl <;> exact ⟨rfl, rfl⟩
    have pl : (prodL (ps.map (formL g))).length ≤ 100000 := by
      have h1 := prod_len ps (formL g) [[]] 1 (fun q _ => formL_len hg.len q) (by simp)
      unfold prodL
      rw [Nat.one_mul] at h1
      exact Nat.le_trans h1 (show 10 ^ Tr.sizes ps ≤ 10 ^ 5 from Nat.pow_le_pow_right (by decide) (by omega))
    rw [formL_nd]
    generalize prodL (ps.map (formL g)) = parts at fv pl hf ⊢
    simp
    generalize hZ : forL _ _ _ _ = Z
    have hz := for_XE hZ (fun pre ρ => ∃ f, (f.view = .list (parts.map tupT) ∧ f.isScr = false) ∧ ∃ a b c d e, ρ = [some (.dat (sgD g)), some (.dat (.tuple [.str l, .tuple (ps.map Tr.d)])), some (.dat (.int ps.length)), some f, a, b, c, d, some (.lst ((rowF pre ps.length parts).map Tr.d)), e, none])
      ⟨f, fv, a, b, c, none, none, by simp [rowF]⟩ (fun pre p post ρ eq ⟨f, fv, a, b, c, d, e, e0⟩ => by
      subst e0
      have er : rowF (pre ++ [p]) ps.length parts = rowF pre ps.length parts ++ if p.2 = (ps.length : Int) then parts.map (Tr.nd p.1) else [] := by
        unfold rowF
        rw [List.flatMap_append]
        simp
      have l1 : (rowF pre ps.length parts).length + parts.length ≤ 16777216 := by
        have h1 := rowF_len (g := pre) (n := ps.length) (parts := parts)
        have h2 : pre.length ≤ g.length := by rw [eq]; simp
        have h3 := hg.len
        have h4 : pre.length * parts.length ≤ 10 * 100000 := Nat.mul_le_mul (by omega) pl
        omega
      rw [er]
      by_cases q : p.2 = (ps.length : Int)
      · have lz : (rowF pre ps.length parts).length + parts.length ≤ 16777216 := l1
        simp [prD, q, fv]
        rw [lc_mapE (fun qs => (Tr.nd p.1 qs).d) (by rw [sizeLine_eq]; omega) (fun qs hq => by simp [tupT, Tr.d_nd])]
        simp [restE, l1, Function.comp_def]
      · have lz : (rowF pre ps.length parts).length ≤ 16777216 := by omega
        simp [prD, q, lz]
        exact fv)
    obtain ⟨ρ', rfl, f, fv, a, b, c, d, e, rfl⟩ := hz
    simp
end Sh.Own
set_option Elab.async false
set_option linter.all false
set_option maxRecDepth 100000
set_option maxHeartbeats 4000000
/-! Lw, part E: the nearest tree by going through all. -/
namespace Sh.Own
open PySem PySem.Spec PyProof.Rows L2 Sh
theorem r_law_changes {s t : Tr} (f : form s t) (hs : s.d.canLay0 = true) (ht : t.d.canLay0 = true) (hz : s.size ≤ 300000) : val (g__law_changes [.dat s.d, .dat t.d]) = some (.ok (.dat (.int (chg s t)))) := by
  unfold g__law_changes p__law_changes
  simp
  refine while_C (C := fun r => rn (sq r _) = _) (σ := Int × List (Tr × Tr)) (fun x ρ => ChI s t x.1 x.2 ∧ ∃ a b, ρ = [some (.dat s.d), some (.dat t.d), some (.dat (.int x.1)), some (.lst (prsD x.2)), a, b]) (fun x => szs x.2) (0, [(s, t)])
    ⟨⟨by simp [sumC], by simp [f], by simp [hs, ht], by simp [szs, Tr.sizes]; omega⟩, _, _, rfl⟩ ?_
  rintro ⟨c, st⟩ ρ ⟨hi, a, b, rfl⟩
  dsimp only at hi ⊢
  rcases List.eq_nil_or_concat st with rfl | ⟨st, h, rfl⟩
  · refine ⟨false, _, by simp [prsD]; rfl, ?_⟩
    have := hi.sum
    simp [sumC] at this
    simp [this]
  · refine ⟨true, _, by simp [prsD]; rfl, ?_⟩
    simp only [List.concat_eq_append] at *
    obtain ⟨x, y⟩ := h
    cases x with
    | nd l ps =>
      cases y with
      | nd l' qs =>
        obtain ⟨j1, j2, j3, j4, j5⟩ := hi.turn
        have lz := lz_trees (qs := qs) (show ps.length ≤ 1000000 by rw [List.length_zip] at j4; omega)
        have j6 : st.length + qs.length ≤ 16777216 := by
          rw [List.length_zip, j3, Nat.min_self] at j4
          omega
        simp [Tr.d_nd, j3, lz, j5, prsD, j6]
        exact ⟨_, _, j2, j1, by simp⟩
/-- those of the form that are of the kind -/
def nearL (B : Bk) (k : Int) (t : Tr) : List Tr := (formL B.sg t).filter fun s => decide (k ∈ lotT B.rules s)
theorem nearL_mem {B : Bk} (hB : GoodBk B) {k : Int} {t s : Tr} : s ∈ nearL B k t ↔ form t s ∧ okT B.sg s ∧ ofK B.rules s k := by
  unfold nearL
  rw [List.mem_filter, formL_mem hB.sg.nd]
  constructor
  · rintro ⟨⟨h1, h2⟩, h3⟩
    exact ⟨h1, h2, (lot_ofK hB.rk h2 k).mp (by simpa using h3)⟩
  · rintro ⟨h1, h2, h3⟩
    exact ⟨⟨h1, h2⟩, by simpa using (lot_ofK hB.rk h2 k).mpr h3⟩
theorem ofK_ok {B : Bk} (hB : GoodBk B) {s : Tr} : ∀ {k : Int}, ofK B.rules s k → okT B.sg s := by
  induction s using Tr.ind with
  | h l ps ih =>
    intro k h
    rw [ofK_nd] at h
    obtain ⟨ks, h1, h2⟩ := h
    have e := hB.rk _ h1
    dsimp only at e
    have l1 := ofKs_len h2
    rw [okT_nd, e, l1]
    refine ⟨rfl, ?_⟩
    have key : ∀ (ps : List Tr) (ks : List Int), (∀ p ∈ ps, ∀ {k : Int}, ofK B.rules p k → okT B.sg p) → ofKs B.rules ps ks → ∀ p ∈ ps, okT B.sg p := by
      intro ps
      induction ps with
      | nil => intro _ _ _ p hp; cases hp
      | cons q qs ih2 =>
        intro ks hk h p hp
        cases ks with
        | nil => rw [ofKs] at h; exact h.elim
        | cons k ks =>
          rw [ofKs] at h
          rcases List.mem_cons.mp hp with rfl | hp
          · exact hk p List.mem_cons_self h.1
          · exact ih2 ks (fun p m => hk p (List.mem_cons_of_mem _ m)) h.2 p hp
    exact key ps ks ih h2
def dueOf (B : Bk) (k : Int) (t : Tr) : Option Pr := alook (mendT B.rules t) k
theorem due_some {B : Bk} {k : Int} {t : Tr} {b : Pr} (h : dueOf B k t = some b) : Best (fun s => form t s ∧ ofK B.rules s k) (chg t) b := by
  have := told_mend B.rules t k
  unfold dueOf at h
  rw [h] at this
  exact this
theorem due_none {B : Bk} {k : Int} {t : Tr} (h : dueOf B k t = none) : ∀ s, form t s → ¬ ofK B.rules s k := by
  have := told_mend B.rules t k
  unfold dueOf at h
  rw [h] at this
  exact this
theorem due_iff {B : Bk} {k : Int} {t : Tr} {b : Pr} : dueOf B k t = some b ↔ Best (fun s => form t s ∧ ofK B.rules s k) (chg t) b := by
  constructor
  · exact due_some
  · intro h
    cases e : dueOf B k t with
    | none => exact (due_none e _ h.of.1 h.of.2).elim
    | some c => rw [(due_some e).uniq h]
theorem r_law_mended {B : Bk} (hB : GoodBk B) (hm : B.many ≤ 63) {k : Int} {t : Tr} (ho : okT B.sg t) (hs : t.size ≤ 6) : val (g__law_mended [.dat (bkD B), .dat (.int k), .dat t.d]) = some (.ok (.dat (match dueOf B k t with
    | some b => encP b
    | none => .none))) := by
  unfold g__law_mended p__law_mended
  have e0 : ixD (bkD B) (.int 0) = some (sgD B.sg) := by simp [bkD]
  have fl : (formL B.sg t).length ≤ sizeLine := by
    rw [sizeLine_eq]
    exact Nat.le_trans (formL_len hB.sg.len t) (Nat.le_trans (show 10 ^ t.size ≤ 10 ^ 6 from Nat.pow_le_pow_right (by decide) hs) (by decide))
  simp [e0, r_law_of_form hB.sg 12 t (by omega) hs ho, FU]
  have fm : ∀ s ∈ formL B.sg t, form t s ∧ okT B.sg s ∧ s.size ≤ 6 := fun s h => by
    obtain ⟨h1, h2⟩ := (formL_mem hB.sg.nd t s).mp h
    exact ⟨h1, h2, by rw [form_size h1]; exact hs⟩
  rw [lc_filE (fun s => decide (k ∈ lotT B.rules s)) (fun s => encP (chg t s, s)) fl (fun s h => by
    obtain ⟨h1, h2, h3⟩ := fm s h
    have lo := r_law_lot hB hm 12 s (by omega) h2
    have ch := r_law_changes h1 (okT_lay hB.sg ho) (okT_lay hB.sg h2) (by omega)
    by_cases q : k ∈ lotT B.rules s <;> simp [lo, ch, q, encP])]
  have en : (formL B.sg t).filter (fun s => decide (k ∈ lotT B.rules s)) = nearL B k t := rfl
  rw [en]
  have em : (nearL B k t).map (fun s => encP (chg t s, s)) = ((nearL B k t).map fun s => (chg t s, s)).map encP := by rw [List.map_map]; rfl
  by_cases n0 : nearL B k t = []
  · have d0 : dueOf B k t = none := by
      cases e : dueOf B k t with
      | none => rfl
      | some b =>
        have := (due_some e).of
        have m : b.2 ∈ nearL B k t := (nearL_mem hB).mpr ⟨this.1, ofK_ok hB this.2, this.2⟩
        rw [n0] at m
        cases m
    simp [restE, n0, d0]
  · have lp := List.length_pos_iff.mpr n0
    obtain ⟨m, hm1, hm2, hm3⟩ := minG_P (ps := (nearL B k t).map fun s => (chg t s, s)) (by simpa using n0) (fun p hp => by
      obtain ⟨s, hs1, rfl⟩ := List.mem_map.mp hp
      obtain ⟨h1, h2, _⟩ := (nearL_mem hB).mp hs1
      exact okT_sm hB.sg h2 (by rw [form_size h1]; omega))
    have dm : dueOf B k t = some m := by
      rw [due_iff]
      obtain ⟨s, hs1, rfl⟩ := List.mem_map.mp hm1
      obtain ⟨h1, h2, h3⟩ := (nearL_mem hB).mp hs1
      exact ⟨⟨h1, h3⟩, rfl, fun u hu => hm3 _ (List.mem_map.mpr ⟨u, (nearL_mem hB).mpr ⟨hu.1, ofK_ok hB hu.2, hu.2⟩, rfl⟩)⟩
    rw [em]
    rw [dm]
    simp [restE, lp]
    simp at hm2
    simp [hm2]
end Sh.Own
set_option Elab.async false
set_option linter.all false
set_option maxRecDepth 100000
set_option maxHeartbeats 4000000
/-! Lw, part F: whether a tree is mended right. -/
namespace Sh.Own
open PySem PySem.Spec PyProof.Rows L2 Sh
theorem chgs_le_of : ∀ {ps : List Tr}, (∀ p ∈ ps, ∀ q, chg p q ≤ p.size) → ∀ qs, chgs ps qs ≤ Tr.sizes ps
  | [], _, qs => by rw [chgs]; simp [Tr.sizes]
  | p :: ps, _, [] => by rw [chgs]; omega
  | p :: ps, h, q :: qs => by
    rw [chgs, Tr.sizes]
    have := h p List.mem_cons_self q
    have := chgs_le_of (fun r m => h r (List.mem_cons_of_mem _ m)) qs
    omega
theorem chg_le (t s : Tr) : chg t s ≤ t.size := by
  revert s
  induction t using Tr.ind with
  | h l ps ih =>
    intro s
    cases s with
    | nd l' qs =>
      rw [chg_nd, Tr.size]
      have := chgs_le_of ih qs
      split <;> omega
theorem lay_ofString (s : String) : (PyData.str (Str.ofString s)).canLay0 = true := by
  unfold PyData.canLay0 PyData.strOk
  rw [Str.ofString_eq_toList]
  rw [Array.all_eq_true']
  intro c hc
  simp at hc
  obtain ⟨x, _, rfl⟩ := hc
  have := x.valid
  simp
  rcases this with h | h
  · have : x.toNat < 55296 := h
    omega
  · exact h.2
theorem repr_ok {c : Int} (h0 : 0 ≤ c) (h1 : c ≤ 1000) : reprG [.int c] = some (.str (toString c)) := by
  unfold reprG
  dsimp only
  rw [if_pos]
  have : c.natAbs < 2 ^ 1920 := Nat.lt_of_le_of_lt (show c.natAbs ≤ 2 ^ 10 by omega) (Nat.pow_lt_pow_right (by decide) (by decide))
  by_cases z : c.natAbs = 0
  · rw [z]; decide
  · exact (Nat.log2_lt z).mpr this
theorem sm_shaped {t : Tr} (h : Sm t) : SeqAt.shaped t.d = true := by
  unfold SeqAt.shaped
  have := h.depth
  simp [h.lay]
  omega
theorem e_eqTr {s t : Tr} (h : Sm s) (k : Sm t) : eqB s.d t.d = some (PyData.eqv s.d t.d) := by
  unfold eqB
  rw [if_pos ⟨sm_shaped h, sm_shaped k⟩]
theorem e_neTr {s : Tr} (h : Sm s) : neB s.d s.d = some false := by
  unfold neB
  rw [e_eqTr h h, (Tr.eqv s s).mpr rfl]
  rfl
theorem lt_shaped (xs : List Int) : SeqAt.shaped (ltD xs) = true := by
  unfold SeqAt.shaped ltD
  simp [PyData.canLay0, PyData.depth, ints_lay, ints_depth]
theorem e_neLt (xs ys : List Int) : neB (ltD xs) (ltD ys) = some (!decide (xs = ys)) := by
  unfold neB eqB
  rw [if_pos ⟨lt_shaped xs, lt_shaped ys⟩]
  unfold ltD
  rw [PyData.eqv, eqv_ints]
  rfl
theorem e_neS {x : Str} (h : (PyData.str x).canLay0 = true) : neB (.str x) (.str x) = some false := by
  rw [e_neBS h h]
  simp
theorem r_kind_right {B : Bk} (hB : GoodBk B) (hm : B.many ≤ 63) {k : Int} (hk : 0 ≤ k ∧ k < B.many) {t : Tr} (ho : okT B.sg t) (hs : t.size ≤ 6) : val (g__law_is_kind_right [.dat (bkD B), .dat (.int k), .dat t.d]) = some (.ok (.dat (.bool true))) := by
  unfold g__law_is_kind_right p__law_is_kind_right
  have e0 : ixD (bkD B) (.int 0) = some (sgD B.sg) := by simp [bkD]
  have lm := r_law_mended hB hm (k := k) ho hs
  have me := r_mended hB hk ho (by omega)
  have io := r_is_of hB hm hk ho (by omega)
  cases hd : dueOf B k t with
  | none =>
    have no : k ∉ lotT B.rules t := fun h => due_none hd t (form_self t) ((lot_ofK hB.rk ho k).mp h)
    rw [hd] at lm
    unfold dueOf at hd
    rw [hd] at me
    simp [lm, me, io, no, isNone]
  | some b =>
    have bs := due_some hd
    obtain ⟨bf, bo⟩ := bs.of
    have bk := ofK_ok hB bo
    have bz := form_size bf
    have st := okT_sm hB.sg ho (by omega)
    have sb := okT_sm hB.sg bk (by omega)
    have hl : k ∈ lotT B.rules b.2 := (lot_ofK hB.rk bk k).mpr bo
    have d2 : dueOf B k b.2 = some (0, b.2) := by
      rw [due_iff]
      refine ⟨⟨form_self _, bo⟩, (chg_self _).symm, fun u hu => ?_⟩
      rw [ltP_eq]
      have c0 := chg_nn b.2 u
      by_cases z : chg b.2 u = 0
      · rw [if_pos z, chg_zero hu.1 z, Tr.lt_irr]
      · rw [if_neg z]
        simp
        omega
    have me2 := r_mended hB hk bk (by omega)
    unfold dueOf at d2
    rw [d2] at me2
    rw [hd] at lm
    have hd' := hd
    unfold dueOf at hd'
    rw [hd'] at me
    have nb : isNone (encP b) = false := rfl
    have it := r_is_tree hB.sg b.2.d (wD_le (by omega))
    have io2 := r_is_of hB hm hk bk (by omega)
    have cb := r_changes_between hB.sg bf ho bk (by omega)
    have rp : reprG [.int b.1] = some (.str (toString b.1)) := repr_ok (by rw [bs.cost]; exact chg_nn _ _) (by rw [bs.cost]; have := chg_le t b.2; omega)
    have ll := r_law_lot hB hm 12 t (by omega) ho
    have ll2 := r_law_lot hB hm 12 b.2 (by omega) bk
    have kd := r_kinds_of hB hm bk (by omega)
    have eqv : PyData.eqv b.2.d t.d = decide (k ∈ lotT B.rules t) := by
      by_cases z : k ∈ lotT B.rules t
      · rw [decide_eq_true z, Tr.eqv]
        have o := (lot_ofK hB.rk ho k).mp z
        have l := bs.least t ⟨form_self t, o⟩
        rw [chg_self, ltP_eq] at l
        have c0 : 0 ≤ b.1 := by rw [bs.cost]; exact chg_nn _ _
        by_cases y : (0 : Int) = b.1
        · exact (chg_zero bf (by rw [← bs.cost, y])).symm
        · rw [if_neg y] at l
          simp at l
          omega
      · rw [decide_eq_false z, Bool.eq_false_iff]
        intro y
        have e := (Tr.eqv _ _).mp y
        exact z (e ▸ hl)
    have fl : (formL B.sg t).length ≤ sizeLine := by
      rw [sizeLine_eq]
      exact Nat.le_trans (formL_len hB.sg.len t) (Nat.le_trans (show 10 ^ t.size ≤ 10 ^ 6 from Nat.pow_le_pow_right (by decide) hs) (by decide))
    have lf := r_law_of_form hB.sg 12 t (by omega) hs ho
    have nl : (nearL B k t).length ≤ sizeLine := Nat.le_trans (List.length_filter_le _ _) fl
    rw [bs.cost] at rp
    simp [lm, me, nb, e_neTr sb, e0, it, isTr_of bk, io2, hl, cb, rp, e_neS (lay_ofString _), me2, e_eqTr sb st, eqv, ll, ll2, kd, e_neLt, lf, FU, bs.cost]
    have fm : ∀ s ∈ formL B.sg t, form t s ∧ okT B.sg s ∧ s.size ≤ 6 := fun s h => by
      obtain ⟨h1, h2⟩ := (formL_mem hB.sg.nd t s).mp h
      exact ⟨h1, h2, by rw [form_size h1]; exact hs⟩
    rw [lc_filE (fun s => decide (k ∈ lotT B.rules s)) Tr.d fl (fun s h => by
      obtain ⟨h1, h2, h3⟩ := fm s h
      have lo := r_law_lot hB hm 12 s (by omega) h2
      by_cases q : k ∈ lotT B.rules s <;> simp [lo, q])]
    have en : (formL B.sg t).filter (fun s => decide (k ∈ lotT B.rules s)) = nearL B k t := rfl
    rw [en]
    simp [restE]
    rw [lc_filE (fun s => decide (chg t s = b.1)) Tr.d nl (fun s h => by
      obtain ⟨h1, h2, _⟩ := (nearL_mem hB).mp h
      have ch := r_law_changes h1 (okT_lay hB.sg ho) (okT_lay hB.sg h2) (by omega)
      by_cases q : chg t s = b.1 <;> simp [ch, q])]
    have mb : b.2 ∈ (nearL B k t).filter fun s => decide (chg t s = b.1) := List.mem_filter.mpr ⟨(nearL_mem hB).mpr ⟨bf, bk, bo⟩, by simp [bs.cost]⟩
    obtain ⟨m, hm1, hm2, hm3⟩ := r_least_of hB.sg (ts := (nearL B k t).filter fun s => decide (chg t s = b.1)) (fun z => by rw [z] at mb; cases mb)
      (Nat.le_trans (List.length_filter_le _ _) (Nat.le_trans (List.length_filter_le _ _) (Nat.le_trans (formL_len hB.sg.len t) (Nat.le_trans (show 10 ^ t.size ≤ 10 ^ 6 from Nat.pow_le_pow_right (by decide) hs) (by decide)))))
      (fun s h => ((nearL_mem hB).mp (List.mem_filter.mp h).1).2.1) (fun s h => by rw [form_size ((nearL_mem hB).mp (List.mem_filter.mp h).1).1]; omega)
    obtain ⟨hm4, hm5⟩ := List.mem_filter.mp hm1
    obtain ⟨g1, g2, g3⟩ := (nearL_mem hB).mp hm4
    have em : m = b.2 := by
      have h1 := hm3 b.2 mb
      have h2 := bs.least m ⟨g1, g3⟩
      rw [ltP_eq, if_pos (by rw [bz, form_size g1])] at h1
      rw [ltP_eq, if_pos (by simpa using hm5)] at h2
      exact Tr.lt_tot h2 h1
    rw [em] at hm2
    simp [restE, e0, hm2, e_eqTr sb sb, (Tr.eqv b.2 b.2).mpr rfl]
end Sh.Own
set_option Elab.async false
set_option linter.all false
set_option maxRecDepth 100000
set_option maxHeartbeats 4000000
/-! Lw, part G: what is refused. -/
namespace Sh.Own
open PySem PySem.Spec PyProof.Rows L2 Sh
theorem mul_tup1 (x : D) {k : Int} (h1 : 0 ≤ k) (h2 : k ≤ 1000) : mulO (.tuple [x]) (.int k) = some (.dat (.tuple (List.replicate k.toNat x))) := by
  rw [mul_tup (by simp) (by simp) h1 h2, rep_flat]
theorem not_form {g : Sg} {d : D} (h : ∀ l ds, d ≠ .tuple [.str l, .tuple ds]) : ¬ isTr g d := fun z => by
  obtain ⟨l, ds, e⟩ := isTr_form z
  exact h l ds e
theorem not_rank {g : Sg} {l : Str} {ds : List D} {r : Int} (h : rk g l = some r) (k : r ≠ (ds.length : Int)) : ¬ isTr g (.tuple [.str l, .tuple ds]) := fun z => by
  have := (isTr_iff.mp z).1
  rw [h] at this
  exact k (Option.some.inj this)
theorem wDs_rep (x : D) : ∀ n : Nat, wDs (List.replicate n x) = n * wD x
  | 0 => by simp [wDs]
  | n + 1 => by rw [List.replicate_succ, wDs, wDs_rep x n, Nat.add_mul, Nat.one_mul, Nat.add_comm]
theorem r_no_tree {b : List D} (hb : BagOk b) {g : Sg} (hg : LawSg g) : ∃ x b', valN 0 (g__law_no_tree [.lst b, .dat (sgD g)]) = some (.ok (.dat x), some (.lst b')) ∧ BagOk b' ∧ ¬ isTr g x ∧ wD x ≤ 1000 := by
  obtain ⟨l, r, rest, rfl⟩ : ∃ l r rest, g = (l, r) :: rest := by
    cases g with
    | nil => obtain ⟨l, h⟩ := hg.leaf; cases h
    | cons p rest => exact ⟨p.1, p.2, rest, rfl⟩
  have hr := hg.good.rank (l, r) List.mem_cons_self
  dsimp only at hr
  have hrk : rk ((l, r) :: rest) l = some r := rk_of_mem hg.good.nd List.mem_cons_self
  have m0 := mul_tup1 (.tuple [.str l, .tuple []]) (k := r) (by omega) (by omega)
  have m1 := mul_tup1 (.tuple [.str l, .tuple (List.replicate r.toNat (.tuple [.str l, .tuple []]))]) (k := r + 1) (by omega) (by omega)
  have m2 := mul_tup1 (.tuple [.str l, .tuple []]) (k := r + 3) (by omega) (by omega)
  have m3 := mul_tup1 .none (k := r + 1) (by omega) (by omega)
  have hh := r_some hb (d := .list [.none, .tuple [], .str "a", .str l, .tuple [.str l], .list [.str l, .tuple []], .tuple [.str "zz", .tuple []], .tuple [.str l, .list []],
    .tuple [.str l, .tuple (List.replicate (r + 1).toNat (.tuple [.str l, .tuple (List.replicate r.toNat (.tuple [.str l, .tuple []]))]))], .int 0, .dict [],
    .tuple [.str l, .tuple (List.replicate (r + 3).toNat (.tuple [.str l, .tuple []]))], .tuple [.none, .tuple []], .tuple [.str l, .tuple (List.replicate (r + 1).toNat .none)]]) (.inl rfl) (by simp) (by simp)
  obtain ⟨x, hx, b', e, hb'⟩ := hh
  refine ⟨x, b', ?_, hb', ?_⟩
  · have e0 : ixD (sgD ((l, r) :: rest)) (.int 0) = some (.tuple [.str l, .int r]) := by simp [sgD, prD]
    unfold g__law_no_tree p__law_no_tree
    simp [e0, m0, m1, m2, m3, ins, e]
  · simp only [List.mem_cons, List.not_mem_nil, or_false] at hx
    have t1 : r.toNat ≤ 2 := by omega
    have t2 : (r + 1).toNat ≤ 3 := by omega
    have t3 : (r + 3).toNat ≤ 5 := by omega
    rcases hx with rfl | rfl | rfl | rfl | rfl | rfl | rfl | rfl | rfl | rfl | rfl | rfl | rfl | rfl
    · exact ⟨not_form (by simp), by simp [wD]⟩
    · exact ⟨not_form (by simp), by simp [wD, wDs]⟩
    · exact ⟨not_form (by simp), by simp [wD]⟩
    · exact ⟨not_form (by simp), by simp [wD]⟩
    · exact ⟨not_form (by simp), by simp [wD, wDs]⟩
    · exact ⟨not_form (by simp), by simp [wD, wDs]⟩
    · refine ⟨fun z => ?_, by simp [wD, wDs]⟩
      have := (isTr_iff.mp z).1
      rw [hg.nozz] at this
      cases this
    · exact ⟨not_form (by simp), by simp [wD, wDs]⟩
    · refine ⟨not_rank hrk (by simp; omega), ?_⟩
      simp only [wD, wDs, wDs_rep]
      have : (r + 1).toNat * (1 + (r.toNat * (1 + (0 + 1 + 0) + 1) + 1 + 0) + 1) ≤ 3 * (1 + (2 * (1 + (0 + 1 + 0) + 1) + 1 + 0) + 1) := Nat.mul_le_mul t2 (by omega)
      omega
    · exact ⟨not_form (by simp), by simp [wD]⟩
    · exact ⟨not_form (by simp), by simp [wD]⟩
    · refine ⟨not_rank hrk (by simp; omega), ?_⟩
      simp only [wD, wDs, wDs_rep]
      omega
    · exact ⟨not_form (by simp), by simp [wD, wDs]⟩
    · refine ⟨not_rank hrk (by simp; omega), ?_⟩
      simp only [wD, wDs, wDs_rep]
      omega
theorem is_no_book {g : Sg} (hg : GoodSg g) {m rs : D} (hf : ∀ rs', rs = .tuple rs' → ∀ r ∈ rs', ∀ k n ks, r = .tuple [k, n, ks] → fitD n = true ∧ ∀ xs, ks = .tuple xs → xs.length ≤ sizeLine) (h : bookD g m rs = false) : val (g_is_book [.dat (.tuple [sgD g, m, rs])]) = some (.ok (.dat (.bool false))) := by
  rw [r_is_book g hg m rs (fun rs' e r hr k n ks e2 => (hf rs' e r hr k n ks e2).1) (fun rs' e r hr k n xs e2 => (hf rs' e r hr k n _ e2).2 xs rfl), h]
theorem r_no_book {b : List D} (hb : BagOk b) {B : Bk} (hB : GoodBk B) (hg : LawSg B.sg) : ∃ x b', valN 0 (g__law_no_book [.lst b, .dat (bkD B)]) = some (.ok (.dat x), some (.lst b')) ∧ BagOk b' ∧ val (g_is_book [.dat x]) = some (.ok (.dat (.bool false))) := by
  obtain ⟨g, many, rules⟩ := B
  dsimp only at hg
  obtain ⟨l, r, rest, rfl⟩ : ∃ l r rest, g = (l, r) :: rest := by
    cases g with
    | nil => obtain ⟨l, h⟩ := hg.leaf; cases h
    | cons p rest => exact ⟨p.1, p.2, rest, rfl⟩
  have hr := hg.good.rank (l, r) List.mem_cons_self
  have hn := hg.good.name (l, r) List.mem_cons_self
  dsimp only at hr hn
  have hrk : rk ((l, r) :: rest) l = some r := rk_of_mem hg.good.nd List.mem_cons_self
  have e0 : ixD (sgD ((l, r) :: rest)) (.int 0) = some (.tuple [.str l, .int r]) := by simp [sgD, prD]
  have m1 := mul_tup1 (.int 0) (k := r) (by omega) (by omega)
  have m2 := mul_tup1 (.int 0) (k := r + 1) (by omega) (by omega)
  have m3 := mul_tup1 (.tuple [.int 0, .str l, .tuple (List.replicate r.toNat (.int 0))]) (k := 2) (by omega) (by omega)
  generalize hs : sgD ((l, r) :: rest) = s at e0
  have hh := r_some hb (d := .list [.none, .tuple [], .tuple [s, .int many], .list [s, .int many, .tuple (rules.map rlD)], .tuple [s, .int 0, .tuple []], .tuple [s, .int 201, .tuple []], .str "book",
    .tuple [s, .bool true, .tuple []], .tuple [s, .int many, .list (rules.map rlD)], .tuple [s, .int many, .tuple [.tuple [.int 0, .str "zz", .tuple []]]],
    .tuple [s, .int 1, .tuple [.tuple [.int 1, .str l, .tuple (List.replicate r.toNat (.int 0))]]], .tuple [s, .int 1, .tuple [.tuple [.int 0, .str l, .tuple (List.replicate (r + 1).toNat (.int 0))]]],
    .tuple [.tuple [], .int many, .tuple []], .tuple [s, .int 1, .tuple [.none]], .tuple [s, .int 1, .tuple [.tuple [.int 0, .str l, .tuple (List.replicate r.toNat (.int 0))], .tuple [.int 0, .str l, .tuple (List.replicate r.toNat (.int 0))]]]]) (.inl rfl) (by simp) (by simp)
  obtain ⟨x, hx, b', e, hb'⟩ := hh
  refine ⟨x, b', ?_, hb', ?_⟩
  · unfold g__law_no_book p__law_no_book bkD
    simp only [hs]
    simp [e0, m1, m2, m3, ins, e]
  · simp only [List.mem_cons, List.not_mem_nil, or_false] at hx
    subst hs
    have fl : fitD (.str l) = true := by have := name_fit hn; simpa [fitD] using this
    have fz : fitD (.str "zz") = true := by decide +kernel
    have zz : nameD (.str "zz") = true := by decide +kernel
    rcases hx with rfl | rfl | rfl | rfl | rfl | rfl | rfl | rfl | rfl | rfl | rfl | rfl | rfl | rfl | rfl
    · exact r_is_book3 rfl
    · exact r_is_book3 rfl
    · exact r_is_book3 rfl
    · exact r_is_book3 rfl
    · exact is_no_book hg.good (by simp) (by simp [bookD, withinD])
    · exact is_no_book hg.good (by simp) (by simp [bookD, withinD])
    · exact r_is_book3 rfl
    · exact is_no_book hg.good (by simp) (by simp [bookD, withinD])
    · exact is_no_book hg.good (by simp) (by simp [bookD, szD])
    · refine is_no_book hg.good (by simp [fz]) ?_
      simp [bookD, ruleD, ruleB, zz, hg.nozz]
    · refine is_no_book hg.good (by simp [fl]; omega) ?_
      simp [bookD, ruleD, ruleB, withinD]
    · refine is_no_book hg.good (by simp [fl]; omega) ?_
      simp [bookD, ruleD, ruleB, hrk, szD]
      intro _ _ _ _ h
      omega
    · exact r_is_bookS (by rfl) (by simp)
    · exact is_no_book hg.good (by simp) (by simp [bookD, ruleD])
    · refine is_no_book hg.good (by simp [fl]; omega) ?_
      simp [bookD, risingD, dl_irr]
/-! ### what is said -/
section
variable {ρ : Env}
def sdR (em : Str → Str → Option Bool) (hs : List (Str × Str)) (told : Str) (r : Option (Ret O × Env)) : Option (Ret D × Env) := match r with
  | some (.ok _, ρ') => some (.ok (.str told), ρ')
  | some (.ex x, ρ') => (match pickM em hs x.cls with
    | some s => some (.ok (.str s), ρ')
    | none => none)
  | none => none
@[simp ↓] theorem e_saidM {em : Str → Str → Option Bool} {hs : List (Str × Str)} {told : Str} {f : M O} : saidM em hs told f ρ = sdR em hs told (f ρ) := id rfl
theorem sdR_ex {em : Str → Str → Option Bool} {hs : List (Str × Str)} {told s c : Str} {p : Option (Str × D)} (h : pickM em hs c = some s) : sdR em hs told (some (.ex ⟨c, p⟩, ρ)) = some (.ok (.str s), ρ) := by
  unfold sdR
  dsimp only
  rw [h]
end
abbrev hsL : List (Str × Str) := [("NoBook", "book"), ("NoKind", "kind"), ("NoTree", "tree"), ("ShapeError", "other")]
theorem pick_book : pickM (emOf emL) hsL "NoBook" = some ("book" : Str) := by decide +kernel
theorem pick_kind : pickM (emOf emL) hsL "NoKind" = some ("kind" : Str) := by decide +kernel
theorem pick_tree : pickM (emOf emL) hsL "NoTree" = some ("tree" : Str) := by decide +kernel
theorem said_eq : eqB (.list [.str "book", .str "kind", .str "tree"]) (.list [.str "book", .str "kind", .str "tree"]) = some true := by decide +kernel
theorem r_are_refused {b : List D} (hb : BagOk b) {B : Bk} (hB : GoodBk B) (hg : LawSg B.sg) (t : D) : ∃ b', valN 0 (g__law_are_refused [.lst b, .dat (bkD B), .dat t]) = some (.ok (.dat (.bool true)), some (.lst b')) ∧ BagOk b' := by
  obtain ⟨x, b1, e1, hb1, hx⟩ := r_no_book hb hB hg
  obtain ⟨y, b2, e2, hb2, hy, hw⟩ := r_no_tree hb1 hg
  obtain ⟨k, hk, b3, e3, hb3⟩ := r_some hb2 (d := .list [.none, .int (-1), .int B.many, .bool true, .str "0", .tuple [.int 0]]) (.inl rfl) (by simp) (by simp)
  refine ⟨b3, ?_, hb3⟩
  have kn : withinD k 0 (B.many - 1) = false := by
    simp only [List.mem_cons, List.not_mem_nil, or_false] at hk
    rcases hk with rfl | rfl | rfl | rfl | rfl | rfl <;> simp [withinD] <;> omega
  have s1 := r_mended_nobook hx k y
  have s2 := r_mended_no hB k y (by omega) (fun z => by rw [kn] at z; cases z)
  rw [if_neg (by rw [kn]; simp)] at s2
  have k0 : withinD (.int 0) 0 (B.many - 1) = true := by
    have := hB.many
    simp [withinD]
    omega
  have s3 := r_mended_no hB (.int 0) y (by omega) (fun _ => hy)
  rw [if_pos k0] at s3
  have i0 : ixD (bkD B) (.int 0) = some (sgD B.sg) := by simp [bkD]
  have i1 : ixD (bkD B) (.int 1) = some (.int B.many) := by simp [bkD]
  unfold g__law_are_refused p__law_are_refused
  simp [ins, e1, e2, i0, i1, e3, s1, s2, s3, sdR_ex pick_book, sdR_ex pick_kind, sdR_ex pick_tree, said_eq]
end Sh.Own
set_option Elab.async false
set_option linter.all false
set_option maxRecDepth 100000
set_option maxHeartbeats 400000
/-! Lw, part H: the law. -/
namespace Sh.Own
open PySem PySem.Spec PyProof.Rows L2 Sh
def cellOf (z : Int) : Int := (if z < 0 then -z else z).fmod (10 ^ 36)
theorem r_law_bag (ns : List Int) : ∃ b, valN 0 (g__law_bag [.scr ns]) = some (.ok (.lst b), some (.scr ns)) ∧ BagOk b := by
  have hlen : (cutD ns none (some 63)).length ≤ 63 := by
    unfold cutD
    rw [List.length_take]
    have h1 : HT.sIx ns.length ns.length (some 63) = min 63 ns.length := HT.sIx_nat _ _ 63
    have h2 : HT.sIx ns.length 0 none = 0 := rfl
    rw [h1, h2]
    omega
  refine ⟨bagL ((cutD ns none (some 63)).map cellOf) 0 0 (6133 + 11 * ((cutD ns none (some 63)).length : Int)) 0, ?_, ⟨_, _, _, _, _, rfl⟩⟩
  unfold g__law_bag p__law_bag
  have cp : CPow 10 36 := by decide
  have cm : CMul 11 ((cutD ns none (some 63)).length : Int) := .inl (by decide)
  have es : slO (.scr ns) none (some 63) = some (.lst ((cutD ns none (some 63)).map PyData.int)) := rfl
  simp [es]
  rw [lc_mapE (fun z => .int (cellOf z)) (by rw [sizeLine_eq]; omega) (fun z hz => by simp [cp, cellOf])]
  simp [restE, cm, bagL, Function.comp_def]
def sig0 : Sg := [("a", 0), ("b", 0), ("g", 2)]
def bk1 : Bk := ⟨sig0, 2, [(0, "a", []), (0, "b", []), (1, "g", [0, 0]), (1, "g", [1, 0])]⟩
def bk2 : Bk := ⟨sig0, 1, [(0, "b", []), (0, "g", [0, 0])]⟩
def lf (l : Str) : Tr := .nd l []
def both : Tr := .nd "g" [lf "b", lf "a"]
def bothB : Tr := .nd "g" [lf "b", lf "b"]
theorem good1 : GoodBk bk1 := ⟨⟨by decide +kernel, by decide +kernel⟩, by decide +kernel⟩
theorem good2 : GoodBk bk2 := ⟨⟨by decide +kernel, by decide +kernel⟩, by decide +kernel⟩
theorem ok_both : okT sig0 both := by
  unfold both lf
  simp only [okT, okTs]
  decide +kernel
theorem due1 : dueOf bk1 1 both = some (0, both) := by
  rw [due_iff]
  have o : ofK bk1.rules both 1 := by
    unfold both lf
    rw [ofK_nd]
    refine ⟨[0, 0], by decide +kernel, ?_⟩
    simp only [ofKs, ofK]
    exact ⟨⟨[], by decide +kernel, trivial⟩, ⟨[], by decide +kernel, trivial⟩, trivial⟩
  refine ⟨⟨form_self _, o⟩, (chg_self _).symm, fun u hu => ?_⟩
  rw [ltP_eq]
  have c0 := chg_nn both u
  by_cases z : chg both u = 0
  · rw [if_pos z, chg_zero hu.1 z, Tr.lt_irr]
  · rw [if_neg z]
    simp
    omega
theorem due2 : dueOf bk1 1 (lf "a") = none := by
  cases e : dueOf bk1 1 (lf "a") with
  | none => rfl
  | some b =>
    have := (due_some e).of
    obtain ⟨f, o⟩ := this
    cases hb : b.2 with
    | nd l ps =>
      rw [hb] at f o
      unfold lf at f
      rw [form_nd] at f
      have l0 := forms_len f
      rw [ofK_nd] at o
      obtain ⟨ks, h1, h2⟩ := o
      have l1 := ofKs_len h2
      have : ∀ r ∈ bk1.rules, r.1 = 1 → r.2.2.length = 2 := by decide +kernel
      have := this _ h1 rfl
      dsimp only at this
      simp at l0
      omega
theorem due3 : ∃ c, dueOf bk2 0 both = some (c, bothB) := by
  have o : ofK bk2.rules bothB 0 := by
    unfold bothB lf
    rw [ofK_nd]
    refine ⟨[0, 0], by decide +kernel, ?_⟩
    simp only [ofKs, ofK]
    exact ⟨⟨[], by decide +kernel, trivial⟩, ⟨[], by decide +kernel, trivial⟩, trivial⟩
  have fo : form both bothB := by
    unfold both bothB lf
    simp only [form, forms]
    trivial
  have r1 : ∀ r ∈ bk2.rules, r.2.2.length = 0 → r.2.1 = "b" := by decide +kernel
  have r2 : ∀ r ∈ bk2.rules, r.2.2.length = 2 → r.2.1 = "g" := by decide +kernel
  have leaf : ∀ (s : Tr) (l : Str) (k : Int), form (lf l) s → ofK bk2.rules s k → s = lf "b" := by
    intro s l k f o
    cases s with
    | nd l' ps =>
      unfold lf at f ⊢
      rw [form_nd] at f
      have l0 := forms_len f
      have p0 : ps = [] := List.length_eq_zero_iff.mp l0.symm
      subst p0
      rw [ofK_nd] at o
      obtain ⟨ks, h1, h2⟩ := o
      have := ofKs_len h2
      have := r1 _ h1 this.symm
      dsimp only at this
      rw [this]
  have uni : ∀ s, form both s → ofK bk2.rules s 0 → s = bothB := by
    intro s f o
    cases s with
    | nd l' ps =>
      unfold both at f
      rw [form_nd] at f
      have l0 := forms_len f
      match ps, f, l0, o with
      | [p, q], f, _, o =>
        simp only [forms] at f
        rw [ofK_nd] at o
        obtain ⟨ks, h1, h2⟩ := o
        have l1 := ofKs_len h2
        have l2 := r2 _ h1 l1.symm
        dsimp only at l2
        match ks, h2 with
        | [a, b], h2 =>
          simp only [ofKs] at h2
          rw [leaf p _ _ f.1 h2.1, leaf q _ _ f.2.1 h2.2.1, l2]
          rfl
  refine ⟨chg both bothB, ?_⟩
  rw [due_iff]
  refine ⟨⟨fo, o⟩, rfl, fun u hu => ?_⟩
  rw [uni u hu.1 hu.2, ltP_irr]
theorem bk1_D : bkD bk1 = .tuple [.tuple [.tuple [.str "a", .int 0], .tuple [.str "b", .int 0], .tuple [.str "g", .int 2]], .int 2, .tuple [.tuple [.int 0, .str "a", .tuple []], .tuple [.int 0, .str "b", .tuple []], .tuple [.int 1, .str "g", .tuple [.int 0, .int 0]], .tuple [.int 1, .str "g", .tuple [.int 1, .int 0]]]] := rfl
theorem bk2_D : bkD bk2 = .tuple [.tuple [.tuple [.str "a", .int 0], .tuple [.str "b", .int 0], .tuple [.str "g", .int 2]], .int 1, .tuple [.tuple [.int 0, .str "b", .tuple []], .tuple [.int 0, .str "g", .tuple [.int 0, .int 0]]]] := rfl
theorem both_D : both.d = .tuple [.str "g", .tuple [.tuple [.str "b", .tuple []], .tuple [.str "a", .tuple []]]] := by simp [both, lf, Tr.d_nd]
theorem bothB_D : bothB.d = .tuple [.str "g", .tuple [.tuple [.str "b", .tuple []], .tuple [.str "b", .tuple []]]] := by simp [bothB, lf, Tr.d_nd]
theorem lfa_D : (lf "a").d = .tuple [.str "a", .tuple []] := by simp [lf, Tr.d_nd]
theorem both_ne : neB (.tuple [.str "g", .tuple [.tuple [.str "b", .tuple []], .tuple [.str "a", .tuple []]]]) (.tuple [.str "g", .tuple [.tuple [.str "b", .tuple []], .tuple [.str "a", .tuple []]]]) = some false := by decide +kernel
theorem bothB_ne : neB (.tuple [.str "g", .tuple [.tuple [.str "b", .tuple []], .tuple [.str "b", .tuple []]]]) (.tuple [.str "g", .tuple [.tuple [.str "b", .tuple []], .tuple [.str "b", .tuple []]]]) = some false := by decide +kernel
theorem law_val (ns : List Int) : val (g_law [.scr ns]) = some (.ok (.dat (.bool true))) := by
  obtain ⟨b0, e0, hb0⟩ := r_law_bag ns
  have ob : both.size ≤ 28 := by decide +kernel
  have m1 := r_mended good1 (k := 1) (by decide) (t := both) ok_both ob
  have m2 := r_mended good1 (k := 1) (by decide) (t := lf "a") (by unfold lf; simp only [okT, okTs]; decide +kernel) (by decide +kernel)
  have m3 := r_mended good2 (k := 0) (by decide) (t := both) ok_both ob
  have d1 := due1
  have d2 := due2
  obtain ⟨c, d3⟩ := due3
  unfold dueOf at d1 d2 d3
  rw [d1] at m1
  rw [d2] at m2
  rw [d3] at m3
  dsimp only at m1 m2 m3
  rw [bk1_D, both_D] at m1
  rw [bk1_D, lfa_D] at m2
  rw [bk2_D, both_D, bothB_D] at m3
  unfold g_law p_law
  have s4 : smI 4 = true := by decide
  simp [ins, e0, m1, m2, m3, both_ne, bothB_ne, isNone, rng1, s4]
  generalize hX : forL _ _ _ _ = X
  have hx := for_X hX (fun pre ρ => ∃ b a2 a3 a4 a5 a6 a7, BagOk b ∧ ρ = [some (.scr ns), some (.lst b), a2, a3, a4, a5, a6, a7]) ⟨b0, _, _, _, _, _, _, hb0, rfl⟩ (fun pre d post ρ eq ⟨b, a2, a3, a4, a5, a6, a7, hb, e⟩ => by
    subst e
    obtain ⟨g, b1, e1, hb1, hg⟩ := r_law_signature hb
    obtain ⟨B, b2, e2, hb2, hB, rfl, hm1, hm3⟩ := r_law_book hb1 hg.good
    obtain ⟨t, b3, e3, hb3, ho, hs⟩ := r_law_tree hb2 hg (m := 5) (by decide) (by decide)
    have i0 : ixD (bkD B) (.int 0) = some (sgD B.sg) := by simp [bkD]
    have i1 : ixD (bkD B) (.int 1) = some (.int B.many) := by simp [bkD]
    have sm : smI B.many = true := by unfold smI; simp; omega
    have e3' : valN 0 (g__law_tree [.lst b2, .dat (sgD B.sg), .dat (.int 5)]) = some (.ok (.dat t.d), some (.lst b3)) := e3
    simp [ins, e1, e2, i0, e3', i1, rng1, sm, rgD]
    generalize hY : forL _ _ _ _ = Y
    have hy := for_XE hY (fun pre ρ => ∃ a7, ρ = [some (.scr ns), some (.lst b3), a2, some (.dat (bkD B)), a4, some (.dat d), some (.dat t.d), a7]) ⟨a7, rfl⟩ (fun pre i post ρ eq ⟨a7, e⟩ => by
      subst e
      have hi : i < B.many.toNat := by
        rw [← List.mem_range, eq]
        simp
      have kr := r_kind_right hB (by omega) (k := (i : Int)) (by omega) ho (by omega)
      simp [kr])
    obtain ⟨ρ', rfl, a7', rfl⟩ := hy
    have hr := r_are_refused hb3 hB hg t.d
    cases hr with
    | intro b4 hr =>
    have e4 := hr.1
    simp [ins, e4]
    exact hr.2)
  obtain ⟨ρ', rfl, b, a2, a3, a4, a5, a6, a7, hb, rfl⟩ := hx
  simp
theorem main (ns : List Int) (_ : ns.length ≤ 63) (_ : ∀ z ∈ ns, Builtin.Int.intBits z ≤ 1048576) : ∃ ρ, g_law [.scr ns] = some (.ok (.dat (.bool true)), ρ) := by
  have h := law_val ns
  unfold val at h
  cases e : g_law [.scr ns] with
  | none => rw [e] at h; cases h
  | some p =>
    obtain ⟨r, ρ⟩ := p
    rw [e] at h
    simp at h
    exact ⟨ρ, by rw [h]⟩
end Sh.Own
theorem PySem.Challenge.cw_shaperoads_k75_whole_trees_mended_by_all_holds : PySem.Challenge.rw_shaperoads_k75_whole_trees_mended_by_all.Holds := by
  exact Sh.Own.plain_end Sh.Own.main
