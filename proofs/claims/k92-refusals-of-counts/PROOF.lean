import PyProof.Rows.All
import Wide.All
import OpenK.AllK
import Wide.FinOn
import KE.KStateDown
import PyProof.ListMulRoad
import HandS.TupMul
import HandS.TupAny
import HandS.ForExc
import HandS.Comp
import KE.DataFind
import HandS.Iter
import HandS.Zip
import HandS.Dict
import HandS.IsInst
import HandS.Defaults
import HandS.TryMany
import HandS.Deep
import KE.KStar
import KE.GoesEnum
import KE.GoesMore
import KE.GoesZip
import HandS.Ends
import HandS.WordsExc
import HandS.HeadHook2
import HandS.Head2
import HandS.HeadEnd
import HandS.Strs
import HandS.SetFor
import HandS.SortInts
import HandS.Small
import PyProof.ReprRoads
import PyProof.StrLawsRepr
import PySem.Challenge.RW_surekeys_k92_refusals_of_counts
import HandS.Words
import HandS.Head0
import HandS.Head1
import HandS.HeadHook1
set_option Elab.async false
set_option linter.all false
set_option maxRecDepth 100000
section
set_option maxHeartbeats 4000000
namespace SK
open PySem PySem.Spec PyProof.Rows L2

/-! ### tuples that are known to be plain -/
/-- a tuple laid by the walk, its object known -/
def upT (H : Hp) (p : Addr) (o : Obj) (xs : List V) : Hp := upd H p (.frz o (.tup xs))
def PlT (K : PySem.W.Frag) (H : Hp) (a : Addr) (xs : List V) : Prop :=
  (∃ o, H a = some (.frz o (.tup xs)) ∧ o.dict = none) ∨ ∃ (o : Obj) (its : Array Value) (n : Nat), K.lookup a = some o ∧ o.cls = .type "tuple" ∧ o.dict = none ∧ o.data = .seq its n ∧ its.size ≤ sizeLine ∧ Vals xs its.toList
theorem PlT.sq {K : PySem.W.Frag} {H : Hp} {a : Addr} {xs : List V} (h : PlT K H a xs) : SqT K H a xs := by
  rcases h with ⟨o, h, _⟩ | ⟨o, its, n, h1, h2, _, h3⟩
  · exact .inl (.inr ⟨o, h⟩)
  · exact .inr ⟨o, its, n, h1, h2, h3⟩
theorem PlT.of {K : PySem.W.Frag} {H : Hp} {p : Addr} {o : Obj} {xs : List V} (h : o.dict = none) : PlT K (upT H p o xs) p xs := .inl ⟨o, upd_same, h⟩
section
variable {X : Cx} {pins : List (Addr × Obj)} {σ : L2.St} {H : Hp} {s : Shared}
theorem PlT.plain (I : Inv X pins σ H s) {a : Addr} {xs : List V} (h : PlT X.K H a xs) : ∃ o, s.heap.get? a = some o ∧ o.cls = .type "tuple" ∧ o.dict = none := by
  rcases h with ⟨o, h, d⟩ | ⟨o, its, n, h1, h2, d, _⟩
  · obtain ⟨e, _, its, _, o', e', c, _⟩ := I.hok a _ h
    have q := e.symm.trans e'
    cases q
    exact ⟨o, e, c, d⟩
  · exact ⟨o, I.kIn a o h1, h2, d⟩
/-- the tuple that was laid last -/
theorem Inv.laidT {its : Array Value} {xs : List V} {t' : Nat} (I : Inv X pins σ H s) (r : Vals xs its.toList) (z : xs.length ≤ sizeLine) :
    Inv X pins σ (upT H s.heap.objs.size { cls := .type "tuple", data := .seq its } xs) { s with heap := s.heap.push { cls := .type "tuple", data := .seq its }, toks := t' } :=
  I.laid (fun _ _ q => Heap.get?_push_of_some _ q) (Nat.le_refl _) ⟨Heap.get?_push_size _ rfl, z, its.toList, r, _, Heap.get?_push_size _ rfl, rfl, _, rfl⟩
end
abbrev KT := List V → Hp → VK → Prop
/-- a new plain tuple -/
def nwT (xs : List V) (H : Hp) (Q : VK) : Prop := ∀ p o, o.dict = none → H p = none → Q (.ref p) (upT H p o xs)
section
variable {X : Cx} {es : List Expr} {t : TA} {pos : Pos}
theorem pe_tupP {x1} (h : PA X es t) : PE X (.Tuple es x1 pos) (fun σ H Q => t σ H fun xs H1 => xs.length ≤ sizeLine ∧ nwT xs H1 Q) := by
  refine ⟨fun pins s σ H Q I hq => wpAny_Tuple_spliced (thn (h.run pos pins s σ H _ I hq) fun us s1 ⟨xs, H1, I1, r, z, q⟩ => ⟨by rw [← r.length]; exact z, ?_⟩)⟩
  exact ⟨.ref _, _, Inv.laidT (t' := s1.toks) I1 (by simpa using r) z, rfl, q _ _ rfl (I1.hok.fresh (Nat.le_refl _))⟩
def rCatP (K : PySem.W.Frag) : R2 := fun x y H Q => ∃ a b xs ys, x = .ref a ∧ y = .ref b ∧ SqT K H a xs ∧ SqT K H b ys ∧ xs.length + ys.length ≤ sizeLine ∧ (xs = [] → Q (.ref b) H) ∧ (xs ≠ [] → ys = [] → Q (.ref a) H) ∧ (xs ≠ [] → ys ≠ [] → nwT (xs ++ ys) H Q)
theorem op_catP : OpR X (binaryOp .Add) (rCatP X.K) := by
  intro pins s σ H x y v u Q I rx ry ⟨a, b, xs, ys, ex, ey, ha, hb, hz, q0, q1, q2⟩
  subst ex ey
  cases rx
  cases ry
  obtain ⟨its, r1, p1, _⟩ := I.tuple ha
  obtain ⟨its2, r2, p2, _⟩ := I.tuple hb
  have l1 := r1.length
  have l2 := r2.length
  by_cases hx : its = []
  · subst hx
    cases r1
    exact cat_tup0 p1 p2 ⟨.ref b, H, I, rfl, q0 rfl⟩
  · have hx' : xs ≠ [] := fun e => hx (by subst e; cases r1; rfl)
    refine HT.cat_tup p1 p2 hx (fun z => ⟨.ref a, H, I, rfl, q1 hx' (by subst z; cases r2; rfl)⟩) (fun z => ?_) (by omega)
    exact ⟨.ref _, _, Inv.laidT (t' := s.toks) I (by simpa using r1.append r2) (by rw [List.length_append]; exact hz), rfl, q2 hx' (fun e => z (by subst e; cases r2; rfl)) _ _ rfl (I.hok.fresh (Nat.le_refl _))⟩
def rSlP (K : PySem.W.Frag) : V → Option Int → Option Int → Hp → VK → Prop := fun x lo hi H Q => ∃ a xs, x = .ref a ∧ SqT K H a xs ∧ (HT.sIx xs.length 0 lo = 0 ∧ HT.sIx xs.length xs.length hi = xs.length → Q (.ref a) H) ∧
  (¬ (HT.sIx xs.length 0 lo = 0 ∧ HT.sIx xs.length xs.length hi = xs.length) → nwT (cutV xs lo hi) H Q)
theorem sl_tupP : SlR X (rSlP X.K) := by
  intro pins s σ H x v vl vu lo hi sl Q I rx hs pl pu ⟨a, xs, ex, hx, q1, q2⟩
  subst ex
  cases rx
  obtain ⟨its, r, ht, hz⟩ := I.tuple hx
  have hlen : its.toArray.size = xs.length := by rw [List.size_toArray]; exact r.length.symm
  refine ⟨"tuple", _, PyProof.Rows.slot_tuple_getitem.lookup, ht.typeIs, ?_⟩
  by_cases hw : HT.sIx xs.length 0 lo = 0 ∧ HT.sIx xs.length xs.length hi = xs.length
  · exact getItem_tuple_whole ht hs pl pu (by rw [hlen]; exact hw) ⟨.ref a, H, I, rfl, q1 hw⟩
  · refine HT.getItem_tuple_cut ht hs pl pu (by rw [hlen]; exact hw) ?_ (by rw [hlen]; exact hz)
    rw [hlen]
    exact ⟨.ref _, _, Inv.laidT (t' := s.toks) I (by show Vals (cutV xs lo hi) _; simpa [cutV] using (r.drop (HT.sIx xs.length 0 lo)).take (HT.sIx xs.length xs.length hi - HT.sIx xs.length 0 lo)) (Nat.le_trans (cutV_length xs lo hi) hz), rfl, q2 hw _ _ rfl (I.hok.fresh (Nat.le_refl _))⟩
theorem call_tupP : CallR X (.type "tuple") (fun xs H Q => ∃ p ys, xs = [.ref p] ∧ ((SqL X.K H p ys ∧ nwT ys H Q) ∨ (SqT X.K H p ys ∧ Q (.ref p) H))) := by
  intro pins s σ H xs us Q I r ⟨p, ys, ex, h⟩
  subst ex
  obtain ⟨u, rfl, rx⟩ := vals1 r
  cases rx
  rcases h with ⟨hq, q⟩ | ⟨hq, q⟩
  · obtain ⟨its, r', pl, hz⟩ := I.list hq
    have hlen := r'.length
    refine call_tuple_list pl.isList (fun h' kp => ?_) (by simp only [List.size_toArray] <;> omega)
    have I1 : Inv X pins σ H { s with heap := h' } := I.kept (t' := s.toks) kp
    exact ⟨.ref _, _, Inv.laidT (t' := s.toks) I1 (by simpa using r') hz, rfl, q _ _ rfl (I1.hok.fresh (Nat.le_refl _))⟩
  · obtain ⟨its, r', pl, hz⟩ := I.tuple hq
    exact call_tuple_same pl ⟨.ref p, H, I, rfl, q⟩
end

/-! ### tuple * int, any int -/
theorem tuple_mul1 (l : Addr) (items : Array Value) (n : Nat) (dd : Option Addr) (sl : Array (Option Value)) (x : Int) (u : Tok) (c0 : (decide (x < -(2 ^ 63)) || decide (x ≥ 2 ^ 63)) = false) (c1 : (items.isEmpty || x == 1) = true) :
    Meets (Builtin.«tuple.__mul__» ⟨[.ref l, .int x u], []⟩) (fun _ R s => s.heap.get? l = some { cls := .type "tuple", dict := dd, data := .seq items n, slots := sl } ∧ R (.ok (.ret (Value.ref l))) s) :=
  .of_wp fun prog w A R s h => by
    obtain ⟨hp, g, d, tk, os⟩ := s
    obtain ⟨hl, h⟩ := h
    have f1 := AutoSeq1.idx_int
    wp_walk using wpAny_loadPart' hl
    repeat (first
      | (refine wpAny_ite_false (decide_eq_false (by rw [c0]; exact Bool.false_ne_true)) ?_; wp_walk using wpAny_loadPart' hl)
      | (refine wpAny_ite_true (decide_eq_true (by rw [c1])) ?_; wp_walk using wpAny_loadPart' hl))
    exact ⟨_, rfl, h⟩
theorem tuple_mul0 (l : Addr) (items : Array Value) (n : Nat) (dd : Option Addr) (sl : Array (Option Value)) (x : Int) (u : Tok) (c0 : (decide (x < -(2 ^ 63)) || decide (x ≥ 2 ^ 63)) = false) (c1 : (items.isEmpty || x == 1) = false) (c2 : (decide (x ≤ 0) || items.isEmpty) = true) :
    Meets (Builtin.«tuple.__mul__» ⟨[.ref l, .int x u], []⟩) (fun _ R s => s.heap.get? l = some { cls := .type "tuple", dict := dd, data := .seq items n, slots := sl } ∧
      R (.ok (.ret (Value.ref s.heap.objs.size))) { s with heap := s.heap.push { cls := Value.type "tuple", data := Data.seq #[] }, toks := s.toks }) :=
  .of_wp fun prog w A R s h => by
    obtain ⟨hp, g, d, tk, os⟩ := s
    obtain ⟨hl, h⟩ := h
    have f1 := AutoSeq1.idx_int
    wp_walk using wpAny_loadPart' hl
    repeat (first
      | (refine wpAny_ite_false (decide_eq_false (by rw [c0]; exact Bool.false_ne_true)) ?_; wp_walk using wpAny_loadPart' hl)
      | (refine wpAny_ite_false (decide_eq_false (by rw [c1]; exact Bool.false_ne_true)) ?_; wp_walk using wpAny_loadPart' hl)
      | (refine wpAny_ite_true (decide_eq_true (by rw [c2])) ?_; wp_walk using wpAny_loadPart' hl))
    exact ⟨_, rfl, h⟩
def rRepP (K : PySem.W.Frag) : R2 := fun x y H Q => ∃ l k xs, x = .ref l ∧ y = .int k ∧ SqT K H l xs ∧ -(2 ^ 63) ≤ k ∧ k ≤ 1000 ∧ xs.length ≤ 1000 ∧ ((xs = [] ∨ k = 1) → Q (.ref l) H) ∧ (xs ≠ [] → k ≠ 1 → nwT (List.replicate k.toNat xs).flatten H Q)
theorem op_repP {X : Cx} : OpR X (binaryOp .Mult) (rRepP X.K) := by
  intro pins s σ H x y v u Q I rx ry ⟨l, k, xs, ex, ey, hT, k0, k1, hz, q1, q2⟩
  subst ex ey
  cases rx
  obtain ⟨t, rfl⟩ := ry
  obtain ⟨its, r, ⟨⟨cls, dd, data, sl⟩, ho, hc, n, hd⟩, hs⟩ := I.tuple hT
  simp only at hc hd
  subst hc hd
  have hle : its.length = xs.length := r.length.symm
  have c0 : (decide (k < -(2 ^ 63)) || decide (k ≥ 2 ^ 63)) = false := by
    rw [decide_eq_false (by omega), decide_eq_false (by omega)] <;> rfl
  have go : ∀ {S : PySem.Spec}, Meets (Builtin.«tuple.__mul__» ⟨[.ref l, .int k t], []⟩) S → S X.A (wants (EP X pins σ Q) X.xe) s → wpAny (model X.prog X.w) X.A (binaryOp .Mult (.ref l) (.int k t)) (EP X pins σ Q) X.xe s := fun m h =>
    wpAny_binaryOp_repeat_ref (T := "tuple") (U := "int") (by decide) ⟨_, ho, rfl⟩ (fun s' => typeIs_int s' k t) noFill_tuple_mul F.fills_int_mul F.slot_int_rmul repeat_tuple F.slot_int_index.lookup
      (call_meets F.slot_int_rmul (typeIs_int s k t) F.entry_int_rmul (F.args_int_rmul_2 _ _) (int_rmul_tuple k t l its.toArray n dd sl) ⟨ho, rfl, ⟨_, ho, rfl⟩, call_meets F.slot_tuple_mul ⟨_, ho, rfl⟩ F.entry_tuple_mul (F.args_tuple_mul_2 _ _) m h⟩)
  have em : its.toArray.isEmpty = decide (xs = []) := by
    cases r with
    | nil => rfl
    | cons a b => simp
  by_cases h1 : xs = [] ∨ k = 1
  · refine go (tuple_mul1 l its.toArray n dd sl k t c0 ?_) ⟨ho, ⟨.ref l, H, I, rfl, q1 h1⟩⟩
    rw [em]
    rcases h1 with e | e
    · rw [decide_eq_true e, Bool.true_or]
    · rw [e]; simp
  · have n1 : xs ≠ [] := fun e => h1 (.inl e)
    have n2 : k ≠ 1 := fun e => h1 (.inr e)
    have c1 : (its.toArray.isEmpty || k == 1) = false := by
      rw [em, decide_eq_false n1, Bool.false_or]
      exact beq_eq_false_iff_ne.mpr n2
    by_cases h2 : k ≤ 0
    · refine go (tuple_mul0 l its.toArray n dd sl k t c0 c1 (by rw [decide_eq_true h2, Bool.true_or])) ⟨ho, ?_⟩
      have e : k.toNat = 0 := by omega
      have q := q2 n1 n2
      rw [e] at q
      exact ⟨.ref _, _, Inv.laidT (t' := s.toks) I (by exact .nil) (Nat.zero_le _), rfl, q _ _ rfl (I.hok.fresh (Nat.le_refl _))⟩
    · have hsz0 : its.toArray.size = xs.length := by rw [List.size_toArray, hle]
      have hm : ((its.toArray.size : Nat) : Int) * k ≤ 1000000 := by
        rw [hsz0]
        have a1 : ((xs.length : Nat) : Int) * k ≤ 1000 * k := Int.mul_le_mul_of_nonneg_right (by omega) (by omega)
        omega
      have hk : k.toNat * xs.length ≤ 1000 * 1000 := Nat.mul_le_mul (by omega) hz
      have c2 : (decide (k ≤ 0) || its.toArray.isEmpty) = false := by
        rw [em, decide_eq_false n1, Bool.or_false]
        exact decide_eq_false h2
      have c4 : Builtin.Tuple.tupleTooMany (((its.toArray.size : Nat) : Int) * k) = false := by
        unfold Builtin.Tuple.tupleTooMany
        rw [sizeLine_eq]
        exact decide_eq_false (by omega)
      have ln : (List.replicate k.toNat xs).flatten.length ≤ sizeLine := by
        rw [PyProof.Rows.lm_len_rep_flat, sizeLine_eq]
        omega
      refine go (tuple_mulW l its.toArray n dd sl k t c0 c1 c2 (by omega) c4 (by rw [size_rep, List.size_toArray, ← (r.rep k.toNat).length]; exact ln)) ⟨ho, ?_⟩
      rw [size_rep]
      exact ⟨.ref _, _, Inv.laidT (t' := s.toks) I (by simpa using r.rep k.toNat) ln, rfl, q2 n1 n2 _ _ rfl (I.hok.fresh (Nat.le_refl _))⟩
end SK
end
section
set_option maxHeartbeats 4000000
namespace SK
open PySem PySem.Spec PyProof.Rows L2

/-! ### data: atoms and tuples (a tuple is a value here; a list, a dict, an instance is an address) -/
inductive D where
  | v (x : V)
  | t (ds : List D)
  | k (ds : List D)
/-- the items of a tuple (k: a tuple that keys a dict, laid by its value) -/
def tupD : D → Option (List D)
  | .t ds => some ds
  | .k ds => some ds
  | _ => none

mutual
inductive Rep (K : PySem.W.Frag) (H : Hp) : V → D → Prop
  | v (x : V) : Rep K H x (.v x)
  | t {a : Addr} {xs : List V} {ds : List D} : PlT K H a xs → RepL K H xs ds → Rep K H (.ref a) (.t ds)
  | k {a : Addr} {xs : List V} {ds : List D} : H a = some (.tup xs) → RepL K H xs ds → Rep K H (.ref a) (.k ds)
inductive RepL (K : PySem.W.Frag) (H : Hp) : List V → List D → Prop
  | nil : RepL K H [] []
  | cons {x : V} {xs : List V} {d : D} {ds : List D} : Rep K H x d → RepL K H xs ds → RepL K H (x :: xs) (d :: ds)
end

/-- tuples that stand are kept -/
structure Tu (K : PySem.W.Frag) (H H' : Hp) : Prop where
  p : ∀ a xs, PlT K H a xs → PlT K H' a xs
  k : ∀ a xs, H a = some (.tup xs) → H' a = some (.tup xs)

mutual
theorem Rep.keep {K : PySem.W.Frag} {H H' : Hp} (k : Tu K H H') : ∀ {x : V} (d : D), Rep K H x d → Rep K H' x d
  | _, .v _, h => by cases h; exact .v _
  | _, .t ds, h => by
    cases h with
    | t h1 h2 => exact .t (k.p _ _ h1) (RepL.keep k ds h2)
  | _, .k ds, h => by
    cases h with
    | k h1 h2 => exact .k (k.k _ _ h1) (RepL.keep k ds h2)
theorem RepL.keep {K : PySem.W.Frag} {H H' : Hp} (k : Tu K H H') : ∀ {xs : List V} (ds : List D), RepL K H xs ds → RepL K H' xs ds
  | _, [], h => by cases h; exact .nil
  | _, d :: ds, h => by
    cases h with
    | cons h1 h2 => exact .cons (Rep.keep k d h1) (RepL.keep k ds h2)
end

section
variable {K : PySem.W.Frag} {H H' : Hp}
theorem Rep.tup {x : V} {d : D} {ds : List D} (r : Rep K H x d) (h : tupD d = some ds) : ∃ a xs, x = .ref a ∧ SqT K H a xs ∧ RepL K H xs ds := by
  cases r with
  | v x => cases h
  | t h1 l1 => cases h; exact ⟨_, _, rfl, h1.sq, l1⟩
  | k h1 l1 => cases h; exact ⟨_, _, rfl, SqT.of h1, l1⟩
theorem RepL.length : ∀ {xs : List V} {ds : List D}, RepL K H xs ds → xs.length = ds.length
  | _, [], h => by cases h; rfl
  | _, d :: ds, h => by
    cases h with
    | cons h1 h2 => rw [List.length_cons, List.length_cons, h2.length]
theorem RepL.get : ∀ {xs : List V} {ds : List D} {i : Nat} {d : D}, RepL K H xs ds → ds[i]? = some d → ∃ x, xs[i]? = some x ∧ Rep K H x d
  | _, [], i, d, h, e => by simp at e
  | _, d :: ds, 0, d', h, e => by
    cases h with
    | cons h1 h2 => simp at e; subst e; exact ⟨_, rfl, h1⟩
  | _, d :: ds, i + 1, d', h, e => by
    cases h with
    | cons h1 h2 =>
      obtain ⟨x, e1, r⟩ := RepL.get (i := i) h2 (by simpa using e)
      exact ⟨x, by simpa using e1, r⟩
theorem RepL.append : ∀ {xs ys : List V} {ds es : List D}, RepL K H xs ds → RepL K H ys es → RepL K H (xs ++ ys) (ds ++ es)
  | _, _, [], _, h, h' => by cases h; exact h'
  | _, _, d :: ds, _, h, h' => by
    cases h with
    | cons h1 h2 => exact .cons h1 (RepL.append h2 h')
theorem RepL.take : ∀ {xs : List V} {ds : List D} (n : Nat), RepL K H xs ds → RepL K H (xs.take n) (ds.take n)
  | _, _, 0, _ => by simp; exact .nil
  | _, [], _ + 1, h => by cases h; exact .nil
  | _, d :: ds, n + 1, h => by
    cases h with
    | cons h1 h2 => exact .cons h1 (RepL.take n h2)
theorem RepL.drop : ∀ {xs : List V} {ds : List D} (n : Nat), RepL K H xs ds → RepL K H (xs.drop n) (ds.drop n)
  | _, _, 0, h => h
  | _, [], _ + 1, h => by cases h; exact .nil
  | _, d :: ds, n + 1, h => by
    cases h with
    | cons h1 h2 => exact RepL.drop n h2
theorem RepL.set : ∀ {xs : List V} {ds : List D} {x : V} {d : D} (n : Nat), RepL K H xs ds → Rep K H x d → RepL K H (xs.set n x) (ds.set n d)
  | _, [], _, _, _, h, _ => by cases h; exact .nil
  | _, e :: ds, _, _, 0, h, r => by
    cases h with
    | cons h1 h2 => exact .cons r h2
  | _, e :: ds, _, _, n + 1, h, r => by
    cases h with
    | cons h1 h2 => exact .cons h1 (RepL.set n h2 r)
theorem RepL.atoms : ∀ xs : List V, RepL K H xs (xs.map D.v)
  | [] => .nil
  | x :: xs => .cons (.v x) (RepL.atoms xs)
theorem RepL.of_atoms : ∀ {xs ys : List V}, RepL K H xs (ys.map D.v) → xs = ys
  | _, [], h => by cases h; rfl
  | _, y :: ys, h => by
    cases h with
    | cons h1 h2 =>
      cases h1
      rw [RepL.of_atoms h2]
theorem RepL.reverse : ∀ {xs : List V} {ds : List D}, RepL K H xs ds → RepL K H xs.reverse ds.reverse
  | _, [], h => by cases h; exact .nil
  | _, d :: ds, h => by
    cases h with
    | cons h1 h2 =>
      rw [List.reverse_cons, List.reverse_cons]
      exact (RepL.reverse h2).append (.cons h1 .nil)
theorem RepL.flatten : ∀ {xss : List (List V)} {dss : List (List D)} (h : xss.length = dss.length), (∀ (i : Nat) (xs : List V) (ds : List D), xss[i]? = some xs → dss[i]? = some ds → RepL K H xs ds) → RepL K H xss.flatten dss.flatten
  | [], [], _, _ => .nil
  | x :: xss, d :: dss, h, f => by
    rw [List.flatten_cons, List.flatten_cons]
    exact (f 0 x d rfl rfl).append (RepL.flatten (by simpa using h) fun i xs ds e1 e2 => f (i + 1) xs ds (by simpa using e1) (by simpa using e2))
theorem RepL.rep {xs : List V} {ds : List D} (k : Nat) (h : RepL K H xs ds) : RepL K H (List.replicate k xs).flatten (List.replicate k ds).flatten :=
  RepL.flatten (by simp) fun i xs' ds' e1 e2 => by
    rw [List.getElem?_replicate] at e1 e2
    split at e1
    · rename_i hi
      rw [if_pos hi] at e2
      cases e1; cases e2; exact h
    · cases e1
end

/-! ### what stands at the addresses that the reading follows -/
inductive MO where
  | lst (ds : List D)
  | dk (kvs : List (Key × D))
  | dt (kvs : List (List Key × D))
  | ins (C : Addr) (fs : List (Str × D))

/-- o: the objects followed; p: the law's pen; n: more than its place; s: the script -/
structure G where
  o : Addr → Option MO
  p : Option (Addr × Addr)
  n : Nat
  s : Option (Addr × List Int)

def G.pens (g : G) (b : Addr) : Prop := ∃ pa ca, g.p = some (pa, ca) ∧ (b = pa ∨ b = ca)
def G.put (g : G) (a : Addr) (m : MO) : G := { g with o := fun b => if b = a then some m else g.o b }
def G.dom (g : G) (b : Addr) : Prop := g.o b ≠ none ∨ g.pens b
def G.new (g : G) (b : Addr) : Prop := g.o b = none ∧ ¬ g.pens b
theorem G.put_same {g : G} {a : Addr} {m : MO} : (g.put a m).o a = some m := if_pos rfl
theorem G.put_ne {g : G} {a b : Addr} {m : MO} (h : b ≠ a) : (g.put a m).o b = g.o b := if_neg h
theorem G.put_put {g : G} {a : Addr} {m m' : MO} : (g.put a m).put a m' = g.put a m' := by
  unfold G.put
  congr 1
  funext b
  dsimp only
  split <;> rfl
theorem G.not_new {g : G} {b : Addr} (h : ¬ g.dom b) : g.new b := by
  refine ⟨?_, fun e => h (.inr e)⟩
  cases e : g.o b with
  | none => rfl
  | some m => exact absurd (.inl (by rw [e]; simp)) h

def RelKV {κ : Type} (K : PySem.W.Frag) (H : Hp) : List (κ × V) → List (κ × D) → Prop := Paired fun p q => p.1 = q.1 ∧ Rep K H p.2 q.2
theorem RelKV.keep {κ : Type} {K : PySem.W.Frag} {H H' : Hp} (k : Tu K H H') {a : List (κ × V)} {b : List (κ × D)} (h : RelKV K H a b) : RelKV K H' a b :=
  Paired.mapP h fun p q r => ⟨r.1, r.2.keep k⟩

def RepO (K : PySem.W.Frag) (H : Hp) (a : Addr) : MO → Prop
  | .lst ds => ∃ xs, H a = some (.lst xs) ∧ RepL K H xs ds
  | .dk kvs => ∃ ws, H a = some (.dK ws) ∧ RelKV K H ws kvs
  | .dt kvs => ∃ ws, H a = some (.dT ws) ∧ RelKV K H ws kvs
  | .ins C fs => ∃ dx ws, H a = some (.ins C dx ws) ∧ RelKV K H ws fs

def Scr (K : PySem.W.Frag) (H : Hp) (a : Addr) (ns : List Int) : Prop :=
  (∃ o, H a = some (.frz o (.lst (ns.map V.int)))) ∨ ∀ H', SqL K H' a (ns.map V.int)
theorem Scr.seq {K : PySem.W.Frag} {H : Hp} {a : Addr} {ns : List Int} (h : Scr K H a ns) : SqL K H a (ns.map V.int) := by
  rcases h with ⟨o, h⟩ | h
  · exact .inl (.inr ⟨o, h⟩)
  · exact h H

structure RepG (K : PySem.W.Frag) (H : Hp) (g : G) : Prop where
  obj : ∀ a m, g.o a = some m → RepO K H a m
  pen : ∀ pa ca, g.p = some (pa, ca) → g.o pa = none ∧ g.o ca = none ∧ ca ≠ pa ∧ ∃ (cs : List Int) (i c : Int), H pa = some (.lst [.ref ca, .int i, .int c]) ∧ H ca = some (.lst (cs.map V.int)) ∧ 0 ≤ i ∧ i ≤ g.n ∧ 0 ≤ c
  scr : ∀ a ns, g.s = some (a, ns) → Scr K H a ns

theorem RepO.there {K : PySem.W.Frag} {H : Hp} {a : Addr} {m : MO} (h : RepO K H a m) : ∃ u, H a = some u ∧ Mut (some u) := by
  cases m with
  | lst ds => obtain ⟨xs, e, _⟩ := h; exact ⟨_, e, trivial⟩
  | dk kvs => obtain ⟨xs, e, _⟩ := h; exact ⟨_, e, trivial⟩
  | dt kvs => obtain ⟨xs, e, _⟩ := h; exact ⟨_, e, trivial⟩
  | ins C fs => obtain ⟨dx, xs, e, _⟩ := h; exact ⟨_, e, trivial⟩
theorem RepG.dom_mut {K : PySem.W.Frag} {H : Hp} {g : G} (R : RepG K H g) {b : Addr} (h : g.dom b) : ∃ u, H b = some u ∧ Mut (some u) := by
  rcases h with h | h
  · cases e : g.o b with
    | none => exact absurd e h
    | some m => exact (R.obj b m e).there
  · obtain ⟨pa, ca, hp, hb⟩ := h
    obtain ⟨_, _, _, cs, i, c, e, e', _⟩ := R.pen pa ca hp
    rcases hb with rfl | rfl
    · exact ⟨_, e, trivial⟩
    · exact ⟨_, e', trivial⟩
theorem RepG.new_of {K : PySem.W.Frag} {H : Hp} {g : G} (R : RepG K H g) {b : Addr} (h : H b = none) : g.new b :=
  G.not_new fun d => by
    obtain ⟨u, e, _⟩ := R.dom_mut d
    rw [h] at e; cases e

/-- what is not followed stays; what is followed anew is new -/
structure Step (H : Hp) (g : G) (H' : Hp) (g' : G) : Prop where
  keep : ∀ b o, H b = some o → ¬ g.dom b → H' b = some o
  dom : ∀ b, g'.dom b → g.dom b ∨ H b = none
  there : ∀ b, H' b = none → H b = none
theorem Step.refl {H : Hp} {g : G} : Step H g H g := ⟨fun _ _ h _ => h, fun _ h => .inl h, fun _ h => h⟩
theorem upd_none {H : Hp} {p b : Addr} {o : HO} (h : upd H p o b = none) : H b = none := by
  by_cases hb : b = p
  · subst hb; rw [upd_same] at h; cases h
  · rwa [upd_ne hb] at h
theorem Step.trans {H H1 H2 : Hp} {g g1 g2 : G} (a : Step H g H1 g1) (b : Step H1 g1 H2 g2) : Step H g H2 g2 where
  keep := fun c o h n => b.keep c o (a.keep c o h n) fun d => by
    rcases a.dom c d with d | e
    · exact n d
    · rw [h] at e; cases e
  dom := fun c d => by
    rcases b.dom c d with d | e
    · exact a.dom c d
    · cases q : H c with
      | none => exact .inr rfl
      | some o =>
        refine .inl (Classical.byContradiction fun n => ?_)
        rw [a.keep c o q n] at e
        cases e
  there := fun c e => a.there c (b.there c e)

/-- knows less -/
structure Le (g g' : G) : Prop where
  o : ∀ b m, g.o b = some m → g'.o b = some m
  p : g.p = none ∨ (g.p = g'.p ∧ g'.n ≤ g.n)
  s : g.s = none ∨ g.s = g'.s
theorem Le.refl {g : G} : Le g g := ⟨fun _ _ h => h, .inr ⟨rfl, Nat.le_refl _⟩, .inr rfl⟩
theorem Le.trans {g g1 g2 : G} (a : Le g g1) (b : Le g1 g2) : Le g g2 where
  o := fun c m h => b.o c m (a.o c m h)
  p := by
    rcases a.p with h | ⟨h, l⟩
    · exact .inl h
    · rcases b.p with h' | ⟨h', l'⟩
      · exact .inl (h.trans h')
      · exact .inr ⟨h.trans h', Nat.le_trans l' l⟩
  s := by
    rcases a.s with h | h
    · exact .inl h
    · rcases b.s with h' | h'
      · exact .inl (h.trans h')
      · exact .inr (h.trans h')
theorem Le.dom {g g' : G} (a : Le g g') {b : Addr} (h : g.dom b) : g'.dom b := by
  rcases h with h | h
  · cases e : g.o b with
    | none => exact absurd e h
    | some m => exact .inl (by rw [a.o b m e]; simp)
  · obtain ⟨pa, ca, hp, hb⟩ := h
    rcases a.p with h' | ⟨h', _⟩
    · rw [hp] at h'; cases h'
    · exact .inr ⟨pa, ca, h' ▸ hp, hb⟩
theorem Le.put {g : G} {a : Addr} {m : MO} (h : g.new a) : Le g (g.put a m) :=
  ⟨fun b m' e => (G.put_ne (fun z => by rw [z, h.1] at e; cases e)).trans e, .inr ⟨rfl, Nat.le_refl _⟩, .inr rfl⟩
theorem Step.le {H H' : Hp} {g g' g'' : G} (a : Step H g H' g'') (h : Le g' g'') : Step H g H' g' := ⟨a.keep, fun b d => a.dom b (h.dom d), a.there⟩
theorem RepG.le {K : PySem.W.Frag} {H : Hp} {g g' : G} (R : RepG K H g') (h : Le g g') : RepG K H g where
  obj := fun a m e => R.obj a m (h.o a m e)
  pen := fun pa ca e => by
    rcases h.p with q | ⟨q, l⟩
    · rw [e] at q; cases q
    · obtain ⟨n1, n2, ne, cs, i, c, e1, e2, h1, h2, h3⟩ := R.pen pa ca (q ▸ e)
      have out : ∀ b, g'.o b = none → g.o b = none := fun b n => by
        cases e : g.o b with
        | none => rfl
        | some m => rw [h.o b m e] at n; cases n
      exact ⟨out _ n1, out _ n2, ne, cs, i, c, e1, e2, h1, by omega, h3⟩
  scr := fun a ns e => by
    rcases h.s with q | q
    · rw [e] at q; cases q
    · exact R.scr a ns (q ▸ e)

theorem Step.tu {K : PySem.W.Frag} {H H' : Hp} {g g' : G} (a : Step H g H' g') (R : RepG K H g) : Tu K H H' := by
  have nd : ∀ b u, H b = some u → ¬ Mut (some u) → ¬ g.dom b := fun b u e n d => by
    obtain ⟨u', e', m⟩ := R.dom_mut d
    rw [e] at e'; cases e'
    exact n m
  refine ⟨fun b xs h => ?_, fun b xs h => a.keep _ _ h (nd _ _ h fun z => z)⟩
  rcases h with ⟨o, h, d⟩ | h
  · exact .inl ⟨o, a.keep _ _ h (nd _ _ h fun z => z), d⟩
  · exact .inr h

section
variable {K : PySem.W.Frag} {H : Hp} {g : G} {p : Addr} {o : HO} {m : MO}
theorem Step.fresh (hp : H p = none) : Step H g (upd H p o) g := ⟨fun b u e _ => (upd_ne (ne_of_none e hp)).trans e, fun _ h => .inl h, fun _ h => upd_none h⟩
theorem RepO.keep {H' : Hp} {a : Addr} (h : RepO K H a m) (k : Tu K H H') (e : ∀ u, H a = some u → H' a = some u) : RepO K H' a m := by
  cases m with
  | lst ds => obtain ⟨xs, q, r⟩ := h; exact ⟨xs, e _ q, r.keep k⟩
  | dk kvs => obtain ⟨xs, q, r⟩ := h; exact ⟨xs, e _ q, RelKV.keep k r⟩
  | dt kvs => obtain ⟨xs, q, r⟩ := h; exact ⟨xs, e _ q, RelKV.keep k r⟩
  | ins C fs => obtain ⟨dx, xs, q, r⟩ := h; exact ⟨dx, xs, e _ q, RelKV.keep k r⟩
theorem Scr.keep {H' : Hp} {a : Addr} {ns : List Int} (h : Scr K H a ns) (e : ∀ o u, H a = some (.frz o u) → H' a = some (.frz o u)) : Scr K H' a ns := by
  rcases h with ⟨o, h⟩ | h
  · exact .inl ⟨o, e _ _ h⟩
  · exact .inr h
/-- a new object that is not followed -/
theorem RepG.fresh (R : RepG K H g) (hp : H p = none) : RepG K (upd H p o) g := by
  have st : Step H g (upd H p o) g := Step.fresh hp
  have k := st.tu R
  have e : ∀ a u, H a = some u → upd H p o a = some u := fun a u e => (upd_ne (ne_of_none e hp)).trans e
  refine ⟨fun a m q => (R.obj a m q).keep k (e a), fun pa ca q => ?_, fun a ns q => (R.scr a ns q).keep fun o u => e a _⟩
  obtain ⟨n1, n2, ne, cs, i, c, e1, e2, z⟩ := R.pen pa ca q
  exact ⟨n1, n2, ne, cs, i, c, e _ _ e1, e _ _ e2, z⟩
/-- .. that is followed -/
theorem RepG.alloc (R : RepG K H g) (hp : H p = none) (h : RepO K (upd H p o) p m) : RepG K (upd H p o) (g.put p m) := by
  have R1 := R.fresh (o := o) hp
  have nw := R.new_of hp
  refine ⟨fun a m' q => ?_, fun pa ca q => ?_, R1.scr⟩
  · by_cases ha : a = p
    · subst ha
      rw [G.put_same] at q; cases q
      exact h
    · rw [G.put_ne ha] at q
      exact R1.obj a m' q
  · have q : g.p = some (pa, ca) := q
    obtain ⟨n1, n2, ne, cs, i, c, e1, e2, z⟩ := R.pen pa ca q
    exact ⟨by rw [G.put_ne (ne_of_none e1 hp)]; exact n1, by rw [G.put_ne (ne_of_none e2 hp)]; exact n2, ne, cs, i, c, by rw [upd_ne (ne_of_none e1 hp)]; exact e1, by rw [upd_ne (ne_of_none e2 hp)]; exact e2, z⟩
theorem Step.alloc (R : RepG K H g) (hp : H p = none) : Step H g (upd H p o) (g.put p m) := ⟨fun b u e _ => (upd_ne (ne_of_none e hp)).trans e, fun b d => by
  rcases d with d | d
  · by_cases hb : b = p
    · rw [hb]; exact .inr hp
    · rw [G.put_ne hb] at d; exact .inl (.inl d)
  · exact .inl (.inr d), fun _ h => upd_none h⟩
/-- one that stands already is followed from here on -/
theorem RepG.track (R : RepG K H g) (n : g.new p) (h : RepO K H p m) : RepG K H (g.put p m) := by
  refine ⟨fun a m' q => ?_, fun pa ca q => ?_, R.scr⟩
  · by_cases ha : a = p
    · subst ha
      rw [G.put_same] at q; cases q
      exact h
    · rw [G.put_ne ha] at q
      exact R.obj a m' q
  · have q : g.p = some (pa, ca) := q
    obtain ⟨n1, n2, z⟩ := R.pen pa ca q
    have h1 : pa ≠ p := fun e => n.2 ⟨pa, ca, q, .inl e.symm⟩
    have h2 : ca ≠ p := fun e => n.2 ⟨pa, ca, q, .inr e.symm⟩
    exact ⟨by rw [G.put_ne h1]; exact n1, by rw [G.put_ne h2]; exact n2, z⟩
theorem Step.track {H0 : Hp} {g0 : G} (st : Step H0 g0 H g) (h : H0 p = none) : Step H0 g0 H (g.put p m) := ⟨st.keep, fun b d => by
  rcases d with d | d
  · by_cases hb : b = p
    · rw [hb]; exact .inr h
    · rw [G.put_ne hb] at d; exact st.dom b (.inl d)
  · exact st.dom b (.inr d), st.there⟩
/-- one that is followed is written -/
theorem RepG.write {m0 : MO} (R : RepG K H g) (hg : g.o p = some m0) (h : Tu K H (upd H p o) → RepO K (upd H p o) p m) : RepG K (upd H p o) (g.put p m) ∧ Step H g (upd H p o) (g.put p m) := by
  obtain ⟨u0, eu, mu⟩ := (R.obj p m0 hg).there
  have st : Step H g (upd H p o) (g.put p m) := ⟨fun b u e n => (upd_ne (fun z => n (.inl (by rw [z, hg]; simp)))).trans e, fun b d => by
    rcases d with d | d
    · by_cases hb : b = p
      · rw [hb]; exact .inl (.inl (by rw [hg]; simp))
      · rw [G.put_ne hb] at d; exact .inl (.inl d)
    · exact .inl (.inr d), fun _ h => upd_none h⟩
  have k := st.tu R
  refine ⟨⟨fun a m' q => ?_, fun pa ca q => ?_, fun a ns q => (R.scr a ns q).keep fun o u e => ?_⟩, st⟩
  · by_cases ha : a = p
    · subst ha
      rw [G.put_same] at q; cases q
      exact h k
    · rw [G.put_ne ha] at q
      exact (R.obj a m' q).keep k fun u e => (upd_ne ha).trans e
  · have q : g.p = some (pa, ca) := q
    obtain ⟨n1, n2, ne, cs, i, c, e1, e2, z⟩ := R.pen pa ca q
    have h1 : pa ≠ p := fun e => by rw [e, hg] at n1; cases n1
    have h2 : ca ≠ p := fun e => by rw [e, hg] at n2; cases n2
    exact ⟨by rw [G.put_ne h1]; exact n1, by rw [G.put_ne h2]; exact n2, ne, cs, i, c, by rw [upd_ne h1]; exact e1, by rw [upd_ne h2]; exact e2, z⟩
  · have ha : a ≠ p := fun z => by rw [z, eu] at e; cases e; exact mu
    exact (upd_ne ha).trans e
end

/-! ### states, readings -/
abbrev Ev := List (Option D)
abbrev DK := D → G → Prop
def RepE (K : PySem.W.Frag) (H : Hp) (σ : L2.St) (e : Ev) : Prop := σ.length = e.length ∧ ∀ (i : Nat) (d : D), e[i]? = some (some d) → ∃ x, σ[i]? = some (some x) ∧ Rep K H x d
theorem RepE.keep {K : PySem.W.Frag} {H H' : Hp} {σ : L2.St} {e : Ev} (h : RepE K H σ e) (k : Tu K H H') : RepE K H' σ e :=
  ⟨h.1, fun i d q => let ⟨x, q1, r⟩ := h.2 i d q; ⟨x, q1, r.keep k⟩⟩
theorem RepE.set {K : PySem.W.Frag} {H : Hp} {σ : L2.St} {e : Ev} {x : V} {d : D} (h : RepE K H σ e) (i : Nat) (r : Rep K H x d) : RepE K H (σ.set i (some x)) (e.set i (some d)) := by
  refine ⟨by rw [List.length_set, List.length_set]; exact h.1, fun j d' q => ?_⟩
  by_cases hj : j = i
  · subst hj
    have hl : j < e.length := by
      rw [List.getElem?_eq_some_iff] at q
      obtain ⟨q, _⟩ := q
      rwa [List.length_set] at q
    rw [List.getElem?_set_self hl] at q
    cases q
    exact ⟨x, List.getElem?_set_self (by rw [h.1]; exact hl), r⟩
  · rw [List.getElem?_set_ne (Ne.symm hj)] at q ⊢
    exact h.2 j d' q

/-- the def's context, its entry -/
structure Yx where
  X : L2.Cx
  H0 : Hp
  g0 : G
structure Bx where
  K : PySem.W.Frag
  H0 : Hp
  g0 : G
abbrev Yx.b (Y : Yx) : Bx := ⟨Y.X.K, Y.H0, Y.g0⟩
structure Sm (B : Bx) (σ : L2.St) (H : Hp) (e : Ev) (g : G) : Prop where
  st : Step B.H0 B.g0 H g
  re : RepE B.K H σ e
  rg : RepG B.K H g
theorem Sm.next {B : Bx} {σ : L2.St} {H H' : Hp} {e : Ev} {g g' : G} (S : Sm B σ H e g) (st : Step H g H' g') (R : RepG B.K H' g') : Sm B σ H' e g' :=
  ⟨S.st.trans st, S.re.keep (st.tu S.rg), R⟩
def Pst (B : Bx) (H : Hp) (g : G) (Q : DK) : VK := fun x H' => ∃ d g', Step H g H' g' ∧ RepG B.K H' g' ∧ Rep B.K H' x d ∧ Q d g'
def PstB (B : Bx) (H : Hp) (g : G) (Q : Bool → G → Prop) : Bool → Hp → Prop := fun b H' => ∃ g', Step H g H' g' ∧ RepG B.K H' g' ∧ Q b g'
def PstL (B : Bx) (H : Hp) (g : G) (Q : List D → G → Prop) : List V → Hp → Prop := fun xs H' => ∃ ds g', Step H g H' g' ∧ RepG B.K H' g' ∧ RepL B.K H' xs ds ∧ Q ds g'
abbrev TE' := Ev → G → DK → Prop
abbrev TB' := Ev → G → (Bool → G → Prop) → Prop
abbrev TL' := Ev → G → (List D → G → Prop) → Prop
def TQ (B : Bx) (t : TE') : TE := fun σ H Q' => ∃ e g Q, Sm B σ H e g ∧ t e g Q ∧ ∀ x H', Pst B H g Q x H' → Q' x H'
def TTB (B : Bx) (t : TB') : L2.TT := fun σ H Q' => ∃ e g Q, Sm B σ H e g ∧ t e g Q ∧ ∀ x H', PstB B H g Q x H' → Q' x H'
def TTL (B : Bx) (t : TL') : TA := fun σ H Q' => ∃ e g Q, Sm B σ H e g ∧ t e g Q ∧ ∀ x H', PstL B H g Q x H' → Q' x H'

structure QE (Y : Yx) (e : Expr) (t : TE') : Prop where
  pe : PE Y.X e (TQ Y.b t)
structure QT (Y : Yx) (e : Expr) (t : TB') : Prop where
  pt : PT Y.X e (TTB Y.b t)
structure QW (Y : Yx) (e : Expr) (t : TB') : Prop where
  pw : PW Y.X e (TTB Y.b t)
structure QA (Y : Yx) (es : List Expr) (t : TL') : Prop where
  pa : PA Y.X es (TTL Y.b t)
theorem PE.imp {X : Cx} {e : Expr} {t u : TE} (h : PE X e t) (f : ∀ σ H Q, u σ H Q → t σ H Q) : PE X e u := ⟨fun p s σ H Q I q => h.run p s σ H Q I (f σ H Q q)⟩
theorem PT.imp {X : Cx} {e : Expr} {t u : L2.TT} (h : PT X e t) (f : ∀ σ H Q, u σ H Q → t σ H Q) : PT X e u := ⟨fun p s σ H Q I q => h.run p s σ H Q I (f σ H Q q)⟩
theorem PW.imp {X : Cx} {e : Expr} {t u : L2.TT} (h : PW X e t) (f : ∀ σ H Q, u σ H Q → t σ H Q) : PW X e u := ⟨fun w p s σ H Q I q => h.run w p s σ H Q I (f σ H Q q)⟩
theorem PA.imp {X : Cx} {es : List Expr} {t u : TA} (h : PA X es t) (f : ∀ σ H Q, u σ H Q → t σ H Q) : PA X es u := ⟨fun w p s σ H Q I q => h.run w p s σ H Q I (f σ H Q q)⟩
/-- a new list, not followed yet -/
def TQF (B : Bx) (t : TL') : TE := fun σ H Q' => ∃ e g Q, Sm B σ H e g ∧ t e g Q ∧ ∀ p xs H' ds g', Step H g H' g' → RepG B.K H' g' → RepL B.K H' xs ds → H' p = some (.lst xs) → g'.new p → H p = none → Q ds g' → Q' (.ref p) H'
structure QF (Y : Yx) (e : Expr) (t : TL') : Prop where
  pe : PE Y.X e (TQF Y.b t)
theorem QE.of {Y : Yx} {e : Expr} {T : TE} {t : TE'} (h : PE Y.X e T) (f : ∀ σ H e g Q (Q' : VK), Sm Y.b σ H e g → t e g Q → (∀ x H', Pst Y.b H g Q x H' → Q' x H') → T σ H Q') : QE Y e t :=
  ⟨PE.imp h fun σ H Q' ⟨e, g, Q, S, w, k⟩ => f σ H e g Q Q' S w k⟩
theorem QT.of {Y : Yx} {e : Expr} {T : L2.TT} {t : TB'} (h : PT Y.X e T) (f : ∀ σ H e g Q (Q' : Bool → Hp → Prop), Sm Y.b σ H e g → t e g Q → (∀ x H', PstB Y.b H g Q x H' → Q' x H') → T σ H Q') : QT Y e t :=
  ⟨PT.imp h fun σ H Q' ⟨e, g, Q, S, w, k⟩ => f σ H e g Q Q' S w k⟩
theorem QW.of {Y : Yx} {e : Expr} {T : L2.TT} {t : TB'} (h : PW Y.X e T) (f : ∀ σ H e g Q (Q' : Bool → Hp → Prop), Sm Y.b σ H e g → t e g Q → (∀ x H', PstB Y.b H g Q x H' → Q' x H') → T σ H Q') : QW Y e t :=
  ⟨PW.imp h fun σ H Q' ⟨e, g, Q, S, w, k⟩ => f σ H e g Q Q' S w k⟩
theorem QA.of {Y : Yx} {es : List Expr} {T : TA} {t : TL'} (h : PA Y.X es T) (f : ∀ σ H e g Q (Q' : List V → Hp → Prop), Sm Y.b σ H e g → t e g Q → (∀ x H', PstL Y.b H g Q x H' → Q' x H') → T σ H Q') : QA Y es t :=
  ⟨PA.imp h fun σ H Q' ⟨e, g, Q, S, w, k⟩ => f σ H e g Q Q' S w k⟩
theorem QF.of {Y : Yx} {e : Expr} {T : TE} {t : TL'} (h : PE Y.X e T) (f : ∀ σ H e g Q (Q' : VK), Sm Y.b σ H e g → t e g Q → (∀ p xs H' ds g', Step H g H' g' → RepG Y.X.K H' g' → RepL Y.X.K H' xs ds → H' p = some (.lst xs) → g'.new p → H p = none → Q ds g' → Q' (.ref p) H') → T σ H Q') : QF Y e t :=
  ⟨PE.imp h fun σ H Q' ⟨e, g, Q, S, w, k⟩ => f σ H e g Q Q' S w k⟩
/-- .. followed -/
def tF (t : TL') : TE' := fun e g Q => t e g fun ds g1 => ∀ p, g1.new p → Q (.v (.ref p)) (g1.put p (.lst ds))
theorem QF.qe {Y : Yx} {e : Expr} {t : TL'} (h : QF Y e t) : QE Y e (tF t) :=
  QE.of h.pe fun σ H ev g Q Q' S w k => ⟨ev, g, _, S, w, fun p xs H' ds g' st R l hp nw h0 q =>
    k _ _ ⟨.v (.ref p), _, st.track h0, R.track (m := .lst ds) nw ⟨xs, hp, l⟩, .v _, q p nw⟩⟩
end SK
end
section
set_option maxHeartbeats 4000000
namespace SK
open PySem PySem.Spec PyProof.Rows L2

/-! ### handing on -/
section
variable {Y : Yx} {H H1 : Hp} {g g1 : G}
theorem Pst.here {Q : DK} {x : V} {d : D} (R : RepG Y.X.K H g) (r : Rep Y.X.K H x d) (q : Q d g) : Pst Y.b H g Q x H := ⟨d, g, .refl, R, r, q⟩
theorem Pst.atom {Q : DK} {x : V} (R : RepG Y.X.K H g) (q : Q (.v x) g) : Pst Y.b H g Q x H := ⟨_, g, .refl, R, .v x, q⟩
theorem Pst.step {Q : DK} {x : V} {H' : Hp} (st : Step H g H1 g1) (h : Pst Y.b H1 g1 Q x H') : Pst Y.b H g Q x H' := by
  obtain ⟨d, g', s, R, r, q⟩ := h
  exact ⟨d, g', st.trans s, R, r, q⟩
theorem PstB.here {Q : Bool → G → Prop} {b : Bool} (R : RepG Y.X.K H g) (q : Q b g) : PstB Y.b H g Q b H := ⟨g, .refl, R, q⟩
theorem PstB.step {Q : Bool → G → Prop} {x : Bool} {H' : Hp} (st : Step H g H1 g1) (h : PstB Y.b H1 g1 Q x H') : PstB Y.b H g Q x H' := by
  obtain ⟨g', s, R, q⟩ := h
  exact ⟨g', st.trans s, R, q⟩
theorem PstL.here {Q : List D → G → Prop} {xs : List V} {ds : List D} (R : RepG Y.X.K H g) (r : RepL Y.X.K H xs ds) (q : Q ds g) : PstL Y.b H g Q xs H := ⟨ds, g, .refl, R, r, q⟩
theorem PstL.step {Q : List D → G → Prop} {x : List V} {H' : Hp} (st : Step H g H1 g1) (h : PstL Y.b H1 g1 Q x H') : PstL Y.b H g Q x H' := by
  obtain ⟨d, g', s, R, r, q⟩ := h
  exact ⟨d, g', st.trans s, R, r, q⟩
/-- a new tuple -/
theorem Pst.tup {Q : DK} {p : Addr} {o : Obj} {xs : List V} {ds : List D} (R : RepG Y.X.K H g) (ho : o.dict = none) (hp : H p = none) (r : RepL Y.X.K H xs ds) (q : Q (.t ds) g) : Pst Y.b H g Q (.ref p) (upT H p o xs) :=
  ⟨.t ds, g, Step.fresh hp, R.fresh hp, .t (PlT.of ho) (r.keep ((Step.fresh (g := g) hp).tu R)), q⟩
theorem Pst.kup {Q : DK} {p : Addr} {xs : List V} {ds : List D} (R : RepG Y.X.K H g) (hp : H p = none) (r : RepL Y.X.K H xs ds) (q : Q (.k ds) g) : Pst Y.b H g Q (.ref p) (upd H p (.tup xs)) :=
  ⟨.k ds, g, Step.fresh hp, R.fresh hp, .k upd_same (r.keep ((Step.fresh (g := g) hp).tu R)), q⟩
/-- a new list -/
theorem Pst.lst {Q : DK} {p : Addr} {xs : List V} {ds : List D} (R : RepG Y.X.K H g) (hp : H p = none) (r : RepL Y.X.K H xs ds) (q : g.new p → Q (.v (.ref p)) (g.put p (.lst ds))) : Pst Y.b H g Q (.ref p) (upd H p (.lst xs)) :=
  ⟨_, g.put p (.lst ds), Step.alloc R hp, R.alloc (m := .lst ds) hp ⟨xs, upd_same, r.keep ((Step.fresh (g := g) hp).tu R)⟩, .v _, q (R.new_of hp)⟩
end

/-! ### names, constants -/
section
variable {Y : Yx} {pos : Pos}
def tV (i : Nat) : TE' := fun e g Q => ∃ d, e[i]? = some (some d) ∧ Q d g
def tK (d : D) : TE' := fun _ g Q => Q d g
theorem qv (i : Nat) {x : Str} (hN : Y.X.N[i]? = some x := by rfl) (hv : Vis Y.X.env.scope x := by first | exact Or.inl rfl | exact Or.inr (Or.inl rfl) | exact Or.inr (Or.inr rfl)) (hd : (x == ("__debug__" : Str)) = false := by decide)
    (hcd : (x == ("__classdict__" : Str)) = false := by decide) : QE Y (.Name x pos) (tV i) :=
  QE.of (pe_var hN hv hd hcd) fun σ H e g Q Q' S ⟨d, hi, q⟩ k =>
    let ⟨x, hx, r⟩ := S.re.2 i d hi
    ⟨x, hx, k _ _ (.here S.rg r q)⟩
theorem qc_int {i : Int} {j} : QE Y (.Constant (.int i) j pos) (tK (.v (.int i))) := QE.of pe_int fun σ H e g Q Q' S q k => k _ _ (.atom S.rg q)
theorem qc_bl {b : Bool} {j} : QE Y (.Constant (.bool b) j pos) (tK (.v (.bl b))) := QE.of pe_bl fun σ H e g Q Q' S q k => k _ _ (.atom S.rg q)
theorem qc_non {j} : QE Y (.Constant .none j pos) (tK (.v .non)) := QE.of pe_non fun σ H e g Q Q' S q k => k _ _ (.atom S.rg q)
theorem qc_str {x : Str} {j} : QE Y (.Constant (.str x) j pos) (tK (.v (.str x))) := QE.of pe_str fun σ H e g Q Q' S q k => k _ _ (.atom S.rg q)
/-- a module's name, a class, as a value -/
theorem q_glob {x : Str} {v : V} {u : Value} (hg : Gl Y.X x) (hm : Y.X.mg x = some u) (r : RelV v u) (hd : (x == ("__debug__" : Str)) = false := by decide) : QE Y (.Name x pos) (tK (.v v)) :=
  QE.of (pe_glob hg hm r hd) fun σ H e g Q Q' S q k => k _ _ (.atom S.rg q)
theorem q_bltn {x : Str} {v : V} {u : Value} (hg : Gl Y.X x) (hm : Y.X.mg x = none) (hv : bootBuiltins x = some u) (r : RelV v u) (hn : x ≠ "__name__" := by decide) (hd : (x == ("__debug__" : Str)) = false := by decide) : QE Y (.Name x pos) (tK (.v v)) :=
  QE.of (pe_bltn hg hm hv r hn hd) fun σ H e g Q Q' S q k => k _ _ (.atom S.rg q)
end

/-! ### operators, by data -/
abbrev RD2 := D → D → G → DK → Prop
def OpD (Y : Yx) (f : Value → Value → Sem Value) (rd : RD2) : Prop :=
  OpR Y.X f (fun x y H Q' => ∃ d1 d2 g Q, RepG Y.X.K H g ∧ Rep Y.X.K H x d1 ∧ Rep Y.X.K H y d2 ∧ rd d1 d2 g Q ∧ ∀ z H', Pst Y.b H g Q z H' → Q' z H')
def tO (rd : RD2) (ta tb : TE') : TE' := fun e g Q => ta e g fun d1 g1 => tb e g1 fun d2 g2 => rd d1 d2 g2 Q
section
variable {Y : Yx} {a b : Expr} {ta tb : TE'} {pos : Pos} {rd : RD2}
theorem two {f : Value → Value → Sem Value} {R : V → V → Hp → Prop} {σ : L2.St} {H : Hp} {e : Ev} {g : G} {Q : DK} {Q' : VK} (S : Sm Y.b σ H e g) (h : tO rd ta tb e g Q) (k : ∀ x H', Pst Y.b H g Q x H' → Q' x H') :
    TQ Y.b ta σ H fun x H1 => TQ Y.b tb σ H1 fun y H2 => ∃ d1 d2 g2 Q2, RepG Y.X.K H2 g2 ∧ Rep Y.X.K H2 x d1 ∧ Rep Y.X.K H2 y d2 ∧ rd d1 d2 g2 Q2 ∧ ∀ z H', Pst Y.b H2 g2 Q2 z H' → Q' z H' := by
  refine ⟨e, g, _, S, h, fun x H1 ⟨d1, g1, st1, R1, rx, q1⟩ => ?_⟩
  refine ⟨e, g1, _, S.next st1 R1, q1, fun y H2 ⟨d2, g2, st2, R2, ry, q2⟩ => ?_⟩
  exact ⟨d1, d2, g2, Q, R2, rx.keep (st2.tu R1), ry, q2, fun z H' p => k z H' (p.step (st1.trans st2))⟩
theorem q_op {op : Operator} (ho : OpD Y (binaryOp op) rd) (ha : QE Y a ta) (hb : QE Y b tb) : QE Y (.BinOp a op b pos) (tO rd ta tb) :=
  QE.of (pe_op ho ha.pe hb.pe) fun σ H e g Q Q' S h k => two (f := binaryOp op) (R := fun _ _ _ => True) S h k
theorem q_cmp {op : CmpOp} (ho : OpD Y (compareOp op) rd) (ha : QE Y a ta) (hb : QE Y b tb) (hm : behindInMarks op b = false := by first | exact nomark _ | rfl | with_unfolding_all rfl) : QE Y (.Compare a [op] [b] pos) (tO rd ta tb) :=
  QE.of (pe_cmpR ho ha.pe hb.pe hm) fun σ H e g Q Q' S h k => two (f := compareOp op) (R := fun _ _ _ => True) S h k
/-- a value that is a bool, as a test -/
def tB (t : TE') : TB' := fun e g Q => t e g fun d g1 => ∃ b, d = .v (.bl b) ∧ Q b g1
theorem q_val {e : Expr} {t : TE'} (h : QE Y e t) (he : ∀ whole, isTrue e Y.X.env whole = (do let v ← whole; standAt e.pos; holding [v] (truthy v)) := by intro _; rfl) : QT Y e (tB t) :=
  QT.of (pt_val h.pe he) fun σ H ev g Q Q' S w k => ⟨ev, g, _, S, w, fun x H1 ⟨d, g1, st, R, r, b, e, q⟩ => by
    subst e; cases r
    exact ⟨b, rfl, k _ _ ⟨g1, st, R, q⟩⟩⟩
theorem qt_cmp {op : CmpOp} (ho : OpD Y (compareOp op) rd) (ha : QE Y a ta) (hb : QE Y b tb) (hm : behindInMarks op b = false := by first | exact nomark _ | rfl | with_unfolding_all rfl) : QT Y (.Compare a [op] [b] pos) (tB (tO rd ta tb)) :=
  QT.of (pt_cmpR ho ha.pe hb.pe hm) fun σ H ev g Q Q' S w k => by
    refine two (f := compareOp op) (R := fun _ _ _ => True) (Q' := fun x H' => ∃ b, x = .bl b ∧ Q' b H') S w fun x H1 ⟨d, g1, st, R, r, b, e, q⟩ => ?_
    subst e; cases r
    exact ⟨b, rfl, k _ _ ⟨g1, st, R, q⟩⟩
/-- a op1 b op2 c -/
def tCh (r r' : RD2) (ta tb tc : TE') : TE' := fun e g Q => ta e g fun d1 g1 => tb e g1 fun d2 g2 => r d1 d2 g2 fun z g3 => ∃ k, z = .v (.bl k) ∧ (if k = true then tc e g3 fun d3 g4 => r' d2 d3 g4 Q else Q (.v (.bl false)) g3)
variable {c : Expr} {tc : TE'} {r' : RD2}
theorem chain {op op' : CmpOp} {σ : L2.St} {H : Hp} {e : Ev} {g : G} {Q : DK} {Q' : VK} (S : Sm Y.b σ H e g) (h : tCh rd r' ta tb tc e g Q) (k : ∀ x H', Pst Y.b H g Q x H' → Q' x H') :
    tChain (fun x y H Q' => ∃ d1 d2 g Q, RepG Y.X.K H g ∧ Rep Y.X.K H x d1 ∧ Rep Y.X.K H y d2 ∧ rd d1 d2 g Q ∧ ∀ z H', Pst Y.b H g Q z H' → Q' z H')
      (fun x y H Q' => ∃ d1 d2 g Q, RepG Y.X.K H g ∧ Rep Y.X.K H x d1 ∧ Rep Y.X.K H y d2 ∧ r' d1 d2 g Q ∧ ∀ z H', Pst Y.b H g Q z H' → Q' z H') (TQ Y.b ta) (TQ Y.b tb) (TQ Y.b tc) σ H Q' := by
  refine ⟨e, g, _, S, h, fun x H1 ⟨d1, g1, st1, R1, rx, q1⟩ => ?_⟩
  refine ⟨e, g1, _, S.next st1 R1, q1, fun y H2 ⟨d2, g2, st2, R2, ry, q2⟩ => ?_⟩
  refine ⟨d1, d2, g2, _, R2, rx.keep (st2.tu R1), ry, q2, fun z H3 ⟨d3, g3, st3, R3, rz, kb, ez, q3⟩ => ?_⟩
  subst ez; cases rz
  have s3 := (S.next st1 R1).next st2 R2 |>.next st3 R3
  have st13 := (st1.trans st2).trans st3
  refine ⟨kb, rfl, ?_⟩
  cases kb with
  | false => exact k _ _ ⟨_, g3, st13, R3, .v _, q3⟩
  | true => exact ⟨e, g3, _, s3, q3, fun w H4 ⟨d4, g4, st4, R4, rw', q4⟩ => ⟨d2, d4, g4, Q, R4, (ry.keep (st3.tu R2)).keep (st4.tu R3), rw', q4, fun u H5 p => k _ _ (p.step (st13.trans st4))⟩⟩
theorem q_chain {op op' : CmpOp} (ho : OpD Y (compareOp op) rd) (ho' : OpD Y (compareOp op') r') (ha : QE Y a ta) (hb : QE Y b tb) (hc : QE Y c tc)
    (hm : lastMarks [op, op'] [b, c] = false := by with_unfolding_all rfl) : QE Y (.Compare a [op, op'] [b, c] pos) (tCh rd r' ta tb tc) :=
  QE.of (pe_chain ho ho' ha.pe hb.pe hc.pe hm) fun σ H e g Q Q' S h k => chain (op := op) (op' := op') S h k
theorem qt_chain {op op' : CmpOp} (ho : OpD Y (compareOp op) rd) (ho' : OpD Y (compareOp op') r') (ha : QE Y a ta) (hb : QE Y b tb) (hc : QE Y c tc)
    (hm : lastMarks [op, op'] [b, c] = false := by with_unfolding_all rfl) : QT Y (.Compare a [op, op'] [b, c] pos) (tB (tCh rd r' ta tb tc)) :=
  QT.of (pt_chain ho ho' ha.pe hb.pe hc.pe hm) fun σ H ev g Q Q' S w k => by
    refine chain (op := op) (op' := op') (Q' := fun x H' => ∃ b, x = .bl b ∧ Q' b H') S w fun x H1 ⟨d, g1, st, R, r, b, e, q⟩ => ?_
    subst e; cases r
    exact ⟨b, rfl, k _ _ ⟨g1, st, R, q⟩⟩
end

/-! ### and, or, not, if -/
section
variable {Y : Yx} {a b c : Expr} {ta tb : TE'} {tA tB' : TB'} {pos : Pos} {rest : List Expr}
def uAnd (t u : TB') : TB' := fun e g Q => t e g fun c g1 => if c = true then u e g1 Q else Q false g1
def uOr (t u : TB') : TB' := fun e g Q => t e g fun c g1 => if c = true then Q true g1 else u e g1 Q
def uNot (t : TB') : TB' := fun e g Q => t e g fun c g1 => Q (!c) g1
theorem qw_and1 (ha : QT Y a tA) : QW Y (.BoolOp .And [a] pos) tA := ⟨pw_and1 ha.pt⟩
theorem qw_or1 (ha : QT Y a tA) : QW Y (.BoolOp .Or [a] pos) tA := ⟨pw_or1 ha.pt⟩
theorem qw_and (ha : QT Y a tA) (hb : QW Y (.BoolOp .And (b :: rest) pos) tB') : QW Y (.BoolOp .And (a :: b :: rest) pos) (uAnd tA tB') :=
  QW.of (pw_and ha.pt hb.pw) fun σ H e g Q Q' S w k => ⟨e, g, _, S, w, fun c H1 ⟨g1, st, R, q⟩ => by
    cases c with
    | true => exact ⟨e, g1, Q, S.next st R, q, fun x H' p => k x H' (p.step st)⟩
    | false => exact k _ _ ⟨g1, st, R, q⟩⟩
theorem qw_or (ha : QT Y a tA) (hb : QW Y (.BoolOp .Or (b :: rest) pos) tB') : QW Y (.BoolOp .Or (a :: b :: rest) pos) (uOr tA tB') :=
  QW.of (pw_or ha.pt hb.pw) fun σ H e g Q Q' S w k => ⟨e, g, _, S, w, fun c H1 ⟨g1, st, R, q⟩ => by
    cases c with
    | true => exact k _ _ ⟨g1, st, R, q⟩
    | false => exact ⟨e, g1, Q, S.next st R, q, fun x H' p => k x H' (p.step st)⟩⟩
theorem QW.qt (h : QW Y a tA) : QT Y a tA := ⟨h.pw.pt⟩
theorem q_not (ha : QT Y a tA) : QT Y (.UnaryOp .Not a pos) (uNot tA) :=
  QT.of (pt_not ha.pt) fun σ H e g Q Q' S w k => ⟨e, g, _, S, w, fun c H1 ⟨g1, st, R, q⟩ => k _ _ ⟨g1, st, R, q⟩⟩
/-- .. as values (bools) -/
def uAndV (ta tb : TE') : TE' := fun e g Q => ta e g fun x g1 => ∃ c, x = .v (.bl c) ∧ if c = true then tb e g1 Q else Q (.v (.bl false)) g1
def uOrV (ta tb : TE') : TE' := fun e g Q => ta e g fun x g1 => ∃ c, x = .v (.bl c) ∧ if c = true then Q (.v (.bl true)) g1 else tb e g1 Q
def uNotV (ta : TE') : TE' := fun e g Q => ta e g fun x g1 => ∃ c, x = .v (.bl c) ∧ Q (.v (.bl (!c))) g1
theorem qv_one {op} (h : QE Y a ta) : QE Y (.BoolOp op [a] pos) ta := ⟨pe_one h.pe⟩
theorem qv_and (ha : QE Y a ta) (hb : QE Y (.BoolOp .And (b :: rest) pos) tb) : QE Y (.BoolOp .And (a :: b :: rest) pos) (uAndV ta tb) :=
  QE.of (pe_and ha.pe hb.pe) fun σ H e g Q Q' S w k => ⟨e, g, _, S, w, fun x H1 ⟨d, g1, st, R, r, c, ec, q⟩ => by
    subst ec; cases r
    refine ⟨c, rfl, ?_⟩
    cases c with
    | true => exact ⟨e, g1, Q, S.next st R, q, fun x H' p => k x H' (p.step st)⟩
    | false => exact k _ _ ⟨_, g1, st, R, .v _, q⟩⟩
theorem qv_or (ha : QE Y a ta) (hb : QE Y (.BoolOp .Or (b :: rest) pos) tb) : QE Y (.BoolOp .Or (a :: b :: rest) pos) (uOrV ta tb) :=
  QE.of (pe_or ha.pe hb.pe) fun σ H e g Q Q' S w k => ⟨e, g, _, S, w, fun x H1 ⟨d, g1, st, R, r, c, ec, q⟩ => by
    subst ec; cases r
    refine ⟨c, rfl, ?_⟩
    cases c with
    | true => exact k _ _ ⟨_, g1, st, R, .v _, q⟩
    | false => exact ⟨e, g1, Q, S.next st R, q, fun x H' p => k x H' (p.step st)⟩⟩
theorem qv_not (ha : QE Y a ta) : QE Y (.UnaryOp .Not a pos) (uNotV ta) :=
  QE.of (pe_not ha.pe) fun σ H e g Q Q' S w k => ⟨e, g, _, S, w, fun x H1 ⟨d, g1, st, R, r, c, ec, q⟩ => by
    subst ec; cases r
    exact ⟨c, rfl, k _ _ ⟨_, g1, st, R, .v _, q⟩⟩⟩
def uIf (t : TB') (ta tb : TE') : TE' := fun e g Q => t e g fun c g1 => if c = true then ta e g1 Q else tb e g1 Q
theorem q_if (hc : QT Y c tA) (ha : QE Y a ta) (hb : QE Y b tb) : QE Y (.IfExp c a b pos) (uIf tA ta tb) :=
  QE.of (pe_ifExp hc.pt ha.pe hb.pe) fun σ H e g Q Q' S w k => ⟨e, g, _, S, w, fun c H1 ⟨g1, st, R, q⟩ => by
    cases c with
    | true => exact ⟨e, g1, Q, S.next st R, q, fun x H' p => k x H' (p.step st)⟩
    | false => exact ⟨e, g1, Q, S.next st R, q, fun x H' p => k x H' (p.step st)⟩⟩
end

/-! ### arithmetic, comparisons, by data -/
section
variable {Y : Yx} {pos : Pos}
/-- from a rule of the layer, for the data at which rd holds -/
theorem OpD.mk {f : Value → Value → Sem Value} {rd : RD2} (h : ∀ (pins : List (Addr × Obj)) (s : Shared) (σ : L2.St) (H : Hp) (x y : V) (v u : Value) (d1 d2 : D) (g : G) (Q : DK) (Q' : VK), Inv Y.X pins σ H s → RelV x v → RelV y u →
    RepG Y.X.K H g → Rep Y.X.K H x d1 → Rep Y.X.K H y d2 → rd d1 d2 g Q → (∀ z H', Pst Y.b H g Q z H' → Q' z H') → wpAny (model Y.X.prog Y.X.w) Y.X.A (f v u) (EP Y.X pins σ Q') Y.X.xe s) : OpD Y f rd :=
  fun pins s σ H x y v u Q' I rx ry ⟨d1, d2, g, Q, R, r1, r2, w, k⟩ => h pins s σ H x y v u d1 d2 g Q Q' I rx ry R r1 r2 w k
def cInt (C : Int → Int → Prop) (f : Int → Int → V) : RD2 := fun d e g Q => match d, e with
  | .v (.int i), .v (.int j) => C i j ∧ Q (.v (f i j)) g
  | _, _ => False
theorem d_int {f : Value → Value → Sem Value} {C : Int → Int → Prop} {h : Int → Int → V} (ho : OpR Y.X f (rI C h)) : OpD Y f (cInt C h) := OpD.mk fun pins s σ H x y v u d1 d2 g Q Q' I rx ry R r1 r2 w k => by
  match d1, d2, w with
  | .v (.int i), .v (.int j), w =>
    cases r1; cases r2
    exact ho pins s σ H _ _ v u Q' I rx ry ⟨i, j, rfl, rfl, w.1, k _ _ (.atom R w.2)⟩
theorem rI_of {X : Cx} {f : Value → Value → Sem Value} {h : Int → Int → V} (ho : OpR X f (rI0 h)) : OpR X f (rI (fun _ _ => True) h) :=
  fun pins s σ H x y v u Q I rx ry ⟨i, j, e1, e2, _, q⟩ => ho pins s σ H x y v u Q I rx ry ⟨i, j, e1, e2, q⟩
def kInt (f : Int → Int → V) : RD2 := fun d e g Q => match d, e with
  | .v (.int i), .v (.int j) => Q (.v (f i j)) g
  | _, _ => False
theorem d_int0 {f : Value → Value → Sem Value} {h : Int → Int → V} (ho : OpR Y.X f (rI0 h)) : OpD Y f (kInt h) := OpD.mk fun pins s σ H x y v u d1 d2 g Q Q' I rx ry R r1 r2 w k => by
  match d1, d2, w with
  | .v (.int i), .v (.int j), w =>
    cases r1; cases r2
    exact ho pins s σ H _ _ v u Q' I rx ry ⟨i, j, rfl, rfl, k _ _ (.atom R w)⟩
abbrev dSub : RD2 := kInt fun i j => .int (i - j)
theorem d_sub : OpD Y (binaryOp .Sub) dSub := d_int0 op_sub
abbrev dMod : RD2 := cInt (fun _ j => j ≠ 0) fun i j => .int (i.fmod j)
theorem d_mod : OpD Y (binaryOp .Mod) dMod := d_int op_modN
abbrev dFdiv : RD2 := cInt CDivN fun i j => .int (i.fdiv j)
theorem d_fdiv : OpD Y (binaryOp .FloorDiv) dFdiv := d_int op_fdivN
abbrev dPow : RD2 := cInt CPow fun i j => .int (i ^ j.toNat)
theorem d_pow : OpD Y (binaryOp .Pow) dPow := d_int op_pow
abbrev dLt : RD2 := kInt fun i j => .bl (decide (i < j))
abbrev dLe : RD2 := kInt fun i j => .bl (decide (i ≤ j))
abbrev dGt : RD2 := kInt fun i j => .bl (decide (j < i))
abbrev dGe : RD2 := kInt fun i j => .bl (decide (j ≤ i))
theorem d_lt : OpD Y (compareOp .Lt) dLt := d_int0 op_lt
theorem d_le : OpD Y (compareOp .LtE) dLe := d_int0 op_le
theorem d_gt : OpD Y (compareOp .Gt) dGt := d_int0 op_gt
theorem d_ge : OpD Y (compareOp .GtE) dGe := d_int0 op_ge
def nonD : D → Bool
  | .v .non => true
  | _ => false
theorem nonD_of {K : PySem.W.Frag} {H : Hp} {x : V} {d : D} (r : Rep K H x d) : decide (x = .non) = nonD d := by
  cases r with
  | v x => cases x <;> simp [nonD]
  | t h1 h2 => simp [nonD]
  | k h1 h2 => simp [nonD]
def dIs : RD2 := fun d e g Q => match e with
  | .v .non => Q (.v (.bl (nonD d))) g
  | _ => False
def dIsNot : RD2 := fun d e g Q => match e with
  | .v .non => Q (.v (.bl (!nonD d))) g
  | _ => False
theorem d_is : OpD Y (compareOp .Is) dIs := OpD.mk fun pins s σ H x y v u d1 d2 g Q Q' I rx ry R r1 r2 w k => by
  match d2, w with
  | .v .non, w =>
    cases r2
    exact op_isN pins s σ H _ _ v u Q' I rx ry ⟨rfl, by rw [nonD_of r1]; exact k _ _ (.atom R w)⟩
theorem d_isnot : OpD Y (compareOp .IsNot) dIsNot := OpD.mk fun pins s σ H x y v u d1 d2 g Q Q' I rx ry R r1 r2 w k => by
  match d2, w with
  | .v .non, w =>
    cases r2
    exact op_notN pins s σ H _ _ v u Q' I rx ry ⟨rfl, by rw [nonD_of r1]; exact k _ _ (.atom R w)⟩
/-- +: ints, texts, tuples, lists -/
def dAdd : RD2 := fun d e g Q => match d, e with
  | .v (.int i), .v (.int j) => Q (.v (.int (i + j))) g
  | .v (.str i), .v (.str j) => i.length + j.length ≤ sizeLine ∧ Q (.v (.str (i ++ j))) g
  | .t xs, .t ys => xs.length + ys.length ≤ sizeLine ∧ Q (.t (xs ++ ys)) g
  | .v (.ref a), .v (.ref b) => ∃ xs ys, g.o a = some (.lst xs) ∧ g.o b = some (.lst ys) ∧ xs.length + ys.length ≤ sizeLine ∧ ∀ p, g.new p → Q (.v (.ref p)) (g.put p (.lst (xs ++ ys)))
  | _, _ => False
theorem d_add : OpD Y (binaryOp .Add) dAdd := OpD.mk fun pins s σ H x y v u d1 d2 g Q Q' I rx ry R r1 r2 w k => by
  match d1, d2, w with
  | .v (.int i), .v (.int j), w =>
    cases r1; cases r2
    exact op_add pins s σ H _ _ v u Q' I rx ry ⟨i, j, rfl, rfl, k _ _ (.atom R w)⟩
  | .v (.str i), .v (.str j), w =>
    cases r1; cases r2
    exact op_add_str pins s σ H _ _ v u Q' I rx ry ⟨i, j, rfl, rfl, w.1, k _ _ (.atom R w.2)⟩
  | .t ds, .t es, w =>
    cases r1 with
    | @t a xs _ h1 l1 =>
      cases r2 with
      | @t b ys _ h2 l2 =>
        refine op_catP pins s σ H _ _ v u Q' I rx ry ⟨a, b, xs, ys, rfl, rfl, h1.sq, h2.sq, by rw [l1.length, l2.length]; exact w.1, fun e => ?_, fun _ e => ?_, fun _ _ p o ho hp => k _ _ (.tup R ho hp (l1.append l2) w.2)⟩
        · subst e
          cases ds with
          | nil => exact k _ _ (.here R (.t h2 l2) w.2)
          | cons d ds => cases l1
        · subst e
          cases es with
          | nil => exact k _ _ (.here R (.t h1 l1) (by have := w.2; rw [List.append_nil] at this; exact this))
          | cons d ds => cases l2
  | .v (.ref a), .v (.ref b), w =>
    cases r1; cases r2
    obtain ⟨xs, ys, e1, e2, hz, q⟩ := w
    obtain ⟨xs', h1, l1⟩ := R.obj a _ e1
    obtain ⟨ys', h2, l2⟩ := R.obj b _ e2
    exact op_cat pins s σ H _ _ v u Q' I rx ry ⟨a, b, xs', ys', rfl, rfl, h1, h2, by rw [l1.length, l2.length]; exact hz, fun p hp => k _ _ (.lst R hp (l1.append l2) (q p))⟩
/-- *: ints (one of them small), tuple or list by an int -/
def dMul : RD2 := fun d e g Q => match d, e with
  | .v (.int i), .v (.int j) => CMul i j ∧ Q (.v (.int (i * j))) g
  | .t xs, .v (.int k) => -(2 ^ 63) ≤ k ∧ k ≤ 1000 ∧ xs.length ≤ 1000 ∧ Q (.t (List.replicate k.toNat xs).flatten) g
  | .v (.ref a), .v (.int k) => ∃ xs, g.o a = some (.lst xs) ∧ -(2 ^ 63) ≤ k ∧ k < 2 ^ 63 ∧ xs.length * k.toNat ≤ sizeLine ∧ ∀ p, g.new p → Q (.v (.ref p)) (g.put p (.lst (List.replicate k.toNat xs).flatten))
  | _, _ => False
theorem d_mul : OpD Y (binaryOp .Mult) dMul := OpD.mk fun pins s σ H x y v u d1 d2 g Q Q' I rx ry R r1 r2 w k => by
  match d1, d2, w with
  | .v (.int i), .v (.int j), w =>
    cases r1; cases r2
    exact op_mul pins s σ H _ _ v u Q' I rx ry ⟨i, j, rfl, rfl, w.1, k _ _ (.atom R w.2)⟩
  | .t ds, .v (.int m), w =>
    cases r2
    cases r1 with
    | @t a xs _ h1 l1 =>
      obtain ⟨w2, w3, w4, q⟩ := w
      refine op_repP pins s σ H _ _ v u Q' I rx ry ⟨a, m, xs, rfl, rfl, h1.sq, w2, w3, by rw [l1.length]; exact w4, fun e => ?_, fun _ _ p o ho hp => k _ _ (.tup R ho hp (l1.rep _) q)⟩
      refine k _ _ (.here R (.t h1 l1) ?_)
      rcases e with e | e
      · subst e
        cases ds with
        | nil => simpa using q
        | cons d ds => cases l1
      · subst e
        simpa using q
  | .v (.ref a), .v (.int m), w =>
    cases r1; cases r2
    obtain ⟨xs, e1, b1, b2, hz, q⟩ := w
    obtain ⟨xs', h1, l1⟩ := R.obj a _ e1
    exact op_rep pins s σ H _ _ v u Q' I rx ry ⟨a, m, xs', rfl, rfl, h1, b1, b2, by rw [l1.length]; exact hz, fun p hp => k _ _ (.lst R hp (l1.rep _) (q p))⟩
theorem q_neg {a : Expr} {ta : TE'} (ha : QE Y a ta) : QE Y (.UnaryOp .USub a pos) (fun e g Q => ta e g fun d g1 => ∃ i, d = .v (.int i) ∧ Q (.v (.int (-i))) g1) :=
  QE.of (pe_un un_neg ha.pe) fun σ H e g Q Q' S w k => ⟨e, g, _, S, w, fun x H1 ⟨d, g1, st, R, r, i, ei, q⟩ => by
    subst ei; cases r
    exact ⟨i, rfl, k _ _ ⟨_, g1, st, R, .v _, q⟩⟩⟩
end

/-! ### == by data at any depth -/
mutual
/-- data under a value; k: tuples that key dicts may stand in it -/
inductive PX (k : Bool) (g : G) : D → PyData → Prop
  | non : PX k g (.v .non) .none
  | bl (b : Bool) : PX k g (.v (.bl b)) (.bool b)
  | int (i : Int) : PX k g (.v (.int i)) (.int i)
  | str (x : Str) : PX k g (.v (.str x)) (.str x)
  | tup {ds : List D} {ps : List PyData} : PXL k g ds ps → PX k g (.t ds) (.tuple ps)
  | kup {ds : List D} {ps : List PyData} : k = true → PXL k g ds ps → PX k g (.k ds) (.tuple ps)
  | lst {a : Addr} {ds : List D} {ps : List PyData} : g.o a = some (.lst ds) → PXL k g ds ps → PX k g (.v (.ref a)) (.list ps)
inductive PXL (k : Bool) (g : G) : List D → List PyData → Prop
  | nil : PXL k g [] []
  | cons {d : D} {ds : List D} {p : PyData} {ps : List PyData} : PX k g d p → PXL k g ds ps → PXL k g (d :: ds) (p :: ps)
end
abbrev PD (g : G) := PX true g
abbrev PDL (g : G) := PXL true g
abbrev PF (g : G) := PX false g
abbrev PFL (g : G) := PXL false g
mutual
theorem PX.up {k : Bool} {g : G} : ∀ {d : D} (p : PyData), PX k g d p → PD g d p
  | _, .none, h => by cases h; exact .non
  | _, .bool b, h => by cases h; exact .bl b
  | _, .int i, h => by cases h; exact .int i
  | _, .str i, h => by cases h; exact .str i
  | _, .tuple ps, h => by
    cases h with
    | tup hl => exact .tup (PXL.up ps hl)
    | kup _ hl => exact .kup rfl (PXL.up ps hl)
  | _, .list ps, h => by
    cases h with
    | lst e hl => exact .lst e (PXL.up ps hl)
  | _, .dict _, h => by cases h
theorem PXL.up {k : Bool} {g : G} : ∀ {ds : List D} (ps : List PyData), PXL k g ds ps → PDL g ds ps
  | _, [], h => by cases h; exact .nil
  | _, p :: ps, h => by
    cases h with
    | cons h1 h2 => exact .cons (PX.up p h1) (PXL.up ps h2)
end
mutual
theorem PX.leo {k : Bool} {g g' : G} (l : ∀ b m, g.o b = some m → g'.o b = some m) : ∀ {d : D} (p : PyData), PX k g d p → PX k g' d p
  | _, .none, h => by cases h; exact .non
  | _, .bool b, h => by cases h; exact .bl b
  | _, .int i, h => by cases h; exact .int i
  | _, .str i, h => by cases h; exact .str i
  | _, .tuple ps, h => by
    cases h with
    | tup hl => exact .tup (PXL.leo l ps hl)
    | kup e hl => exact .kup e (PXL.leo l ps hl)
  | _, .list ps, h => by
    cases h with
    | lst e hl => exact .lst (l _ _ e) (PXL.leo l ps hl)
  | _, .dict _, h => by cases h
theorem PXL.leo {k : Bool} {g g' : G} (l : ∀ b m, g.o b = some m → g'.o b = some m) : ∀ {ds : List D} (ps : List PyData), PXL k g ds ps → PXL k g' ds ps
  | _, [], h => by cases h; exact .nil
  | _, p :: ps, h => by
    cases h with
    | cons h1 h2 => exact .cons (PX.leo l p h1) (PXL.leo l ps h2)
end
theorem PX.le {k : Bool} {g g' : G} (l : Le g g') {d : D} (p : PyData) (h : PX k g d p) : PX k g' d p := PX.leo l.o p h
theorem PXL.le {k : Bool} {g g' : G} (l : Le g g') {ds : List D} (ps : List PyData) (h : PXL k g ds ps) : PXL k g' ds ps := PXL.leo l.o ps h
mutual
theorem PX.dp {k : Bool} {K : PySem.W.Frag} {H : Hp} {g : G} (R : RepG K H g) : ∀ {x : V} {d : D} (p : PyData), Rep K H x d → PX k g d p → Dp K H x p
  | _, _, .none, r, h => by cases h; cases r; exact .non
  | _, _, .bool b, r, h => by cases h; cases r; exact .bl b
  | _, _, .int i, r, h => by cases h; cases r; exact .int i
  | _, _, .str i, r, h => by cases h; cases r; exact .str i
  | _, _, .tuple ps, r, h => by
    cases h with
    | tup hl =>
      cases r with
      | t h1 l1 => exact .tup h1.sq (PXL.dp R ps l1 hl)
    | kup _ hl =>
      cases r with
      | k h1 l1 => exact .tup (SqT.of h1) (PXL.dp R ps l1 hl)
  | _, _, .list ps, r, h => by
    cases h with
    | lst e hl =>
      cases r
      obtain ⟨xs, h1, l1⟩ := R.obj _ _ e
      exact .lst (SqL.of h1) (PXL.dp R ps l1 hl)
  | _, _, .dict _, _, h => by cases h
theorem PXL.dp {k : Bool} {K : PySem.W.Frag} {H : Hp} {g : G} (R : RepG K H g) : ∀ {xs : List V} {ds : List D} (ps : List PyData), RepL K H xs ds → PXL k g ds ps → DpAll K H xs ps
  | _, _, [], r, h => by cases h; cases r; exact .nil
  | _, _, p :: ps, r, h => by
    cases h with
    | cons h1 h2 =>
      cases r with
      | cons r1 r2 => exact .cons (PX.dp R p r1 h1) (PXL.dp R ps r2 h2)
end
def eqTail (neg : Bool) (d e : D) (g : G) (Q : DK) : Prop := ∃ p q, PD g d p ∧ PD g e q ∧ SeqAt.shaped p = true ∧ SeqAt.shaped q = true ∧ Q (.v (.bl (neg ^^ PyData.eqv p q))) g
def dEq (neg : Bool) : RD2 := fun d e g Q => match d, e with
  | .v (.int i), .v (.int j) => Q (.v (.bl (neg ^^ decide (i = j)))) g
  | .v (.str i), .v (.str j) => Q (.v (.bl (neg ^^ decide (i = j)))) g
  | d, e => eqTail neg d e g Q
section
variable {Y : Yx}
theorem dEq_cases {neg : Bool} {d e : D} {g : G} {Q : DK} (h : dEq neg d e g Q) : (∃ i j, d = .v (.int i) ∧ e = .v (.int j) ∧ Q (.v (.bl (neg ^^ decide (i = j)))) g) ∨ (∃ i j, d = .v (.str i) ∧ e = .v (.str j) ∧ Q (.v (.bl (neg ^^ decide (i = j)))) g) ∨ eqTail neg d e g Q := by
  unfold dEq at h
  split at h
  · exact .inl ⟨_, _, rfl, rfl, h⟩
  · exact .inr (.inl ⟨_, _, rfl, rfl, h⟩)
  · exact .inr (.inr h)
theorem d_eq (hu : Y.X.A.units + 64 < cLine) : OpD Y (compareOp .Eq) (dEq false) := OpD.mk fun pins s σ H x y v u d1 d2 g Q Q' I rx ry R r1 r2 w k => by
  rcases dEq_cases w with ⟨i, j, e1, e2, q⟩ | ⟨i, j, e1, e2, q⟩ | ⟨p, p', h1, h2, s1, s2, q⟩
  · subst e1 e2; cases r1; cases r2
    refine op_eq pins s σ H _ _ v u Q' I rx ry ⟨rfl, ?_⟩
    exact k _ _ (.atom R (by simpa using q))
  · subst e1 e2; cases r1; cases r2
    refine op_eq pins s σ H _ _ v u Q' I rx ry ⟨rfl, ?_⟩
    exact k _ _ (.atom R (by simpa using q))
  · exact op_eqD hu pins s σ H _ _ v u Q' I rx ry ⟨p, p', PX.dp R p r1 h1, PX.dp R p' r2 h2, s1, s2, k _ _ (.atom R (by simpa using q))⟩
theorem d_ne (hu : Y.X.A.units + 64 < cLine) : OpD Y (compareOp .NotEq) (dEq true) := OpD.mk fun pins s σ H x y v u d1 d2 g Q Q' I rx ry R r1 r2 w k => by
  rcases dEq_cases w with ⟨i, j, e1, e2, q⟩ | ⟨i, j, e1, e2, q⟩ | ⟨p, p', h1, h2, s1, s2, q⟩
  · subst e1 e2; cases r1; cases r2
    refine op_ne pins s σ H _ _ v u Q' I rx ry ⟨rfl, ?_⟩
    exact k _ _ (.atom R (by simpa using q))
  · subst e1 e2; cases r1; cases r2
    refine op_ne pins s σ H _ _ v u Q' I rx ry ⟨rfl, ?_⟩
    exact k _ _ (.atom R (by simpa using q))
  · exact op_neD hu pins s σ H _ _ v u Q' I rx ry ⟨p, p', PX.dp R p r1 h1, PX.dp R p' r2 h2, s1, s2, k _ _ (.atom R (by simpa using q))⟩
end
end SK
end
section
set_option maxHeartbeats 4000000
namespace SK
open PySem PySem.Spec PyProof.Rows L2

/-! ### lists of expressions, with stars -/
/-- the items of a tuple, a list -/
def items (g : G) : D → Option (List D)
  | .t ds => some ds
  | .k ds => some ds
  | .v (.ref a) => match g.o a with
    | some (.lst ds) => some ds
    | _ => none
  | _ => none
theorem items_rep {K : PySem.W.Frag} {H : Hp} {g : G} (R : RepG K H g) {x : V} {d : D} {ds : List D} (r : Rep K H x d) (h : items g d = some ds) : ∃ a xs, x = .ref a ∧ (SqL K H a xs ∨ SqT K H a xs) ∧ RepL K H xs ds := by
  cases r with
  | v x =>
    cases x with
    | ref a =>
      have h' : (match g.o a with
        | some (.lst ds) => some ds
        | _ => none) = some ds := h
      cases q : g.o a with
      | none => rw [q] at h'; cases h'
      | some m =>
        rw [q] at h'
        cases m with
        | lst es =>
          cases h'
          obtain ⟨xs, h1, l1⟩ := R.obj a _ q
          exact ⟨a, xs, rfl, .inl (SqL.of h1), l1⟩
        | _ => cases h'
    | _ => cases h
  | t h1 l1 => cases h; exact ⟨_, _, rfl, .inr h1.sq, l1⟩
  | k h1 l1 => cases h; exact ⟨_, _, rfl, .inr (SqT.of h1), l1⟩
theorem pa_star {X : Cx} {e : Expr} {es : List Expr} {te : TE} {t : TA} {p : Pos} (ha : PE X e te) (hr : PA X es t) (hs : starEach (.Starred e p :: es) X.env = (true, eval e X.env) :: starEach es X.env := by rfl) :
    PA X (.Starred e p :: es) (fun σ H Q => te σ H fun x H1 => ∃ a xs, x = .ref a ∧ (SqL X.K H1 a xs ∨ SqT X.K H1 a xs) ∧ t σ H1 fun ys H2 => Q (xs ++ ys) H2) := by
  refine ⟨fun pos pins s σ H Q I h => ?_⟩
  refine PySem.W.items_star (thn (ha.run pins s σ H _ I h) fun v s1 ⟨x, H1, I1, r1, a, xs, ex, hx, q1⟩ => ?_) hs
  subst ex; cases r1
  have fin : ∀ {T : String} {o : Obj} {its : List Value} {n : Nat}, (T = "list" ∨ T = "tuple") → s1.heap.get? a = some o → o.cls = .type T → o.data = .seq its.toArray n → Vals xs its → its.length ≤ sizeLine →
      PySem.W.StarOf (model X.prog X.w) X.A X.xe (.ref a) (fun here s₂ => wpAny (model X.prog X.w) X.A (spliced (backTo pos (starEach es X.env))) (fun vs s₃ => AP X pins σ Q (here ++ vs) s₃) X.xe s₂) s1 := by
    intro T o its n hT ho hc hd rv hz
    have z : wpAny (model X.prog X.w) X.A (collect (.ref a)) (fun here s₂ => wpAny (model X.prog X.w) X.A (spliced (backTo pos (starEach es X.env))) (fun vs s₃ => AP X pins σ Q (here ++ vs) s₃) X.xe s₂) X.xe s1 := by
      refine wpAny_collect_seq a hT ho hc hd (fun h' hk => ?_) (by simpa using hz)
      have I2 : Inv X pins σ H1 { s1 with heap := h' } := I1.kept (t' := s1.toks) hk
      exact thn (hr.run pos pins _ σ H1 _ I2 q1) fun us s2 ⟨ys, H2, I3, r2, q2⟩ => ⟨xs ++ ys, H2, I3, by simpa using rv.append r2, q2⟩
    have hT' : s1.TypeIs (.ref a) T := ⟨o, ho, hc⟩
    unfold PySem.W.StarOf notIterableAtAll
    rcases hT with rfl | rfl
    · exact wpAny_bind (wpAny_specialOf hT' PySem.F.slot_list_iter.lookup (wpAny_pure ⟨rfl, z⟩))
    · exact wpAny_bind (wpAny_specialOf hT' PySem.F.slot_tuple_iter.lookup (wpAny_pure ⟨rfl, z⟩))
  rcases hx with hx | hx
  · obtain ⟨its, rv, ⟨o, n, ho, hc, _, hd⟩, hz⟩ := I1.list hx
    exact fin (.inl rfl) ho hc hd rv (by rw [← rv.length]; exact hz)
  · obtain ⟨its, rv, ⟨o, ho, hc, n, hd⟩, hz⟩ := I1.tuple hx
    exact fin (.inr rfl) ho hc hd rv (by rw [← rv.length]; exact hz)
def uNil : TL' := fun _ g Q => Q [] g
def uCons (ta : TE') (tr : TL') : TL' := fun e g Q => ta e g fun x g1 => tr e g1 fun xs g2 => Q (x :: xs) g2
def uStar (ta : TE') (tr : TL') : TL' := fun e g Q => ta e g fun x g1 => ∃ xs, items g1 x = some xs ∧ tr e g1 fun ys g2 => Q (xs ++ ys) g2
section
variable {Y : Yx} {a e : Expr} {es : List Expr} {ta : TE'} {t : TL'} {pos : Pos}
theorem qa_nil : QA Y [] uNil := QA.of pa_nil fun σ H ev g Q Q' S w k => k _ _ (.here S.rg .nil w)
theorem qa_cons (ha : QE Y e ta) (hr : QA Y es t) (hs : starEach (e :: es) Y.X.env = (false, eval e Y.X.env) :: starEach es Y.X.env := by rfl) : QA Y (e :: es) (uCons ta t) :=
  QA.of (pa_cons ha.pe hr.pa hs) fun σ H ev g Q Q' S w k => ⟨ev, g, _, S, w, fun x H1 ⟨d, g1, st, R, r, q⟩ =>
    ⟨ev, g1, _, S.next st R, q, fun xs H2 ⟨ds, g2, st2, R2, r2, q2⟩ => k _ _ ⟨d :: ds, g2, st.trans st2, R2, .cons (r.keep (st2.tu R)) r2, q2⟩⟩⟩
theorem qa_star {p : Pos} (ha : QE Y e ta) (hr : QA Y es t) (hs : starEach (.Starred e p :: es) Y.X.env = (true, eval e Y.X.env) :: starEach es Y.X.env := by rfl) : QA Y (.Starred e p :: es) (uStar ta t) :=
  QA.of (pa_star ha.pe hr.pa hs) fun σ H ev g Q Q' S w k => ⟨ev, g, _, S, w, fun x H1 ⟨d, g1, st, R, r, ds, hi, q⟩ => by
    obtain ⟨a, xs, rfl, hx, l⟩ := items_rep R r hi
    exact ⟨a, xs, rfl, hx, ev, g1, _, S.next st R, q, fun ys H2 ⟨es', g2, st2, R2, r2, q2⟩ => k _ _ ⟨ds ++ es', g2, st.trans st2, R2, (l.keep (st2.tu R)).append r2, q2⟩⟩⟩
def uTup (t : TL') : TE' := fun e g Q => t e g fun ds g1 => ds.length ≤ sizeLine ∧ Q (.t ds) g1
theorem q_tup {x1} (h : QA Y es t) : QE Y (.Tuple es x1 pos) (uTup t) :=
  QE.of (pe_tupP h.pa) fun σ H ev g Q Q' S w k => ⟨ev, g, _, S, w, fun xs H1 ⟨ds, g1, st, R, r, z, q⟩ => ⟨by rw [r.length]; exact z, fun p o ho hp => k _ _ (.step st (.tup R ho hp r q))⟩⟩
/-- a tuple that is to key a dict -/
def uTupK (t : TL') : TE' := fun e g Q => t e g fun ds g1 => ds.length ≤ sizeLine ∧ Q (.k ds) g1
theorem q_tupK {x1} (h : QA Y es t) : QE Y (.Tuple es x1 pos) (uTupK t) :=
  QE.of (pe_tup h.pa) fun σ H ev g Q Q' S w k => ⟨ev, g, _, S, w, fun xs H1 ⟨ds, g1, st, R, r, z, q⟩ => ⟨by rw [r.length]; exact z, fun p hp => k _ _ (.step st (.kup R hp r q))⟩⟩
def uLst (t : TL') : TL' := fun e g Q => t e g fun ds g1 => ds.length ≤ sizeLine ∧ Q ds g1
theorem q_lst (h : QA Y es t) : QF Y (.List es pos) (uLst t) :=
  QF.of (pe_lst h.pa) fun σ H ev g Q Q' S w k => ⟨ev, g, _, S, w, fun xs H1 ⟨ds, g1, st, R, r, z, q⟩ => ⟨by rw [r.length]; exact z, fun p hp =>
    k p xs _ ds g1 (st.trans (Step.fresh hp)) (R.fresh hp) (r.keep ((Step.fresh (g := g1) hp).tu R)) upd_same (R.new_of hp) (st.there p hp) q⟩⟩
end

/-! ### built-in calls -/
abbrev RDL := List D → G → DK → Prop
def CallD (Y : Yx) (f : Value) (rd : RDL) : Prop :=
  CallR Y.X f (fun xs H Q' => ∃ ds g Q, RepG Y.X.K H g ∧ RepL Y.X.K H xs ds ∧ rd ds g Q ∧ ∀ z H', Pst Y.b H g Q z H' → Q' z H')
def uCall (rd : RDL) (t : TL') : TE' := fun e g Q => t e g fun ds g1 => rd ds g1 Q
section
variable {Y : Yx} {e : Expr} {es : List Expr} {t : TL'} {pos p : Pos} {x : Str} {id T : String} {rd : RDL}
theorem CallD.mk {f : Value} {rd : RDL} (h : ∀ (pins : List (Addr × Obj)) (s : Shared) (σ : L2.St) (H : Hp) (xs : List V) (us : List Value) (ds : List D) (g : G) (Q : DK) (Q' : VK), Inv Y.X pins σ H s → Vals xs us →
    RepG Y.X.K H g → RepL Y.X.K H xs ds → rd ds g Q → (∀ z H', Pst Y.b H g Q z H' → Q' z H') → wpAny (model Y.X.prog Y.X.w) Y.X.A (call f us) (EP Y.X pins σ Q') Y.X.xe s) : CallD Y f rd :=
  fun pins s σ H xs us Q' I r ⟨ds, g, Q, R, l, w, k⟩ => h pins s σ H xs us ds g Q Q' I r R l w k
theorem one {T : TA} {Q : DK} {Q' : VK} {σ : L2.St} {H : Hp} {ev : Ev} {g : G} (S : Sm Y.b σ H ev g) (w : uCall rd t ev g Q) (k : ∀ z H', Pst Y.b H g Q z H' → Q' z H') :
    TTL Y.b t σ H fun xs H1 => ∃ ds g Q, RepG Y.X.K H1 g ∧ RepL Y.X.K H1 xs ds ∧ rd ds g Q ∧ ∀ z H', Pst Y.b H1 g Q z H' → Q' z H' :=
  ⟨ev, g, _, S, w, fun xs H1 ⟨ds, g1, st, R, r, q⟩ => ⟨ds, g1, Q, R, r, q, fun z H' p => k z H' (p.step st)⟩⟩
theorem q_callB (hc : CallD Y (.builtin id) rd) (hg : Gl Y.X x) (hm : Y.X.mg x = none) (hv : bootBuiltins x = some (.builtin id)) (ha : QA Y (e :: es) t) (hn : x ≠ "__name__" := by decide) (hdb : (x == ("__debug__" : Str)) = false := by decide)
    (he : starEach (e :: es) Y.X.env = (false, eval e Y.X.env) :: starEach es Y.X.env := by rfl) (hpl : (backTo pos (starEach es Y.X.env)).any (·.1) = false := by rfl) : QE Y (.Call (.Name x p) (e :: es) [] pos) (uCall rd t) :=
  QE.of (pe_callB hc hg hm hv ha.pa hn hdb he hpl) fun σ H ev g Q Q' S w k => one (T := fun _ _ _ => True) S w k
theorem q_callTy (hc : CallD Y (.type T) rd) (hg : Gl Y.X x) (hm : Y.X.mg x = none) (hv : bootBuiltins x = some (.type T)) (ha : QA Y (e :: es) t) (hn : x ≠ "__name__" := by decide) (hdb : (x == ("__debug__" : Str)) = false := by decide)
    (he : starEach (e :: es) Y.X.env = (false, eval e Y.X.env) :: starEach es Y.X.env := by rfl) (hpl : (backTo pos (starEach es Y.X.env)).any (·.1) = false := by rfl) : QE Y (.Call (.Name x p) (e :: es) [] pos) (uCall rd t) :=
  QE.of (pe_callTy hc hg hm hv ha.pa hn hdb he hpl) fun σ H ev g Q Q' S w k => one (T := fun _ _ _ => True) S w k
/-- what a call does with one list -/
abbrev RL1 := List D → (D → Prop) → Prop
def dL1 (rl : RL1) : RDL := fun xs g Q => match xs with
  | [d] => ∃ ds, (∃ a, d = .v (.ref a) ∧ g.o a = some (.lst ds)) ∧ rl ds fun d => Q d g
  | _ => False
/-- .. with a fresh one, that is gone behind it -/
def uF1 (rl : RL1) (tl : TL') : TE' := fun e g Q => tl e g fun ds g1 => rl ds fun d => Q d g1
abbrev Mono1 (rl : RL1) : Prop := ∀ ds (Q Q' : D → Prop), (∀ d, Q d → Q' d) → rl ds Q → rl ds Q'
theorem fresh1 {rl : RL1} {tl : TL'} (hm : Mono1 rl) {σ : L2.St} {H : Hp} {ev : Ev} {g : G} {Q : DK} {Q' : VK} (S : Sm Y.b σ H ev g) (w : uF1 rl tl ev g Q) (k : ∀ z H', Pst Y.b H g Q z H' → Q' z H') :
    tCB (fun xs H Q' => ∃ ds g Q, RepG Y.X.K H g ∧ RepL Y.X.K H xs ds ∧ dL1 rl ds g Q ∧ ∀ z H', Pst Y.b H g Q z H' → Q' z H') (tCons (TQF Y.b tl) tNil) σ H Q' :=
  ⟨ev, g, _, S, w, fun p xs H' ds g' st R l hp nw h0 q => ⟨[.v (.ref p)], g'.put p (.lst ds), fun d g2 => g2 = g'.put p (.lst ds) ∧ Q d g', R.track (m := .lst ds) nw ⟨xs, hp, l⟩, .cons (.v _) .nil,
    ⟨ds, ⟨p, rfl, G.put_same⟩, hm _ _ _ (fun d qd => ⟨rfl, qd⟩) q⟩, fun z H2 ⟨d, g2, st2, R2, r, e, qd⟩ => k _ _ ⟨d, g', by
      subst e
      exact (st.track h0).trans (st2.le (Le.put nw)), R2.le (e ▸ Le.put nw), r, qd⟩⟩⟩
theorem q_callBF {rl : RL1} (hc : CallD Y (.builtin id) (dL1 rl)) (hm1 : Mono1 rl) {tl : TL'} (hg : Gl Y.X x) (hm : Y.X.mg x = none) (hv : bootBuiltins x = some (.builtin id)) (he : QF Y e tl) (hn : x ≠ "__name__" := by decide) (hdb : (x == ("__debug__" : Str)) = false := by decide)
    (hs : starEach [e] Y.X.env = (false, eval e Y.X.env) :: starEach [] Y.X.env := by rfl) (hpl : (backTo pos (starEach [] Y.X.env)).any (·.1) = false := by rfl) : QE Y (.Call (.Name x p) [e] [] pos) (uF1 rl tl) :=
  QE.of (pe_callB hc hg hm hv (pa_cons he.pe pa_nil hs) hn hdb hs hpl) fun σ H ev g Q Q' S w k => fresh1 hm1 S w k
theorem q_callTyF {rl : RL1} (hc : CallD Y (.type T) (dL1 rl)) (hm1 : Mono1 rl) {tl : TL'} (hg : Gl Y.X x) (hm : Y.X.mg x = none) (hv : bootBuiltins x = some (.type T)) (he : QF Y e tl) (hn : x ≠ "__name__" := by decide) (hdb : (x == ("__debug__" : Str)) = false := by decide)
    (hs : starEach [e] Y.X.env = (false, eval e Y.X.env) :: starEach [] Y.X.env := by rfl) (hpl : (backTo pos (starEach [] Y.X.env)).any (·.1) = false := by rfl) : QE Y (.Call (.Name x p) [e] [] pos) (uF1 rl tl) :=
  QE.of (pe_callTy hc hg hm hv (pa_cons he.pe pa_nil hs) hn hdb hs hpl) fun σ H ev g Q Q' S w k => fresh1 hm1 S w k

/-! all, any, sum, tuple, len of a list -/
def rAllL (f : List Bool → Bool) : RL1 := fun ds Q => ∃ bs : List Bool, ds = bs.map (fun b => D.v (.bl b)) ∧ Q (.v (.bl (f bs)))
theorem bools_of {K : PySem.W.Frag} {H : Hp} {xs : List V} {bs : List Bool} (l : RepL K H xs (bs.map (fun b => D.v (.bl b)))) : xs = bs.map V.bl := by
  have e : bs.map (fun b => D.v (.bl b)) = (bs.map V.bl).map D.v := by rw [List.map_map]; rfl
  rw [e] at l
  exact l.of_atoms
theorem ints_of {K : PySem.W.Frag} {H : Hp} {xs : List V} {bs : List Int} (l : RepL K H xs (bs.map (fun b => D.v (.int b)))) : xs = bs.map V.int := by
  have e : bs.map (fun b => D.v (.int b)) = (bs.map V.int).map D.v := by rw [List.map_map]; rfl
  rw [e] at l
  exact l.of_atoms
theorem c_all (hc : Y.X.calm = true) : CallD Y (.builtin "all") (dL1 (rAllL fun bs => bs.all fun b => b)) := CallD.mk fun pins s σ H xs us ds g Q Q' I r R l w k => by
  match ds, l, w with
  | [d], .cons r1 .nil, ⟨es, ⟨a, ea, ga⟩, bs, eb, q⟩ =>
    subst ea eb; cases r1
    obtain ⟨ys, h1, l1⟩ := R.obj a _ ga
    rw [bools_of l1] at h1
    exact cr_all hc pins s σ H _ us Q' I r ⟨a, bs, rfl, SqL.of h1, k _ _ (.atom R q)⟩
theorem c_any (hc : Y.X.calm = true) : CallD Y (.builtin "any") (dL1 (rAllL fun bs => bs.any fun b => b)) := CallD.mk fun pins s σ H xs us ds g Q Q' I r R l w k => by
  match ds, l, w with
  | [d], .cons r1 .nil, ⟨es, ⟨a, ea, ga⟩, bs, eb, q⟩ =>
    subst ea eb; cases r1
    obtain ⟨ys, h1, l1⟩ := R.obj a _ ga
    rw [bools_of l1] at h1
    exact cr_any hc pins s σ H _ us Q' I r ⟨a, bs, rfl, SqL.of h1, k _ _ (.atom R q)⟩
theorem mono_all {f : List Bool → Bool} : Mono1 (rAllL f) := fun ds Q Q' h ⟨bs, e, q⟩ => ⟨bs, e, h _ q⟩
def rSumL : RL1 := fun ds Q => ∃ ns : List Int, ds = ns.map (fun b => D.v (.int b)) ∧ Q (.v (.int ns.sum))
theorem mono_sum : Mono1 rSumL := fun ds Q Q' h ⟨bs, e, q⟩ => ⟨bs, e, h _ q⟩
theorem c_sum (hc : Y.X.calm = true) : CallD Y (.builtin "sum") (dL1 rSumL) := CallD.mk fun pins s σ H xs us ds g Q Q' I r R l w k => by
  match ds, l, w with
  | [d], .cons r1 .nil, ⟨es, ⟨a, ea, ga⟩, ns, eb, q⟩ =>
    subst ea eb; cases r1
    obtain ⟨ys, h1, l1⟩ := R.obj a _ ga
    rw [ints_of l1] at h1
    exact cr_sum hc pins s σ H _ us Q' I r ⟨a, ns, rfl, SqL.of h1, k _ _ (.atom R q)⟩
def rTupL : RL1 := fun ds Q => Q (.t ds)
theorem mono_tup : Mono1 rTupL := fun ds Q Q' h q => h _ q
theorem c_tupF : CallD Y (.type "tuple") (dL1 rTupL) := CallD.mk fun pins s σ H xs us ds g Q Q' I r R l w k => by
  match ds, l, w with
  | [d], .cons r1 .nil, ⟨es, ⟨a, ea, ga⟩, q⟩ =>
    subst ea; cases r1
    obtain ⟨ys, h1, l1⟩ := R.obj a _ ga
    exact call_tupP pins s σ H _ us Q' I r ⟨a, ys, rfl, .inl ⟨SqL.of h1, fun p o ho hp => k _ _ (.tup R ho hp l1 q)⟩⟩
def rTup : RDL := fun xs g Q => match xs with
  | [.t ds] => Q (.t ds) g
  | [.v (.ref a)] => ∃ ds, g.o a = some (.lst ds) ∧ Q (.t ds) g
  | _ => False
theorem c_tup : CallD Y (.type "tuple") rTup := CallD.mk fun pins s σ H xs us ds g Q Q' I r R l w k => by
  match ds, l, w with
  | [.t ds], .cons r1 .nil, q =>
    cases r1 with
    | t h1 l1 => exact call_tupP pins s σ H _ us Q' I r ⟨_, _, rfl, .inr ⟨h1.sq, k _ _ (.here R (.t h1 l1) q)⟩⟩
  | [.v (.ref a)], .cons r1 .nil, ⟨ds, ga, q⟩ =>
    cases r1
    obtain ⟨ys, h1, l1⟩ := R.obj a _ ga
    exact call_tupP pins s σ H _ us Q' I r ⟨a, ys, rfl, .inl ⟨SqL.of h1, fun p o ho hp => k _ _ (.tup R ho hp l1 q)⟩⟩
def rLenL : RL1 := fun ds Q => Q (.v (.int ds.length))
theorem mono_len : Mono1 rLenL := fun ds Q Q' h q => h _ q
theorem c_lenF : CallD Y (.builtin "len") (dL1 rLenL) := CallD.mk fun pins s σ H xs us ds g Q Q' I r R l w k => by
  match ds, l, w with
  | [d], .cons r1 .nil, ⟨es, ⟨a, ea, ga⟩, q⟩ =>
    subst ea; cases r1
    obtain ⟨ys, h1, l1⟩ := R.obj a _ ga
    exact call_len_seq pins s σ H _ us Q' I r ⟨a, ys, rfl, .inl (SqL.of h1), k _ _ (.atom R (by rw [l1.length]; exact q))⟩
def sizeOf (g : G) : D → Option Nat
  | .t ds => some ds.length
  | .v (.ref a) => match g.o a with
    | some (.lst ds) => some ds.length
    | some (.dt kvs) => some kvs.length
    | _ => none
  | _ => none
def rLen : RDL := fun xs g Q => match xs with
  | [d] => ∃ n, sizeOf g d = some n ∧ Q (.v (.int (n : Nat))) g
  | _ => False
end
end SK
end
section
set_option maxHeartbeats 4000000
namespace SK
open PySem PySem.Spec PyProof.Rows L2

/-! ### len, isinstance, list, int -/
section
variable {Y : Yx}
def rLenS : RDL := fun xs g Q => match xs with
  | [d] => ∃ ds, items g d = some ds ∧ Q (.v (.int (ds.length : Nat))) g
  | _ => False
theorem c_len : CallD Y (.builtin "len") rLenS := CallD.mk fun pins s σ H xs us ds g Q Q' I r R l w k => by
  match ds, l, w with
  | [d], .cons r1 .nil, ⟨es, hi, q⟩ =>
    obtain ⟨a, ys, rfl, hx, l1⟩ := items_rep R r1 hi
    exact call_len_seq pins s σ H _ us Q' I r ⟨a, ys, rfl, hx, k _ _ (.atom R (by rw [l1.length]; exact q))⟩
/-- a value's type -/
def tyD (g : G) : D → Option String
  | .t _ => some "tuple"
  | .k _ => some "tuple"
  | .v .non => some "NoneType"
  | .v (.bl _) => some "bool"
  | .v (.int _) => some "int"
  | .v (.str _) => some "str"
  | .v (.ref a) => match g.o a with
    | some (.lst _) => some "list"
    | some (.dk _) => some "dict"
    | some (.dt _) => some "dict"
    | _ => none
  | _ => none
theorem tyD_of {K : PySem.W.Frag} {H : Hp} {g : G} (R : RepG K H g) {x : V} {d : D} {T : String} (r : Rep K H x d) (h : tyD g d = some T) : TyX K H x (.type T) := by
  cases r with
  | v x =>
    cases x with
    | non => cases h; exact .base .non
    | bl b => cases h; exact .base (.bl b)
    | int i => cases h; exact .base (.int i)
    | str x => cases h; exact .base (.str x)
    | ref a =>
      have h' : (match g.o a with
        | some (.lst _) => some "list"
        | some (.dk _) => some "dict"
        | some (.dt _) => some "dict"
        | _ => none) = some T := h
      cases q : g.o a with
      | none => rw [q] at h'; cases h'
      | some m =>
        rw [q] at h'
        cases m with
        | lst es => cases h'; obtain ⟨xs, h1, _⟩ := R.obj a _ q; exact .base (.lst h1)
        | dk es => cases h'; obtain ⟨xs, h1, _⟩ := R.obj a _ q; exact .base (.dK h1)
        | dt es => cases h'; obtain ⟨xs, h1, _⟩ := R.obj a _ q; exact .base (.dT h1)
        | ins C fs => cases h'
    | _ => cases h
  | t h1 l1 =>
    cases h
    rcases h1 with ⟨o, h1, _⟩ | ⟨o, its, n, h1, h2, _⟩
    · exact .fTuple h1
    · exact .kTuple h1 h2
  | k h1 l1 => cases h; exact .base (.tup h1)
def isiT : String → String → Bool
  | "bool", "int" => true
  | a, b => a == b
def goodT (a : String) : Bool := ["tuple", "NoneType", "bool", "int", "str", "list", "dict"].contains a
theorem kit_tab : (["tuple", "NoneType", "bool", "int", "str", "list", "dict"].all fun a => ["tuple", "bool", "int", "str", "list", "dict"].all fun b => decide (kitB a b = some (isiT a b))) = true := by decide +kernel
theorem tyD_good {g : G} {d : D} {T : String} (h : tyD g d = some T) : T ∈ ["tuple", "NoneType", "bool", "int", "str", "list", "dict"] := by
  cases d with
  | t ds => cases h; simp
  | k ds => cases h; simp
  | v x =>
    cases x with
    | non => cases h; simp
    | bl b => cases h; simp
    | int i => cases h; simp
    | str x => cases h; simp
    | ref a =>
      have h' : (match g.o a with
        | some (.lst _) => some "list"
        | some (.dk _) => some "dict"
        | some (.dt _) => some "dict"
        | _ => none) = some T := h
      cases q : g.o a with
      | none => rw [q] at h'; cases h'
      | some m =>
        rw [q] at h'
        cases m <;> cases h' <;> simp
    | _ => cases h
def rIsiD : RDL := fun xs g Q => match xs with
  | [d, .v (.ty T)] => ∃ U, tyD g d = some U ∧ T ∈ ["tuple", "bool", "int", "str", "list", "dict"] ∧ Q (.v (.bl (isiT U T))) g
  | _ => False
theorem c_isi : CallD Y (.builtin "isinstance") rIsiD := CallD.mk fun pins s σ H xs us ds g Q Q' I r R l w k => by
  match ds, l, w with
  | [d, .v (.ty T)], .cons r1 (.cons r2 .nil), ⟨U, hU, hT, q⟩ =>
    cases r2
    refine call_isi pins s σ H _ us Q' I r ⟨_, _, .type U, .type T, isiT U T, rfl, .ty T, tyD_of R r1 hU, kit_ty ?_, k _ _ (.atom R q)⟩
    have h := List.all_eq_true.mp (List.all_eq_true.mp kit_tab U (tyD_good hU)) T hT
    exact of_decide_eq_true h
/-- list(x): a new list of the items -/
def uList (te : TE') : TL' := fun e g Q => te e g fun d g1 => ∃ ds, items g1 d = some ds ∧ Q ds g1
theorem q_list {e : Expr} {te : TE'} {x : Str} {p pos : Pos} (hg : Gl Y.X x) (hm : Y.X.mg x = none) (hv : bootBuiltins x = some (.type "list")) (ha : QE Y e te) (hn : x ≠ "__name__" := by decide) (hdb : (x == ("__debug__" : Str)) = false := by decide)
    (he : starEach [e] Y.X.env = (false, eval e Y.X.env) :: starEach [] Y.X.env := by rfl) (hpl : (backTo pos (starEach [] Y.X.env)).any (·.1) = false := by rfl) : QF Y (.Call (.Name x p) [e] [] pos) (uList te) :=
  QF.of (pe_callTy call_list_of hg hm hv (pa_cons ha.pe pa_nil he) hn hdb he hpl) fun σ H ev g Q Q' S w k => ⟨ev, g, _, S, w, fun x H1 ⟨d, g1, st, R, r, ds, hi, q⟩ => by
    obtain ⟨a, ys, rfl, hx, l1⟩ := items_rep R r hi
    exact ⟨a, ys, rfl, hx, fun p hp => k p ys _ ds g1 (st.trans (Step.fresh hp)) (R.fresh hp) (l1.keep ((Step.fresh (g := g1) hp).tu R)) upd_same (R.new_of hp) (st.there p hp) q⟩⟩
def rInt : RDL := fun xs g Q => match xs with
  | [.v (.int i)] => Q (.v (.int i)) g
  | [.v (.bl b)] => Q (.v (.int (if b then 1 else 0))) g
  | _ => False
theorem c_int : CallD Y (.type "int") rInt := CallD.mk fun pins s σ H xs us ds g Q Q' I r R l w k => by
  match ds, l, w with
  | [.v (.int i)], .cons r1 .nil, q =>
    cases r1
    exact call_int1 pins s σ H _ us Q' I r (.inl ⟨i, rfl, k _ _ (.atom R q)⟩)
  | [.v (.bl i)], .cons r1 .nil, q =>
    cases r1
    exact call_int1 pins s σ H _ us Q' I r (.inr ⟨i, rfl, k _ _ (.atom R q)⟩)
end

/-! ### subscripts, slices -/
def atD (ds : List D) (i : Int) : Option D := (ixN ds.length i).bind fun j => ds[j]?
theorem atD_rep {K : PySem.W.Frag} {H : Hp} {xs : List V} {ds : List D} {i : Int} {d : D} (l : RepL K H xs ds) (h : atD ds i = some d) : ∃ x, atI xs i = some x ∧ Rep K H x d := by
  unfold atD at h
  unfold atI
  rw [l.length]
  cases e : ixN ds.length i with
  | none => rw [e] at h; cases h
  | some j =>
    rw [e] at h
    exact l.get h
def dIx : RD2 := fun d e g Q => match e with
  | .v (.int i) => ∃ ds x, items g d = some ds ∧ atD ds i = some x ∧ Q x g
  | _ => False
section
variable {Y : Yx}
def IxD (Y : Yx) (rd : RD2) : Prop := IxR Y.X (fun x y H Q' => ∃ d1 d2 g Q, RepG Y.X.K H g ∧ Rep Y.X.K H x d1 ∧ Rep Y.X.K H y d2 ∧ rd d1 d2 g Q ∧ ∀ z H', Pst Y.b H g Q z H' → Q' z H')
theorem d_ix : IxD Y dIx := fun value slice pins s σ H x y v u Q' I rx ry ⟨d1, d2, g, Q, R, r1, r2, w, k⟩ hs => by
  match d2, w with
  | .v (.int i), ⟨ds, d, hi, ha, q⟩ =>
    cases r2
    obtain ⟨a, ys, rfl, hx, l1⟩ := items_rep R r1 hi
    obtain ⟨x, hat, r⟩ := atD_rep l1 ha
    rcases hx with h1 | h1
    · exact ix_list value slice pins s σ H _ _ v u Q' I rx ry ⟨a, ys, i, x, rfl, rfl, h1, hat, k _ _ (.here R r q)⟩ hs
    · exact ix_tup value slice pins s σ H _ _ v u Q' I rx ry ⟨a, ys, i, x, rfl, rfl, h1, hat, k _ _ (.here R r q)⟩ hs
theorem q_ix {a b : Expr} {ta tb : TE'} {rd : RD2} {pos : Pos} (hr : IxD Y rd) (ha : QE Y a ta) (hb : QE Y b tb) (hs : PlainIx b := by exact fun _ _ => rfl) : QE Y (.Subscript a b pos) (tO rd ta tb) :=
  QE.of (pe_ix hr ha.pe hb.pe hs) fun σ H e g Q Q' S h k => two (f := fun _ _ => getItem .none .none) (R := fun _ _ _ => True) S h k
/-- a subscript of a fresh list, that is gone behind it -/
theorem q_ixF {a b : Expr} {tl : TL'} {tb : TE'} {pos : Pos} (ha : QF Y a tl) (hb : QE Y b tb) (hs : PlainIx b := by exact fun _ _ => rfl) :
    QE Y (.Subscript a b pos) (fun e g Q => tl e g fun ds g1 => tb e g1 fun d g2 => ∃ i x, d = .v (.int i) ∧ atD ds i = some x ∧ Q x g2) :=
  QE.of (pe_ix ix_list ha.pe hb.pe hs) fun σ H ev g Q Q' S w k => ⟨ev, g, _, S, w, fun p xs H' ds g1 st R l hp nw h0 q => ⟨ev, g1, _, S.next st R, q, fun y H2 ⟨d, g2, st2, R2, r2, i, x, ed, hat, q2⟩ => by
    subst ed; cases r2
    have l2 := l.keep (st2.tu R)
    obtain ⟨z, hz, rz⟩ := atD_rep l2 hat
    exact ⟨p, xs, i, z, rfl, rfl, SqL.of (st2.keep _ _ hp fun d => d.elim (fun z => z nw.1) nw.2), hz, k _ _ ⟨x, g2, st.trans st2, R2, rz, q2⟩⟩⟩⟩
/-- a part of a slice -/
abbrev TP' := Ev → G → (Option Int → G → Prop) → Prop
structure QP (Y : Yx) (o : Option Expr) (t : TP') : Prop where
  po : PO Y.X o (fun σ H Q' => ∃ e g Q, Sm Y.b σ H e g ∧ t e g Q ∧ ∀ i H' g', Step H g H' g' → RepG Y.X.K H' g' → Q i g' → Q' i H')
theorem PO.imp {X : Cx} {e : Option Expr} {t u : TO} (h : PO X e t) (f : ∀ σ H Q, u σ H Q → t σ H Q) : PO X e u := ⟨fun p s σ H Q I q => h.run p s σ H Q I (f σ H Q q)⟩
theorem qp_none : QP Y none (fun e g Q => Q none g) := ⟨PO.imp po_none fun σ H Q' ⟨e, g, Q, S, w, k⟩ => k _ _ g .refl S.rg w⟩
theorem qp_some {a : Expr} {ta : TE'} (ha : QE Y a ta) : QP Y (some a) (fun e g Q => ta e g fun d g1 => ∃ i, d = .v (.int i) ∧ Q (some i) g1) :=
  ⟨PO.imp (po_some ha.pe) fun σ H Q' ⟨e, g, Q, S, w, k⟩ => ⟨e, g, _, S, w, fun x H1 ⟨d, g1, st, R, r, i, ed, q⟩ => by
    subst ed; cases r
    exact ⟨i, rfl, k _ _ g1 st R q⟩⟩⟩
def cutD (ds : List D) (lo hi : Option Int) : List D := (ds.drop (HT.sIx ds.length 0 lo)).take (HT.sIx ds.length ds.length hi - HT.sIx ds.length 0 lo)
theorem cutD_rep {K : PySem.W.Frag} {H : Hp} {xs : List V} {ds : List D} {lo hi : Option Int} (l : RepL K H xs ds) : RepL K H (cutV xs lo hi) (cutD ds lo hi) := by
  unfold cutV cutD
  rw [l.length]
  exact (l.drop _).take _
/-- a slice of a tuple is a tuple, of a list a new list -/
theorem q_slT {a : Expr} {lo hi : Option Expr} {ta : TE'} {tl th : TP'} {pos p2 : Pos} (ha : QE Y a ta) (hl : QP Y lo tl) (hh : QP Y hi th) :
    QE Y (.Subscript a (.Slice lo hi none p2) pos) (fun e g Q => ta e g fun d g1 => tl e g1 fun i g2 => th e g2 fun j g3 => match d with
      | .t ds => Q (.t (cutD ds i j)) g3
      | .v (.ref b) => ∃ ds, g3.o b = some (.lst ds) ∧ ∀ p, g3.new p → Q (.v (.ref p)) (g3.put p (.lst (cutD ds i j)))
      | _ => False) :=
  QE.of (pe_slice (SlR.or sl_tupP sl_list) ha.pe hl.po hh.po) fun σ H ev g Q Q' S w k => ⟨ev, g, _, S, w, fun x H1 ⟨d, g1, st, R, r, q⟩ => ⟨ev, g1, _, S.next st R, q, fun i H2 g2 st2 R2 q2 => ⟨ev, g2, _, (S.next st R).next st2 R2, q2, fun j H3 g3 st3 R3 q3 => by
    have s13 := (st.trans st2).trans st3
    have r3 := (r.keep (st2.tu R)).keep (st3.tu R2)
    match d, r3, q3 with
    | .t ds, .t h1 l1, q3 =>
      refine .inl ⟨_, _, rfl, h1.sq, fun e => k _ _ (.step s13 (.here R3 (.t h1 l1) ?_)), fun _ p o ho hp => k _ _ (.step s13 (.tup R3 ho hp (cutD_rep l1) q3))⟩
      have e' : cutD ds i j = ds := by
        unfold cutD
        rw [← l1.length, e.1, e.2, Nat.sub_zero, List.drop_zero, l1.length, List.take_length]
      have q3' : Q (.t (cutD ds i j)) g3 := q3
      rwa [e'] at q3'
    | .v (.ref b), r3, ⟨ds, hb, q3⟩ =>
      cases r3
      obtain ⟨ys, h1, l1⟩ := R3.obj b _ hb
      exact .inr ⟨b, ys, rfl, SqL.of h1, fun p hp => k _ _ (.step s13 (.lst R3 hp (cutD_rep l1) (q3 p)))⟩⟩⟩⟩
end

/-! ### in, not in -/
theorem op_inP {X : Cx} (hu : X.A.units + 65 < cLine) : OpR X (compareOp .In) (fun x y H Q => ∃ d ds, Dp X.K H x d ∧ (Dp X.K H y (.list ds) ∨ Dp X.K H y (.tuple ds)) ∧ SeqAt.shaped d = true ∧ SeqAt.shaped (.list ds) = true ∧ Q (.bl (ds.any fun z => PyData.eqv z d)) H) := by
  intro pins s σ H x y v u Q I rx ry ⟨d, ds, hd, he, sd, se, q⟩
  obtain ⟨as, r1⟩ := Dp.reads I d x v hd rx
  rcases he with he | he
  · exact op_inD hu pins s σ H x y v u Q I rx ry ⟨d, ds, hd, he, sd, se, q⟩
  · obtain ⟨bs, r2⟩ := Dp.reads I (.tuple ds) y u he ry
    exact SeqAt.in_tuple_reads r2 r1 (SeqAt.canLay_of_shaped se) (SeqAt.canLay_of_shaped sd) (room_in_shaped sd hu) ⟨.bl _, H, I, rfl, q⟩
theorem op_notInP {X : Cx} (hu : X.A.units + 65 < cLine) : OpR X (compareOp .NotIn) (fun x y H Q => ∃ d ds, Dp X.K H x d ∧ (Dp X.K H y (.list ds) ∨ Dp X.K H y (.tuple ds)) ∧ SeqAt.shaped d = true ∧ SeqAt.shaped (.list ds) = true ∧ Q (.bl (!ds.any fun z => PyData.eqv z d)) H) := by
  intro pins s σ H x y v u Q I rx ry ⟨d, ds, hd, he, sd, se, q⟩
  obtain ⟨as, r1⟩ := Dp.reads I d x v hd rx
  rcases he with he | he
  · exact op_notInD hu pins s σ H x y v u Q I rx ry ⟨d, ds, hd, he, sd, se, q⟩
  · obtain ⟨bs, r2⟩ := Dp.reads I (.tuple ds) y u he ry
    exact SeqAt.notIn_tuple_reads r2 r1 (SeqAt.canLay_of_shaped se) (SeqAt.canLay_of_shaped sd) (room_in_shaped sd hu) ⟨.bl _, H, I, rfl, q⟩
def dIn (neg : Bool) : RD2 := fun d e g Q => ∃ p es ps, items g e = some es ∧ PD g d p ∧ PDL g es ps ∧ SeqAt.shaped p = true ∧ SeqAt.shaped (.list ps) = true ∧ Q (.v (.bl (neg ^^ ps.any fun z => PyData.eqv z p))) g
theorem items_dp {K : PySem.W.Frag} {H : Hp} {g : G} (R : RepG K H g) {x : V} {d : D} {ds : List D} {ps : List PyData} (r : Rep K H x d) (h : items g d = some ds) (p : PDL g ds ps) : Dp K H x (.list ps) ∨ Dp K H x (.tuple ps) := by
  obtain ⟨a, xs, rfl, hx, l⟩ := items_rep R r h
  rcases hx with h1 | h1
  · exact .inl (.lst h1 (PXL.dp R ps l p))
  · exact .inr (.tup h1 (PXL.dp R ps l p))
section
variable {Y : Yx}
theorem d_in (hu : Y.X.A.units + 65 < cLine) : OpD Y (compareOp .In) (dIn false) := OpD.mk fun pins s σ H x y v u d1 d2 g Q Q' I rx ry R r1 r2 ⟨p, es, ps, hi, h1, h2, s1, s2, q⟩ k =>
  op_inP hu pins s σ H _ _ v u Q' I rx ry ⟨p, ps, PX.dp R p r1 h1, items_dp R r2 hi h2, s1, s2, k _ _ (.atom R (by simpa using q))⟩
theorem d_notin (hu : Y.X.A.units + 65 < cLine) : OpD Y (compareOp .NotIn) (dIn true) := OpD.mk fun pins s σ H x y v u d1 d2 g Q Q' I rx ry R r1 r2 ⟨p, es, ps, hi, h1, h2, s1, s2, q⟩ k =>
  op_notInP hu pins s σ H _ _ v u Q' I rx ry ⟨p, ps, PX.dp R p r1 h1, items_dp R r2 hi h2, s1, s2, k _ _ (.atom R (by simpa using q))⟩
end
end SK
end
section
set_option maxHeartbeats 4000000
namespace SK
open PySem PySem.Spec PyProof.Rows L2

/-! ### == where a side is a fresh list -/
section
variable {Y : Yx} {a b : Expr} {ta tb : TE'} {la lb : TL'} {pos : Pos}
def eqL (neg : Bool) (xs ys : List D) (g : G) (Q : DK) : Prop := ∃ ps qs, PDL g xs ps ∧ PDL g ys qs ∧ SeqAt.shaped (.list ps) = true ∧ SeqAt.shaped (.list qs) = true ∧ Q (.v (.bl (neg ^^ PyData.eqvAll ps qs))) g
theorem eqv_list {ps qs : List PyData} : PyData.eqv (.list ps) (.list qs) = PyData.eqvAll ps qs := by simp only [PyData.eqv]
def EqOp (neg : Bool) : CmpOp := if neg then .NotEq else .Eq
theorem op_eqN {X : Cx} (hu : X.A.units + 64 < cLine) (neg : Bool) : OpR X (compareOp (EqOp neg)) (fun x y H Q => ∃ d e, Dp X.K H x d ∧ Dp X.K H y e ∧ SeqAt.shaped d = true ∧ SeqAt.shaped e = true ∧ Q (.bl (neg ^^ PyData.eqv d e)) H) := by
  cases neg with
  | false => exact fun pins s σ H x y v u Q I rx ry ⟨d, e, h1, h2, h3, h4, q⟩ => op_eqD hu pins s σ H x y v u Q I rx ry ⟨d, e, h1, h2, h3, h4, by simpa using q⟩
  | true => exact fun pins s σ H x y v u Q I rx ry ⟨d, e, h1, h2, h3, h4, q⟩ => op_neD hu pins s σ H x y v u Q I rx ry ⟨d, e, h1, h2, h3, h4, by simpa using q⟩
theorem EqOp_mark {neg : Bool} {b : Expr} : behindInMarks (EqOp neg) b = false := by cases neg <;> exact nomark _
/-- fresh == fresh -/
def uEqFF (neg : Bool) (la lb : TL') : TE' := fun e g Q => la e g fun xs g1 => lb e g1 fun ys g2 => eqL neg xs ys g2 Q
theorem qFF (neg : Bool) (hu : Y.X.A.units + 64 < cLine) (ha : QF Y a la) (hb : QF Y b lb) : QE Y (.Compare a [EqOp neg] [b] pos) (uEqFF neg la lb) :=
  QE.of (pe_cmpR (op_eqN hu neg) ha.pe hb.pe EqOp_mark) fun σ H ev g Q Q' S w k => ⟨ev, g, _, S, w, fun p xs H1 ds g1 st R l hp nw h0 q => ⟨ev, g1, _, S.next st R, q, fun p2 ys H2 es g2 st2 R2 l2 hp2 nw2 h02 ⟨ps, qs, d1, d2, s1, s2, q2⟩ =>
    ⟨.list ps, .list qs, .lst (SqL.of (st2.keep _ _ hp fun d => d.elim (fun z => z nw.1) nw.2)) (PXL.dp R2 ps (l.keep (st2.tu R)) d1), .lst (SqL.of hp2) (PXL.dp R2 qs l2 d2), s1, s2, by
      rw [eqv_list]
      exact k _ _ ⟨_, g2, st.trans st2, R2, .v _, q2⟩⟩⟩⟩
/-- any == fresh -/
def uEqVF (neg : Bool) (ta : TE') (lb : TL') : TE' := fun e g Q => ta e g fun d g1 => lb e g1 fun ys g2 => ∃ xs, (∃ a, d = .v (.ref a) ∧ g2.o a = some (.lst xs)) ∧ eqL neg xs ys g2 Q
theorem qVF (neg : Bool) (hu : Y.X.A.units + 64 < cLine) (ha : QE Y a ta) (hb : QF Y b lb) : QE Y (.Compare a [EqOp neg] [b] pos) (uEqVF neg ta lb) :=
  QE.of (pe_cmpR (op_eqN hu neg) ha.pe hb.pe EqOp_mark) fun σ H ev g Q Q' S w k => ⟨ev, g, _, S, w, fun x H1 ⟨d, g1, st, R, r, q⟩ => ⟨ev, g1, _, S.next st R, q, fun p2 ys H2 es g2 st2 R2 l2 hp2 nw2 h02 ⟨xs, ⟨a, ed, ga⟩, ps, qs, d1, d2, s1, s2, q2⟩ => by
    subst ed; cases r
    obtain ⟨zs, h1, l1⟩ := R2.obj a _ ga
    refine ⟨.list ps, .list qs, .lst (SqL.of h1) (PXL.dp R2 ps l1 d1), .lst (SqL.of hp2) (PXL.dp R2 qs l2 d2), s1, s2, ?_⟩
    rw [eqv_list]
    exact k _ _ ⟨_, g2, st.trans st2, R2, .v _, q2⟩⟩⟩
theorem qtFF (neg : Bool) (hu : Y.X.A.units + 64 < cLine) (ha : QF Y a la) (hb : QF Y b lb) : QT Y (.Compare a [EqOp neg] [b] pos) (tB (uEqFF neg la lb)) :=
  QT.of (pt_cmpR (op_eqN hu neg) ha.pe hb.pe EqOp_mark) fun σ H ev g Q Q' S w k => ⟨ev, g, _, S, w, fun p xs H1 ds g1 st R l hp nw h0 q => ⟨ev, g1, _, S.next st R, q, fun p2 ys H2 es g2 st2 R2 l2 hp2 nw2 h02 ⟨ps, qs, d1, d2, s1, s2, b, eb, q2⟩ =>
    ⟨.list ps, .list qs, .lst (SqL.of (st2.keep _ _ hp fun d => d.elim (fun z => z nw.1) nw.2)) (PXL.dp R2 ps (l.keep (st2.tu R)) d1), .lst (SqL.of hp2) (PXL.dp R2 qs l2 d2), s1, s2, b, by
      rw [eqv_list]; injection eb, k _ _ ⟨g2, st.trans st2, R2, q2⟩⟩⟩⟩
theorem qtVF (neg : Bool) (hu : Y.X.A.units + 64 < cLine) (ha : QE Y a ta) (hb : QF Y b lb) : QT Y (.Compare a [EqOp neg] [b] pos) (tB (uEqVF neg ta lb)) :=
  QT.of (pt_cmpR (op_eqN hu neg) ha.pe hb.pe EqOp_mark) fun σ H ev g Q Q' S w k => ⟨ev, g, _, S, w, fun x H1 ⟨d, g1, st, R, r, q⟩ => ⟨ev, g1, _, S.next st R, q, fun p2 ys H2 es g2 st2 R2 l2 hp2 nw2 h02 ⟨xs, ⟨a, ed, ga⟩, ps, qs, d1, d2, s1, s2, b, eb, q2⟩ => by
    subst ed; cases r
    obtain ⟨zs, h1, l1⟩ := R2.obj a _ ga
    refine ⟨.list ps, .list qs, .lst (SqL.of h1) (PXL.dp R2 ps l1 d1), .lst (SqL.of hp2) (PXL.dp R2 qs l2 d2), s1, s2, b, ?_, k _ _ ⟨g2, st.trans st2, R2, q2⟩⟩
    rw [eqv_list]; injection eb⟩⟩
end

/-! ### targets -/
abbrev TG' := D → Ev → G → (Ev → G → Prop) → Prop
abbrev TGs' := List D → Ev → G → (Ev → G → Prop) → Prop
/-- the slots ts alone are written -/
def TQG (B : Bx) (ts : List Nat) (t : TG') : TG := fun x σ H Q' => ∃ d e g Q, Sm B σ H e g ∧ Rep B.K H x d ∧ t d e g Q ∧ ∀ σ2 H2 e2 g2, (∀ i, i ∉ ts → σ2[i]? = σ[i]?) → σ2.length = σ.length → Sm B σ2 H2 e2 g2 → Step H g H2 g2 → Q e2 g2 → Q' σ2 H2
def TQGs (B : Bx) (ts : List Nat) (t : TGs') : TGs := fun xs σ H Q' => ∃ ds e g Q, Sm B σ H e g ∧ RepL B.K H xs ds ∧ t ds e g Q ∧ ∀ σ2 H2 e2 g2, (∀ i, i ∉ ts → σ2[i]? = σ[i]?) → σ2.length = σ.length → Sm B σ2 H2 e2 g2 → Step H g H2 g2 → Q e2 g2 → Q' σ2 H2
structure QG (Y : Yx) (tg : Expr) (ts : List Nat) (t : TG') : Prop where
  pg : PG Y.X tg (TQG Y.b ts t)
structure QGs (Y : Yx) (tgs : List Expr) (ts : List Nat) (t : TGs') : Prop where
  pg : PGs Y.X tgs (TQGs Y.b ts t)
theorem PG.imp {X : Cx} {e : Expr} {t u : TG} (h : PG X e t) (f : ∀ x σ H Q, u x σ H Q → t x σ H Q) : PG X e u := ⟨fun p s σ H v u' Q I r q => h.run p s σ H v u' Q I r (f v σ H Q q)⟩
theorem PGs.imp {X : Cx} {e : List Expr} {t u : TGs} (h : PGs X e t) (f : ∀ x σ H Q, u x σ H Q → t x σ H Q) : PGs X e u := ⟨fun p s σ H v u' Q I r q => h.run p s σ H v u' Q I r (f v σ H Q q)⟩
section
variable {Y : Yx} {pos : Pos}
theorem Sm.set {σ : L2.St} {H : Hp} {e : Ev} {g : G} {x : V} {d : D} (S : Sm Y.b σ H e g) (i : Nat) (r : Rep Y.X.K H x d) : Sm Y.b (σ.set i (some x)) H (e.set i (some d)) g := ⟨S.st, S.re.set i r, S.rg⟩
def vName (i : Nat) : TG' := fun d e g Q => Q (e.set i (some d)) g
theorem qg_name (i : Nat) {x : Str} (hN : Y.X.N.Nodup) (hi : Y.X.N[i]? = some x := by rfl) (hx : Loc Y.X.env.scope x := by first | exact .inl rfl | exact .inr rfl) (hf : Y.X.fn x = true ∨ Y.X.env.scope.names.lookup x = some .local := by first | exact .inl rfl | exact .inr rfl) :
    QG Y (.Name x pos) [i] (vName i) :=
  ⟨PG.imp (pg_name hN hi hx hf) fun x σ H Q' ⟨d, e, g, Q, S, r, w, k⟩ => k _ _ _ _ (fun j hj => List.getElem?_set_ne (fun z => hj (by simp [z]))) List.length_set (S.set i r) .refl w⟩
def vNil : TGs' := fun ds e g Q => ds = [] ∧ Q e g
def vCons (t : TG') (u : TGs') : TGs' := fun ds e g Q => ∃ d r, ds = d :: r ∧ t d e g fun e' g' => u r e' g' Q
theorem qgs_nil : QGs Y [] [] vNil := ⟨PGs.imp pgs_nil fun xs σ H Q' ⟨ds, e, g, Q, S, l, w, k⟩ => by
  obtain ⟨rfl, w⟩ := w
  cases l
  exact ⟨rfl, k _ _ _ _ (fun _ _ => rfl) rfl S .refl w⟩⟩
theorem qgs_cons {tg : Expr} {tgs : List Expr} {ts us : List Nat} {t : TG'} {u : TGs'} (h1 : QG Y tg ts t) (h2 : QGs Y tgs us u)
    (hs : (assignEach (tg :: tgs) Y.X.env).map (·.2) = assign tg Y.X.env :: (assignEach tgs Y.X.env).map (·.2) := by rfl) : QGs Y (tg :: tgs) (ts ++ us) (vCons t u) :=
  ⟨PGs.imp (pgs_cons h1.pg h2.pg hs) fun xs σ H Q' ⟨ds, e, g, Q, S, l, w, k⟩ => by
    obtain ⟨d, r, rfl, w⟩ := w
    cases l with
    | cons r1 l1 =>
      refine ⟨_, _, rfl, d, e, g, _, S, r1, w, fun σ2 H2 e2 g2 h2 hl2 S2 st2 q2 => ?_⟩
      refine ⟨r, e2, g2, Q, S2, l1.keep (st2.tu S.rg), q2, fun σ3 H3 e3 g3 h3 hl3 S3 st3 q3 => ?_⟩
      exact k σ3 H3 e3 g3 (fun i hi => by
        rw [List.mem_append] at hi
        exact (h3 i fun z => hi (.inr z)).trans (h2 i fun z => hi (.inl z))) (hl3.trans hl2) S3 (st2.trans st3) q3⟩
def vTup (n : Nat) (t : TGs') : TG' := fun d e g Q => ∃ ds, tupD d = some ds ∧ ds.length = n ∧ t ds e g Q
theorem qg_tup {es : List Expr} {k n : Nat} {ts : List Nat} {t : TGs'} (hc : Y.X.calm = true) (h : QGs Y es ts t) (hn : (assignEach es Y.X.env).length = n := by rfl) (hst : (assignEach es Y.X.env).findIdx? (·.1) = none := by rfl) : QG Y (.Tuple es k pos) ts (vTup n t) :=
  ⟨PG.imp (pg_tup hc h.pg hn hst) fun x σ H Q' ⟨d, e, g, Q, S, r, w, k⟩ => by
    obtain ⟨ds, hd, hl, w⟩ := w
    obtain ⟨a, xs, rfl, h1, l1⟩ := r.tup hd
    exact ⟨_, _, rfl, h1, by rw [l1.length]; exact hl, ds, e, g, Q, S, l1, w, k⟩⟩
end

/-! ### what is walked -/
structure Src where
  ds : List D
  ok : G → Prop
abbrev TI' := Ev → G → (Src → G → Prop) → Prop
def Sim (B : Bx) (H0 : Hp) (g0 : G) (J : It) (S : Src) : Prop := ∀ i H g, Step H0 g0 H g → RepG B.K H g → S.ok g →
  (∀ d, S.ds[i]? = some d → J.go i H ∧ ∀ x H', J.yld i H x H' → Step H g H' g ∧ RepG B.K H' g ∧ Rep B.K H' x d) ∧ (i = S.ds.length → J.stop i H)
def TQI (B : Bx) (t : TI') : TI := fun σ H R => ∃ e g Q, Sm B σ H e g ∧ t e g Q ∧ ∀ J H' S g', Step H g H' g' → RepG B.K H' g' → S.ok g' → Sim B H' g' J S → Q S g' → R J H'
structure QI (Y : Yx) (tg iter : Expr) (t : TI') : Prop where
  pi : PI Y.X tg iter (TQI Y.b t)
theorem PI.imp {X : Cx} {tg e : Expr} {t u : TI} (h : PI X tg e t) (f : ∀ σ H Q, u σ H Q → t σ H Q) : PI X tg e u := ⟨fun p s σ H Q I q => h.run p s σ H Q I (f σ H Q q)⟩
section
variable {Y : Yx} {tg : Expr} {pos : Pos}
theorem pi_seq {X : Cx} {l : Expr} {tl : TE} (hl : PE X l tl) : PI X tg l (fun σ H R => tl σ H fun x H1 => ∃ a xs, x = .ref a ∧ ((SqL X.K H1 a xs ∧ R (Itl X.K a) H1) ∨ (SqT X.K H1 a xs ∧ R (Itt X.K a) H1))) := by
  refine ⟨fun pins s σ H R I h => ?_⟩
  refine thn (hl.run pins s σ H _ I h) fun v s1 ⟨x, H1, I1, r1, a, xs, ex, q⟩ => ?_
  subst ex
  cases r1
  have fin : ∀ b ∈ [s1.heap.objs.size], FpOk X pins H1 b := fun b hb => by
    have e : b = s1.heap.objs.size := by simpa using hb
    subst e
    exact I1.fpOk (Nat.le_refl _) (I1.hok.fresh (Nat.le_refl _))
  rcases q with ⟨hq, q⟩ | ⟨hq, q⟩
  · obtain ⟨its, rv, p, hz⟩ := I1.list hq
    exact wpAny_pyIter_list p.isList ⟨s1.heap.objs.size, [s1.heap.objs.size], _, _, H1, rfl, I1.kept (t' := s1.toks) fun b o e => Heap.get?_push_of_some _ e, turn_list a _, ⟨_, Heap.get?_push_size _ rfl, rfl, rfl⟩, fin, q⟩
  · obtain ⟨its, rv, p, hz⟩ := I1.tuple hq
    exact wpAny_pyIter_tuple (show s1.heap.IsTuple a its.toArray from p) ⟨s1.heap.objs.size, [s1.heap.objs.size], _, _, H1, rfl, I1.kept (t' := s1.toks) fun b o e => Heap.get?_push_of_some _ e, turn_tuple a _, ⟨_, Heap.get?_push_size _ rfl, rfl, rfl⟩, fin, q⟩
theorem sim_list {H0 : Hp} {g0 : G} {a : Addr} {xs : List V} {S : Src} (h : ∀ H g, Step H0 g0 H g → RepG Y.X.K H g → S.ok g → ∃ xs, SqL Y.X.K H a xs ∧ RepL Y.X.K H xs S.ds) (inj : ∀ H xs ys, SqL Y.X.K H a xs → SqL Y.X.K H a ys → xs = ys) : Sim Y.b H0 g0 (Itl Y.X.K a) S := fun i H g st R ok => by
  obtain ⟨xs, hx, l⟩ := h H g st R ok
  refine ⟨fun d hd => ?_, fun hi => ⟨xs, hx, by rw [l.length]; exact Nat.le_of_eq hi.symm⟩⟩
  obtain ⟨x, ex, r⟩ := l.get hd
  refine ⟨⟨xs, x, hx, ex⟩, fun y H' hy => ?_⟩
  obtain ⟨e, hy⟩ := hy
  subst e
  have e2 := (hy xs hx).symm.trans ex
  cases e2
  exact ⟨.refl, R, r⟩
/-- over a tuple, or a list that stays -/
def iSeq (te : TE') : TI' := fun e g Q => te e g fun d g1 => ∃ ds, items g1 d = some ds ∧ Q ⟨ds, fun g => items g d = some ds⟩ g1
theorem sim_seq {H0 : Hp} {g0 : G} {K : PySem.W.Frag} (hK : K = Y.X.K) {x : V} {d : D} {ds : List D} {a : Addr} (r : ∀ H g, Step H0 g0 H g → RepG K H g → Rep K H (.ref a) d) :
    (∀ H g, Step H0 g0 H g → RepG K H g → items g d = some ds → (∃ xs, H a = some (.lst xs) ∧ RepL K H xs ds)) → Sim Y.b H0 g0 (Itl K a) ⟨ds, fun g => items g d = some ds⟩ := fun h i H g st R ok => by
  subst hK
  obtain ⟨xs, hx, l⟩ := h H g st R ok
  refine ⟨fun d' hd => ?_, fun hi => ⟨xs, SqL.of hx, by rw [l.length]; exact Nat.le_of_eq hi.symm⟩⟩
  obtain ⟨y, ey, ry⟩ := l.get hd
  refine ⟨⟨xs, y, SqL.of hx, ey⟩, fun z H' hy => ?_⟩
  obtain ⟨e, hy⟩ := hy
  subst e
  have e2 := (hy xs (SqL.of hx)).symm.trans ey
  cases e2
  exact ⟨.refl, R, ry⟩
theorem qi_seq {l : Expr} {te : TE'} (h : QE Y l te) : QI Y tg l (iSeq te) :=
  ⟨PI.imp (pi_seq h.pe) fun σ H R' ⟨e, g, Q, S, w, k⟩ => ⟨e, g, _, S, w, fun x H1 ⟨d, g1, st, R, r, ds, hi, q⟩ => by
    cases r with
    | v x =>
      obtain ⟨a, xs, rfl, hx, l⟩ := items_rep R (.v x) hi
      have hg : g1.o a = some (.lst ds) := by
        unfold items at hi
        cases q : g1.o a with
        | none => simp [q] at hi
        | some m => cases m <;> simp [q] at hi; subst hi; rfl
      obtain ⟨ys, h1, l1⟩ := R.obj a _ hg
      refine ⟨a, ys, rfl, .inl ⟨SqL.of h1, k _ _ _ g1 st R hi (sim_seq (x := .ref a) rfl (fun _ _ _ _ => .v _) fun H2 g2 st2 R2 hi2 => ?_) q⟩⟩
      have hg2 : g2.o a = some (.lst ds) := by
        unfold items at hi2
        cases q : g2.o a with
        | none => simp [q] at hi2
        | some m => cases m <;> simp [q] at hi2; subst hi2; rfl
      exact R2.obj a _ hg2
    | t h1 l1 =>
      cases hi
      refine ⟨_, _, rfl, .inr ⟨h1.sq, k _ _ ⟨ds, fun g => items g (.t ds) = some ds⟩ g1 st R rfl (fun i H2 g2 st2 R2 ok2 => ?_) q⟩⟩
      have h2 := ((st2.tu R).p _ _ h1).sq
      have l2 := l1.keep (st2.tu R)
      refine ⟨fun d' hd => ?_, fun hi => ⟨_, h2, by rw [l2.length]; exact Nat.le_of_eq hi.symm⟩⟩
      obtain ⟨y, ey, ry⟩ := l2.get hd
      refine ⟨⟨_, y, h2, ey⟩, fun z H' hy => ?_⟩
      obtain ⟨e, hy⟩ := hy
      subst e
      have e2 := (hy _ h2).symm.trans ey
      cases e2
      exact ⟨.refl, R2, ry⟩
    | k h1 l1 =>
      cases hi
      refine ⟨_, _, rfl, .inr ⟨SqT.of h1, k _ _ ⟨ds, fun g => items g (.k ds) = some ds⟩ g1 st R rfl (fun i H2 g2 st2 R2 ok2 => ?_) q⟩⟩
      have h2 : SqT Y.X.K H2 _ _ := SqT.of ((st2.tu R).k _ _ h1)
      have l2 := l1.keep (st2.tu R)
      refine ⟨fun d' hd => ?_, fun hi => ⟨_, h2, by rw [l2.length]; exact Nat.le_of_eq hi.symm⟩⟩
      obtain ⟨y, ey, ry⟩ := l2.get hd
      refine ⟨⟨_, y, h2, ey⟩, fun z H' hy => ?_⟩
      obtain ⟨e, hy⟩ := hy
      subst e
      have e2 := (hy _ h2).symm.trans ey
      cases e2
      exact ⟨.refl, R2, ry⟩⟩⟩
/-- over a fresh list -/
def iF (tl : TL') : TI' := fun e g Q => tl e g fun ds g1 => Q ⟨ds, fun _ => True⟩ g1
theorem qi_F {l : Expr} {tl : TL'} (h : QF Y l tl) : QI Y tg l (iF tl) :=
  ⟨PI.imp (pi_list h.pe) fun σ H R' ⟨e, g, Q, S, w, k⟩ => ⟨e, g, _, S, w, fun p xs H' ds g1 st R l hp nw h0 q => ⟨p, rfl, ⟨xs, SqL.of hp⟩, k _ _ _ g1 st R trivial (fun i H2 g2 st2 R2 _ => by
    have h2 := st2.keep _ _ hp fun d => d.elim (fun z => z nw.1) nw.2
    have l2 := l.keep (st2.tu R)
    refine ⟨fun d' hd => ?_, fun hi => ⟨_, SqL.of h2, by rw [l2.length]; exact Nat.le_of_eq hi.symm⟩⟩
    obtain ⟨y, ey, ry⟩ := l2.get hd
    refine ⟨⟨_, y, SqL.of h2, ey⟩, fun z H' hy => ?_⟩
    obtain ⟨e, hy⟩ := hy
    subst e
    have e2 := (hy _ (SqL.of h2)).symm.trans ey
    cases e2
    exact ⟨.refl, R2, ry⟩) q⟩⟩⟩
/-- over range -/
def rng (lo : Int) (n : Nat) : List D := (List.range n).map fun i => .v (.int (lo + (i : Nat)))
theorem sim_rng {H0 : Hp} {g0 : G} {lo : Int} {n : Nat} : Sim Y.b H0 g0 (Itr lo n) ⟨rng lo n, fun _ => True⟩ := fun i H g st R _ => by
  have hl : (rng lo n).length = n := by simp [rng]
  refine ⟨fun d hd => ?_, fun hi => by show n ≤ i; rw [hl] at hi; exact Nat.le_of_eq hi.symm⟩
  have hi : i < n := by
    have := (List.getElem?_eq_some_iff.mp hd).1
    rwa [hl] at this
  have hd : d = .v (.int (lo + (i : Nat))) := by
    simp [rng, List.getElem?_map, List.getElem?_range, hi] at hd
    exact hd.symm
  subst hd
  refine ⟨hi, fun x H' hy => ?_⟩
  obtain ⟨e1, e2⟩ := hy
  subst e1 e2
  exact ⟨.refl, R, .v _⟩
def iR1 (t : TL') : TI' := fun e g Q => t e g fun ds g1 => ∃ j : Int, ds = [.v (.int j)] ∧ -(2 ^ 62) ≤ j ∧ j < 2 ^ 62 ∧ Q ⟨rng 0 j.toNat, fun _ => True⟩ g1
def iR2 (t : TL') : TI' := fun e g Q => t e g fun ds g1 => ∃ i j : Int, ds = [.v (.int i), .v (.int j)] ∧ (-(2 ^ 62) ≤ i ∧ i < 2 ^ 62 ∧ -(2 ^ 62) ≤ j ∧ j < 2 ^ 62) ∧ Q ⟨rng i (j - i).toNat, fun _ => True⟩ g1
theorem qi_range1 {a : Expr} {t : TL'} {p : Pos} (hg : Gl Y.X "range") (hm : Y.X.mg "range" = none) (ha : QA Y [a] t) (hs : starEach [a] Y.X.env = [(false, eval a Y.X.env)] := by rfl) : QI Y tg (.Call (.Name "range" p) [a] [] pos) (iR1 t) :=
  ⟨PI.imp (pi_range1 hg hm ha.pa hs) fun σ H R' ⟨e, g, Q, S, w, k⟩ => ⟨e, g, _, S, w, fun xs H1 ⟨ds, g1, st, R, l, j, ed, h1, h2, q⟩ => by
    subst ed
    cases l with
    | cons r l => cases r; cases l; exact ⟨j, rfl, h1, h2, k _ _ _ g1 st R trivial sim_rng q⟩⟩⟩
theorem qi_range2 {a b : Expr} {t : TL'} {p : Pos} (hg : Gl Y.X "range") (hm : Y.X.mg "range" = none) (ha : QA Y [a, b] t) (hs : starEach [a, b] Y.X.env = [(false, eval a Y.X.env), (false, eval b Y.X.env)] := by rfl) (hs2 : starEach [b] Y.X.env = [(false, eval b Y.X.env)] := by rfl) :
    QI Y tg (.Call (.Name "range" p) [a, b] [] pos) (iR2 t) :=
  ⟨PI.imp (pi_range2 hg hm ha.pa hs hs2) fun σ H R' ⟨e, g, Q, S, w, k⟩ => ⟨e, g, _, S, w, fun xs H1 ⟨ds, g1, st, R, l, i, j, ed, h1, q⟩ => by
    subst ed
    cases l with
    | cons r l => cases r; cases l with
      | cons r l => cases r; cases l; exact ⟨i, j, rfl, h1, k _ _ _ g1 st R trivial sim_rng q⟩⟩⟩
end
end SK
end
section
set_option maxHeartbeats 4000000
namespace SK
open PySem PySem.Spec PyProof.Rows L2

theorem meets_enumerate_newB1 {v : Value} {o : Obj} {H : Heap → Prop} (B : Begins v o H) :
    Meets (Builtin.«enumerate.__new__» ⟨[.type "enumerate", v], []⟩) (fun _ R s => H s.heap ∧
      R (.ok (.ret (.ref (s.heap.push o).objs.size))) { s with heap := (s.heap.push o).push { cls := .type "enumerate", data := .fields #[.none, .bool false, .ref s.heap.objs.size, rawInt 0, .none, .none] } }) :=
  .of_wp fun prog w A R s h => by
    obtain ⟨hp, g, d, tk, os⟩ := s; obtain ⟨h1, h⟩ := h
    have hsub := sub_enumerate
    have q1 : ∀ {A' : Around} {E : Value → Shared → Prop} {Q : Value → Shared → Prop}, Q (.ref hp.objs.size) ⟨hp.push o, g, d, tk, os⟩ → wpAny (model prog w) A' (pyIter v) Q E ⟨hp, g, d, tk, os⟩ :=
      fun q => B.iter prog w _ _ ⟨hp, g, d, tk, os⟩ _ h1 q
    wp_walk using q1
    refine wpAny_stack_any fun st => wpAny_pure ?_
    split
    · rename_i c _ _ _ _ _
      cases (c == Value.type "enumerate")
      · wp_walk using q1
        exact ⟨_, rfl, h⟩
      · wp_walk using q1
        exact ⟨_, rfl, h⟩
    · wp_walk using q1
      exact ⟨_, rfl, h⟩
section
variable {prog : Program} {w : World} {A : Around} {E : Value → Shared → Prop} {s : Shared}
theorem enum_begins1 {v : Value} {o : Obj} {H : Heap → Prop} {Q : Value → Shared → Prop} (B : Begins v o H) (h1 : H s.heap)
    (h : ∀ h', IsEnum h' (s.heap.objs.size + 1) s.heap.objs.size 0 .none → h'.get? s.heap.objs.size = some o → h'.objs.size = s.heap.objs.size + 2 →
      (∀ b o, s.heap.get? b = some o → h'.get? b = some o) → Q (.ref (s.heap.objs.size + 1)) { s with heap := h' }) :
    wpAny (model prog w) A (call (.type "enumerate") [v]) Q E s := by
  refine callType_new F.called_enumerate (by decide) (F.typeCall_enumerate_1 _) (F.newCall_enumerate_1 _) (fun obj => F.args_object_init_2 obj _) F.entry_enumerate_new
    (meets_enumerate_newB1 B) ⟨h1, ?_⟩
  have hz : (s.heap.push o).objs.size = s.heap.objs.size + 1 := Heap.size_push ..
  show _ ∧ _
  rw [hz]
  have he : IsEnum ((s.heap.push o).push { cls := .type "enumerate", data := .fields #[.none, .bool false, .ref s.heap.objs.size, rawInt 0, .none, .none] }) (s.heap.objs.size + 1) s.heap.objs.size 0 .none := by
    have := Heap.get?_push_size (s.heap.push o) (o := { cls := .type "enumerate", data := .fields #[.none, .bool false, .ref s.heap.objs.size, rawInt 0, .none, .none] }) rfl
    rw [hz] at this; exact this
  refine ⟨⟨_, he, rfl⟩, h _ he (Heap.get?_push_of_some _ (Heap.get?_push_size _ B.free)) (by rw [Heap.size_push, hz]) fun b o x => Heap.get?_push_of_some _ (Heap.get?_push_of_some _ x)⟩
end

/-! ### a list or a tuple -/
def Sq (K : PySem.W.Frag) (H : Hp) : Bool → Addr → List V → Prop
  | true, a, xs => SqL K H a xs
  | false, a, xs => SqT K H a xs
def IsIt : Bool → Heap → Addr → Addr → Nat → Prop
  | true, h, it, a, i => h.IsListIter it a i
  | false, h, it, a, i => h.IsTupleIter it a i
def IsSq : Bool → Heap → Addr → Array Value → Prop
  | true, h, a, its => h.IsList a its
  | false, h, a, its => h.IsTuple a its
def itO : Bool → Addr → Obj
  | true, a => { cls := .type "list_iterator", data := .fields #[.ref a, .int 0 0] }
  | false, a => { cls := .type "tuple_iterator", data := .fields #[.ref a, .int 0 0] }
theorem IsIt.start {k : Bool} {h : Heap} {it a : Addr} (e : h.get? it = some (itO k a)) : IsIt k h it a 0 := by
  cases k <;> exact ⟨_, e, rfl, rfl⟩
theorem IsIt.at {k : Bool} {h h' : Heap} {it a : Addr} {i : Nat} (x : IsIt k h it a i) (e : ∀ o, h.get? it = some o → h'.get? it = some o) : IsIt k h' it a i := by
  cases k
  · exact Heap.IsTupleIter.at (show h.IsTupleIter it a i from x) e
  · exact Heap.IsListIter.at (show h.IsListIter it a i from x) e
theorem IsIt.obj {k : Bool} {h : Heap} {it a : Addr} {i : Nat} (x : IsIt k h it a i) : ∃ o, h.get? it = some o ∧ ∀ v, o.data ≠ .cell v := by
  cases k
  · obtain ⟨o, e, _, d⟩ := (show h.IsTupleIter it a i from x); exact ⟨o, e, fun v q => by rw [d] at q; cases q⟩
  · obtain ⟨o, e, _, d⟩ := (show h.IsListIter it a i from x); exact ⟨o, e, fun v q => by rw [d] at q; cases q⟩
theorem sq_begins (k : Bool) (a : Addr) (its : Array Value) : Begins (.ref a) (itO k a) fun h => IsSq k h a its := by
  cases k
  · exact begins_tuple a its
  · exact begins_list a its
theorem sq_draws {prog : Program} {w : World} {A : Around} (hh : A.handled = none) (k : Bool) (it a : Addr) (hne : a ≠ it) (its : Array Value) :
    Draws prog w A it [it, a] its.size (fun i v => its[i]? = some v) (fun i h => IsIt k h it a i ∧ IsSq k h a its) := by
  cases k
  · exact Draws.tuple hh it a hne its
  · exact Draws.list hh it a hne its
section
variable {X : Cx} {pins : List (Addr × Obj)} {σ : L2.St} {H : Hp} {s : Shared} {a : Addr} {xs ys : List V} {k : Bool}
theorem Inv.sq (I : Inv X pins σ H s) (h : Sq X.K H k a xs) : ∃ its : List Value, Vals xs its ∧ IsSq k s.heap a its.toArray ∧ xs.length ≤ sizeLine := by
  cases k
  · obtain ⟨its, r, p, z⟩ := I.tuple h
    exact ⟨its, r, p, z⟩
  · obtain ⟨its, r, p, z⟩ := I.list h
    exact ⟨its, r, p.isList, z⟩
theorem Inv.sq_inj (I : Inv X pins σ H s) (h : Sq X.K H k a xs) (h' : Sq X.K H k a ys) : xs = ys := by
  cases k
  · exact I.tuple_inj h h'
  · exact I.list_inj h h'
theorem Inv.sq_lt (I : Inv X pins σ H s) (h : Sq X.K H k a xs) : a < s.heap.objs.size := by
  cases k
  · obtain ⟨its, r, p, z⟩ := I.tuple h
    exact p.lt
  · obtain ⟨its, r, ⟨o, n, e, _⟩, z⟩ := I.list h
    exact Heap.lt_size e
end

/-! ### enumerate -/
def ItE (K : PySem.W.Frag) (k : Bool) (a : Addr) : It :=
  ⟨fun i H => ∃ (xs : List V) (x : V), Sq K H k a xs ∧ xs[i]? = some x, fun i H v H' => ∃ T x, v = .ref T ∧ H T = none ∧ H' = upd H T (.tup [.int (i : Nat), x]) ∧ ∀ xs, Sq K H k a xs → xs[i]? = some x, fun i H => ∃ xs : List V, Sq K H k a xs ∧ xs.length = i⟩
theorem turn_enumX {P : Program} {w : World} {K : PySem.W.Frag} {elts : List Expr} {kk : Nat} {tpos : Pos} (k : Bool) (a e it : Addr) :
    Turn P w K (.Tuple elts kk tpos) (ItE K k a) [e, it] e (fun i h => (∃ old, IsEnum h e it ((i : Nat) : Int) old) ∧ IsIt k h it a i ∧ e ≠ it ∧ a ≠ it ∧ a ≠ e) where
  mem := by simp
  obj := fun i h st b hb => by
    obtain ⟨⟨old, he⟩, hi, _⟩ := st
    have e' : b = e ∨ b = it := by simpa using hb
    rcases e' with z | z
    · rw [z]; exact ⟨_, he, fun v q => nomatch q⟩
    · rw [z]; exact hi.obj
  keep := fun i h h' st kp => let ⟨⟨old, he⟩, hi, hne⟩ := st; ⟨⟨old, kp e (by simp) _ he⟩, hi.at fun o q => kp it (by simp) o q, hne⟩
  item := by
    intro X hP hw hK hc i pins s σ H E I hf st hg
    subst hP hw hK
    obtain ⟨⟨old, he⟩, hit, hne, ha1, ha2⟩ := st
    obtain ⟨xs, x, hq, hx⟩ := hg
    obtain ⟨its, rv, p, hz⟩ := Inv.sq I hq
    obtain ⟨u, hu, ru⟩ := rv.get hx
    have hel : e < s.heap.objs.size := Heap.lt_size he
    have hil : it < s.heap.objs.size := by obtain ⟨_, q, _⟩ := hit.obj; exact Heap.lt_size q
    have hlt : i < its.toArray.size := by
      have := (List.getElem?_eq_some_iff.mp hu).1
      simpa using this
    refine wpAny_pyNext_enum_itemC (sq_draws (A := X.A.in1) (show X.A.in1.handled = none from I.ok.hd hc) k it a ha1 its.toArray) he ⟨hit, p⟩ hlt hne (by simp [hne, Ne.symm ha2]) fun u' h' tk hP ho hst' hT hsz hk => ?_
    have eu : u' = u := by
      have h1 : its.toArray[i]? = some u := by simpa using hu
      exact Option.some.inj (hP.symm.trans h1)
    subst eu
    refine ⟨_, rfl, wpAny_letOwnedTupleGo_enum (s := { s with heap := h', toks := tk + 1 }) ho fun h'' he' sb => ?_⟩
    have hT2 : h''.get? s.heap.objs.size = some { cls := .type "tuple", data := .seq #[.int i tk, u'] } := (sb.2 _ (Nat.ne_of_gt hel)).trans hT
    have new : ObjOk X.prog X.w (upd H s.heap.objs.size (.tup [.int (i : Nat), x])) h'' s.heap.objs.size (.tup [.int (i : Nat), x]) :=
      ⟨by show 2 ≤ sizeLine; decide, [.int i tk, u'], .cons ⟨_, rfl⟩ (.cons ru .nil), ⟨_, hT2, rfl, _, rfl⟩⟩
    have I1 : Inv X pins σ (upd H s.heap.objs.size (.tup [.int (i : Nat), x])) { s with heap := h'', toks := tk + 1 } :=
      I.turnedNew (ch := [e, it]) (fun b ob hb q => (sb.2 b (fun z => hb (by simp [z]))).trans (hk b ob (fun z => hb (by simp [z])) (fun z => hb (by simp [z])) q)) hf (Nat.le_refl _) new
    refine ⟨.ref s.heap.objs.size, _, I1, rfl, ⟨_, x, rfl, I.hok.fresh (Nat.le_refl _), rfl, fun ys hy => by rw [Inv.sq_inj I hy hq]; exact hx⟩, ⟨⟨u', ?_⟩, hst'.1.at fun o q => (sb.2 it (Ne.symm hne)).trans q, hne, ha1, ha2⟩, fun b hb => ?_⟩
    · have e1 : ((i + 1 : Nat) : Int) = (i : Int) + 1 := by omega
      rw [e1]; exact he'
    · have hb' : b < s.heap.objs.size := by
        have e' : b = e ∨ b = it := by simpa using hb
        rcases e' with z | z
        · rw [z]; exact hel
        · rw [z]; exact hil
      rw [upd_ne (Nat.ne_of_lt hb')]
      exact (hf b hb).1
  done := by
    intro X hP hw hK hc i pins s σ H E I hf st hg
    subst hP hw hK
    obtain ⟨⟨old, he⟩, hit, hne, ha1, ha2⟩ := st
    obtain ⟨xs, hq, hx⟩ := hg
    obtain ⟨its, rv, p, hz⟩ := Inv.sq I hq
    obtain ⟨f0, f1, f2, f3, f4, f5⟩ := hf it (by simp)
    have hl := rv.length
    have hi : its.toArray.size = i := by simp; omega
    exact wpAny_pyNext_enum_endD (sq_draws (A := X.A.in1) (show X.A.in1.handled = none from I.ok.hd hc) k it a ha1 its.toArray) he (by rw [hi]; exact ⟨hit, p⟩) fun h' eb => ⟨rfl, I.turned (t' := s.toks) (fun b o hb q => eb b o hb q) f0 f1 f3 f4 f5⟩
  self := fun A i s Q E st h => let ⟨⟨_, he⟩, _⟩ := st; wpAny_pyIter_enum he h
theorem pi_enumX {X : Cx} {e : Expr} {ta : TA} {p pos tpos : Pos} {elts : List Expr} {kk : Nat} (hg : Gl X "enumerate") (hm : X.mg "enumerate" = none) (ha : PA X [e] ta) (hs : starEach [e] X.env = [(false, eval e X.env)] := by rfl) :
    PI X (.Tuple elts kk tpos) (.Call (.Name "enumerate" p) [e] [] pos) (fun σ H R => ta σ H fun vs H1 => ∃ k a xs, vs = [.ref a] ∧ Sq X.K H1 k a xs ∧ R (ItE X.K k a) H1) := by
  refine ⟨fun pins s σ H R I h => ?_⟩
  refine Call_ (ld_blt I hg hm boot_enumerate (PyProof.Rows.callWith_type1 (thn (ha.run pos pins s σ H _ I h) fun us s1 ⟨vs, H1, I1, r1, q1⟩ => ?_) hs rfl))
  obtain ⟨k, a, xs, ex, hq, q⟩ := q1
  subst ex
  cases r1 with
  | cons r rr =>
    cases rr
    cases r
    obtain ⟨its, rv, p', hz⟩ := Inv.sq I1 hq
    have hal := Inv.sq_lt I1 hq
    refine enum_begins1 (sq_begins k a its.toArray) p' fun h' he hit hsz hk => wpAny_pyIter_enum he ?_
    have I2 : Inv X pins σ H1 { s1 with heap := h' } := I1.kept (t' := s1.toks) hk
    refine ⟨s1.heap.objs.size + 1, [s1.heap.objs.size + 1, s1.heap.objs.size], _, _, H1, rfl, I2, turn_enumX k a (s1.heap.objs.size + 1) s1.heap.objs.size, ⟨⟨.none, he⟩, .start hit, Nat.succ_ne_self _, Nat.ne_of_lt hal, Nat.ne_of_lt (Nat.lt_succ_of_lt hal)⟩, fun b hb => ?_, q⟩
    have e' : b = s1.heap.objs.size + 1 ∨ b = s1.heap.objs.size := by simpa using hb
    have hle : s1.heap.objs.size ≤ b := by
      rcases e' with z | z
      · rw [z]; exact Nat.le_add_right _ _
      · rw [z]; exact Nat.le_refl _
    exact I1.fpOk hle (I1.hok.fresh hle)

/-! ### zip -/
def ItZ (K : PySem.W.Frag) (k l : Bool) (a b : Addr) : It :=
  ⟨fun i H => ∃ (xs ys : List V) (x y : V), Sq K H k a xs ∧ Sq K H l b ys ∧ xs[i]? = some x ∧ ys[i]? = some y,
    fun i H v H' => ∃ T x y, v = .ref T ∧ H T = none ∧ H' = upd H T (.tup [x, y]) ∧ (∀ xs, Sq K H k a xs → xs[i]? = some x) ∧ ∀ ys, Sq K H l b ys → ys[i]? = some y,
    fun i H => ∃ xs ys : List V, Sq K H k a xs ∧ Sq K H l b ys ∧ min xs.length ys.length = i⟩
theorem turn_zipX {P : Program} {w : World} {K : PySem.W.Frag} {elts : List Expr} {kk : Nat} {tpos : Pos} (k l : Bool) {a b z TI TO i1 i2 : Addr} (S : ZipSep2 z TI TO i1 i2 [i1, a] [i2, b]) (ha : a ≠ i1) (hb : b ≠ i2) :
    Turn P w K (.Tuple elts kk tpos) (ItZ K k l a b) [z, TI, TO, i1, i2] z (fun i h => IsZip h z TI TO .none ∧ IsTupOf2 h TI (.ref i1) (.ref i2) ∧ (∃ x y, IsTupOf2 h TO x y) ∧ IsIt k h i1 a i ∧ IsIt l h i2 b i) where
  mem := by simp
  obj := fun i h st c hc => by
    obtain ⟨hz, hTI, ⟨x, y, hTO⟩, h1, h2⟩ := st
    have e' : c = z ∨ c = TI ∨ c = TO ∨ c = i1 ∨ c = i2 := by simpa using hc
    rcases e' with q | q | q | q | q
    · rw [q]; exact ⟨_, hz, fun v q => nomatch q⟩
    · rw [q]; exact ⟨_, hTI, fun v q => nomatch q⟩
    · rw [q]; exact ⟨_, hTO, fun v q => nomatch q⟩
    · rw [q]; exact h1.obj
    · rw [q]; exact h2.obj
  keep := fun i h h' st kp => by
    obtain ⟨hz, hTI, ⟨x, y, hTO⟩, h1, h2⟩ := st
    exact ⟨kp z (by simp) _ hz, kp TI (by simp) _ hTI, ⟨x, y, kp TO (by simp) _ hTO⟩, h1.at fun o q => kp i1 (by simp) o q, h2.at fun o q => kp i2 (by simp) o q⟩
  item := by
    intro X hP hw hK hc i pins s σ H E I hf st hg
    subst hP hw hK
    obtain ⟨hz, hTI, ⟨x0, y0, hTO⟩, h1, h2⟩ := st
    obtain ⟨xs, ys, x, y, hqx, hqy, hx, hy⟩ := hg
    obtain ⟨its, rv, p, _⟩ := Inv.sq I hqx
    obtain ⟨its2, rv2, p2, _⟩ := Inv.sq I hqy
    obtain ⟨u, hu, ru⟩ := rv.get hx
    obtain ⟨u2, hu2, ru2⟩ := rv2.get hy
    have hzl : z < s.heap.objs.size := Heap.lt_size hz
    have l1 : i < its.toArray.size := by simpa using (List.getElem?_eq_some_iff.mp hu).1
    have l2 : i < its2.toArray.size := by simpa using (List.getElem?_eq_some_iff.mp hu2).1
    refine wpAny_pyNext_zipD2_item S (sq_draws (A := X.A.in1) (show X.A.in1.handled = none from I.ok.hd hc) k i1 a ha its.toArray) (sq_draws (A := X.A.in1) (show X.A.in1.handled = none from I.ok.hd hc) l i2 b hb its2.toArray) hz hTI hTO ⟨h1, p⟩ ⟨h2, p2⟩ l1 l2 fun v v2 h' tk e1 e2 z' TO' st1 st2 hT hsz hk => ?_
    have ev : v = u := Option.some.inj (e1.symm.trans (by simpa using hu))
    have ev2 : v2 = u2 := Option.some.inj (e2.symm.trans (by simpa using hu2))
    subst ev ev2
    refine ⟨_, rfl, wpAny_letOwnedTupleGo_zip (s := { s with heap := h', toks := tk }) z' fun h'' z'' sb => ?_⟩
    have hT2 : h''.get? s.heap.objs.size = some { cls := .type "tuple", data := .seq #[v, v2] } := (sb.2 _ (Nat.ne_of_gt hzl)).trans hT
    have new : ObjOk X.prog X.w (upd H s.heap.objs.size (.tup [x, y])) h'' s.heap.objs.size (.tup [x, y]) :=
      ⟨by show 2 ≤ sizeLine; decide, [v, v2], .cons ru (.cons ru2 .nil), ⟨_, hT2, rfl, _, rfl⟩⟩
    have I1 : Inv X pins σ (upd H s.heap.objs.size (.tup [x, y])) { s with heap := h'', toks := tk } :=
      I.turnedNew (ch := [z, TI, TO, i1, i2]) (fun c o hb q => (sb.2 c (fun q' => hb (by simp [q']))).trans (hk c o (fun q' => hb (by simp [q'])) (fun q' => hb (by simp [q'])) (fun q' => hb (by simp [q'])) (fun q' => hb (by simp [q'])) q)) hf (Nat.le_refl _) new
    refine ⟨.ref s.heap.objs.size, _, I1, rfl, ⟨_, x, y, rfl, I.hok.fresh (Nat.le_refl _), rfl, fun l hl => by rw [Inv.sq_inj I hl hqx]; exact hx, fun l hl => by rw [Inv.sq_inj I hl hqy]; exact hy⟩, ⟨z'', ?_, ⟨v, v2, ?_⟩, ?_, ?_⟩, fun c hcm => ?_⟩
    · exact (sb.2 _ S.TIz).trans (hk _ _ S.TIz S.TITO S.TIi1 S.TIi2 hTI)
    · exact (sb.2 _ S.TOz).trans TO'
    · exact st1.1.at fun o q => (sb.2 _ S.zi1.symm).trans q
    · exact st2.1.at fun o q => (sb.2 _ S.zi2.symm).trans q
    · have hlt : c < s.heap.objs.size := by
        have e' : c = z ∨ c = TI ∨ c = TO ∨ c = i1 ∨ c = i2 := by simpa using hcm
        rcases e' with q | q | q | q | q
        · rw [q]; exact hzl
        · rw [q]; exact Heap.lt_size hTI
        · rw [q]; exact Heap.lt_size hTO
        · rw [q]; obtain ⟨_, e1, _⟩ := h1.obj; exact Heap.lt_size e1
        · rw [q]; obtain ⟨_, e2, _⟩ := h2.obj; exact Heap.lt_size e2
      rw [upd_ne (Nat.ne_of_lt hlt)]
      exact (hf c hcm).1
  done := by
    intro X hP hw hK hc i pins s σ H E I hf st hg
    subst hP hw hK
    obtain ⟨hz, hTI, ⟨x0, y0, hTO⟩, h1, h2⟩ := st
    obtain ⟨xs, ys, hqx, hqy, hend⟩ := hg
    obtain ⟨its, rv, p, _⟩ := Inv.sq I hqx
    obtain ⟨its2, rv2, p2, _⟩ := Inv.sq I hqy
    have l1 := rv.length
    have l2 := rv2.length
    have s1 : its.toArray.size = xs.length := by simp [l1]
    have s2 : its2.toArray.size = ys.length := by simp [l2]
    exact wpAny_pyNext_zipD2_end S (sq_draws (A := X.A.in1) (show X.A.in1.handled = none from I.ok.hd hc) k i1 a ha its.toArray) (sq_draws (A := X.A.in1) (show X.A.in1.handled = none from I.ok.hd hc) l i2 b hb its2.toArray) hz hTI hTO ⟨h1, p⟩ ⟨h2, p2⟩ (by omega) (by omega) (by omega) fun h' tk hk => ⟨rfl, I.turnedL (ch := [z, TI, TO, i1, i2]) (fun c o hb q =>
      hk c o (fun q' => hb (by simp [q'])) (fun q' => hb (by simp [q'])) (fun q' => hb (by simp [q'])) (fun q' => hb (by simp [q'])) q) hf⟩
  self := fun A i s Q E st h => wpAny_pyIter_zip st.1 h
theorem pi_zipX {X : Cx} {e e2 : Expr} {ta : TA} {p pos tpos : Pos} {elts : List Expr} {kk : Nat} (hg : Gl X "zip") (hm : X.mg "zip" = none) (ha : PA X [e, e2] ta)
    (hs : starEach [e, e2] X.env = (false, eval e X.env) :: starEach [e2] X.env := by rfl) (hpl : (backTo pos (starEach [e2] X.env)).any (·.1) = false := by rfl) :
    PI X (.Tuple elts kk tpos) (.Call (.Name "zip" p) [e, e2] [] pos) (fun σ H R => ta σ H fun vs H1 => ∃ k l a b xs ys, vs = [.ref a, .ref b] ∧ Sq X.K H1 k a xs ∧ Sq X.K H1 l b ys ∧ R (ItZ X.K k l a b) H1) := by
  refine ⟨fun pins s σ H R I h => ?_⟩
  refine Call_ (ld_blt I hg hm PyProof.Rows.boot_zip (PyProof.Rows.callWith_type1 (thn (ha.run pos pins s σ H _ I h) fun us s1 ⟨vs, H1, I1, r1, q1⟩ => ?_) hs hpl))
  obtain ⟨k, l, a, b, xs, ys, ex, hqx, hqy, q⟩ := q1
  subst ex
  cases r1 with
  | cons r rr =>
    cases rr with
    | cons r' rr =>
      cases rr
      cases r
      cases r'
      have fresh5 : ∀ c, c ∈ [s1.heap.objs.size + 4, s1.heap.objs.size + 2, s1.heap.objs.size + 3, s1.heap.objs.size, s1.heap.objs.size + 1] → FpOk X pins H1 c := fun c hcm => by
        have e' : c = s1.heap.objs.size + 4 ∨ c = s1.heap.objs.size + 2 ∨ c = s1.heap.objs.size + 3 ∨ c = s1.heap.objs.size ∨ c = s1.heap.objs.size + 1 := by simpa using hcm
        have hle : s1.heap.objs.size ≤ c := by
          rcases e' with z | z | z | z | z
          · rw [z]; exact Nat.le_add_right _ _
          · rw [z]; exact Nat.le_add_right _ _
          · rw [z]; exact Nat.le_add_right _ _
          · rw [z]; exact Nat.le_refl _
          · rw [z]; exact Nat.le_add_right _ _
        exact I1.fpOk hle (I1.hok.fresh hle)
      obtain ⟨its, rv, p1, _⟩ := Inv.sq I1 hqx
      obtain ⟨its2, rv2, p2, _⟩ := Inv.sq I1 hqy
      have ha' := Inv.sq_lt I1 hqx
      have hb' := Inv.sq_lt I1 hqy
      refine zip_begins2 (sq_begins k a its.toArray) (sq_begins l b its2.toArray) p1 p2 fun h' hz hTI hTO h1 h2 hsz hk => wpAny_pyIter_zip hz ?_
      have I2 : Inv X pins σ H1 { s1 with heap := h' } := I1.kept (t' := s1.toks) hk
      exact ⟨s1.heap.objs.size + 4, [s1.heap.objs.size + 4, s1.heap.objs.size + 2, s1.heap.objs.size + 3, s1.heap.objs.size, s1.heap.objs.size + 1], _, _, H1, rfl, I2,
        turn_zipX k l (zip_sep2 (fun c hc => by have e : c = a := by simpa using hc
                                                rw [e]; exact ha') (fun c hc => by have e : c = b := by simpa using hc
                                                                                   rw [e]; exact hb')) (Nat.ne_of_lt ha') (Nat.ne_of_lt (Nat.lt_succ_of_lt hb')), ⟨hz, hTI, ⟨_, _, hTO⟩, .start h1, .start h2⟩, fresh5, q⟩

/-! ### by data -/
section
variable {Y : Yx} {elts : List Expr} {kk : Nat} {tpos p pos : Pos}
/-- an item's items, as they stand -/
theorem items_sq {K : PySem.W.Frag} {H : Hp} {g : G} (R : RepG K H g) {x : V} {d : D} {ds : List D} (r : Rep K H x d) (h : items g d = some ds) : ∃ k a, x = .ref a ∧ ∀ H' g', RepG K H' g' → Rep K H' x d → items g' d = some ds → ∃ xs, Sq K H' k a xs ∧ RepL K H' xs ds := by
  cases r with
  | v x =>
    obtain ⟨a, xs, rfl, hx, l⟩ := items_rep R (.v x) h
    refine ⟨true, a, rfl, fun H' g' R' r' h' => ?_⟩
    have hg : g'.o a = some (.lst ds) := by
      unfold items at h'
      cases q : g'.o a with
      | none => simp [q] at h'
      | some m => cases m <;> simp [q] at h'; subst h'; rfl
    obtain ⟨ys, h1, l1⟩ := R'.obj a _ hg
    exact ⟨ys, SqL.of h1, l1⟩
  | t h1 l1 =>
    cases h
    exact ⟨false, _, rfl, fun H' g' R' r' h' => by
      cases r' with
      | t h2 l2 => exact ⟨_, h2.sq, l2⟩⟩
  | k h1 l1 =>
    cases h
    exact ⟨false, _, rfl, fun H' g' R' r' h' => by
      cases r' with
      | k h2 l2 => exact ⟨_, SqT.of h2, l2⟩⟩
def pairs (f : Nat → Option D) : Nat → List D := fun n => (List.range n).filterMap f
def enumD (ds : List D) : List D := (List.range ds.length).map fun i => .k [.v (.int (i : Nat)), ds.getD i (.v .non)]
def zipD (xs ys : List D) : List D := List.zipWith (fun a b => .k [a, b]) xs ys
theorem enumD_len {ds : List D} : (enumD ds).length = ds.length := by simp [enumD]
theorem enumD_get {ds : List D} {i : Nat} {d : D} (h : (enumD ds)[i]? = some d) : ∃ e, ds[i]? = some e ∧ d = .k [.v (.int (i : Nat)), e] := by
  have hi : i < ds.length := by
    have := (List.getElem?_eq_some_iff.mp h).1
    rwa [enumD_len] at this
  simp [enumD, List.getElem?_map, List.getElem?_range, hi] at h
  exact ⟨ds[i], List.getElem?_eq_getElem hi, h.symm⟩
def iEnumD (te : TE') : TI' := fun e g Q => te e g fun d g1 => ∃ ds, items g1 d = some ds ∧ Q ⟨enumD ds, fun g => items g d = some ds⟩ g1
theorem qi_enum {e : Expr} {te : TE'} (hg : Gl Y.X "enumerate") (hm : Y.X.mg "enumerate" = none) (ha : QE Y e te) (hs : starEach [e] Y.X.env = [(false, eval e Y.X.env)] := by rfl) (hs' : starEach [e] Y.X.env = (false, eval e Y.X.env) :: starEach [] Y.X.env := by rfl) : QI Y (.Tuple elts kk tpos) (.Call (.Name "enumerate" p) [e] [] pos) (iEnumD te) :=
  ⟨PI.imp (pi_enumX hg hm (pa_cons ha.pe pa_nil hs') hs) fun σ H R' ⟨ev, g, Q, S, w, kk⟩ => ⟨ev, g, _, S, w, fun x H1 ⟨d, g1, st, R, r, ds, hi, q⟩ => by
    obtain ⟨k, a, rfl, f⟩ := items_sq R r hi
    obtain ⟨xs, hx, l⟩ := f H1 g1 R r hi
    refine ⟨k, a, xs, rfl, hx, kk _ _ ⟨enumD ds, fun g => items g d = some ds⟩ g1 st R hi (fun i H2 g2 st2 R2 ok2 => ?_) q⟩
    have tu := st2.tu R
    obtain ⟨ys, h2, l2⟩ := f H2 g2 R2 (r.keep tu) ok2
    refine ⟨fun d' hd => ?_, fun hle => ⟨ys, h2, ?_⟩⟩
    · obtain ⟨e, he, rfl⟩ := enumD_get hd
      obtain ⟨y, ey, ry⟩ := l2.get he
      refine ⟨⟨ys, y, h2, ey⟩, fun z H' ⟨T, x, ez, hT, eH, hx'⟩ => ?_⟩
      subst ez eH
      have e2 := (hx' ys h2).symm.trans ey
      cases e2
      exact ⟨Step.fresh hT, R2.fresh hT, .k upd_same (.cons (.v _) (.cons (ry.keep ((Step.fresh (g := g2) hT).tu R2)) .nil))⟩
    · rw [enumD_len] at hle
      rw [l2.length, hle]⟩⟩
theorem zipD_get {xs ys : List D} {i : Nat} {d : D} (h : (zipD xs ys)[i]? = some d) : ∃ a b, xs[i]? = some a ∧ ys[i]? = some b ∧ d = .k [a, b] := by
  unfold zipD at h
  rw [List.getElem?_zipWith] at h
  cases e1 : xs[i]? with
  | none => rw [e1] at h; cases h
  | some a =>
    cases e2 : ys[i]? with
    | none => rw [e1, e2] at h; cases h
    | some b =>
      rw [e1, e2] at h
      exact ⟨a, b, rfl, rfl, (Option.some.inj h).symm⟩
def iZipD (t : TL') : TI' := fun e g Q => t e g fun ds g1 => ∃ d1 d2 xs ys, ds = [d1, d2] ∧ items g1 d1 = some xs ∧ items g1 d2 = some ys ∧ Q ⟨zipD xs ys, fun g => items g d1 = some xs ∧ items g d2 = some ys⟩ g1
theorem qi_zip {e e2 : Expr} {t : TL'} (hg : Gl Y.X "zip") (hm : Y.X.mg "zip" = none) (ha : QA Y [e, e2] t) (hs : starEach [e, e2] Y.X.env = (false, eval e Y.X.env) :: starEach [e2] Y.X.env := by rfl) (hpl : (backTo pos (starEach [e2] Y.X.env)).any (·.1) = false := by rfl) :
    QI Y (.Tuple elts kk tpos) (.Call (.Name "zip" p) [e, e2] [] pos) (iZipD t) :=
  ⟨PI.imp (pi_zipX hg hm ha.pa hs hpl) fun σ H R' ⟨ev, g, Q, S, w, kk⟩ => ⟨ev, g, _, S, w, fun vs H1 ⟨ds, g1, st, R, l, d1, d2, xs, ys, ed, hi1, hi2, q⟩ => by
    subst ed
    cases l with
    | cons r1 l =>
      cases l with
      | cons r2 l =>
        cases l
        obtain ⟨k1, a, rfl, f1⟩ := items_sq R r1 hi1
        obtain ⟨k2, b, rfl, f2⟩ := items_sq R r2 hi2
        obtain ⟨vs, hx, lx⟩ := f1 H1 g1 R r1 hi1
        obtain ⟨us, hy, ly⟩ := f2 H1 g1 R r2 hi2
        refine ⟨k1, k2, a, b, vs, us, rfl, hx, hy, kk _ _ ⟨zipD xs ys, fun g => items g d1 = some xs ∧ items g d2 = some ys⟩ g1 st R ⟨hi1, hi2⟩ (fun i H2 g2 st2 R2 ok2 => ?_) q⟩
        have tu := st2.tu R
        obtain ⟨zs, h2, l2⟩ := f1 H2 g2 R2 (r1.keep tu) ok2.1
        obtain ⟨ws, h3, l3⟩ := f2 H2 g2 R2 (r2.keep tu) ok2.2
        refine ⟨fun d' hd => ?_, fun hle => ⟨zs, ws, h2, h3, ?_⟩⟩
        · obtain ⟨e, e', he, he', rfl⟩ := zipD_get hd
          obtain ⟨y, ey, ry⟩ := l2.get he
          obtain ⟨y', ey', ry'⟩ := l3.get he'
          refine ⟨⟨zs, ws, y, y', h2, h3, ey, ey'⟩, fun z H' ⟨T, x, x', ez, hT, eH, hx1, hx2⟩ => ?_⟩
          subst ez eH
          have e2 := (hx1 zs h2).symm.trans ey
          have e3 := (hx2 ws h3).symm.trans ey'
          cases e2
          cases e3
          have tu2 := fun o => (Step.fresh (g := g2) (o := o) hT).tu R2
          exact ⟨Step.fresh hT, R2.fresh hT, .k upd_same (.cons (ry.keep (tu2 _)) (.cons (ry'.keep (tu2 _)) .nil))⟩
        · rw [l2.length, l3.length, hle]
          simp [zipD]⟩⟩
end
end SK
end
section
set_option maxHeartbeats 4000000
namespace SK
open PySem PySem.Spec PyProof.Rows L2

/-! ### comprehensions -/
def wipeE (e : Ev) : List Nat → Ev
  | [] => e
  | v :: vs => (wipeE e vs).set v none
theorem wipe_get (σ : L2.St) : ∀ (vs : List Nat) (i : Nat), (wipe σ vs)[i]? = if i ∈ vs then (if i < σ.length then some none else none) else σ[i]?
  | [], i => by simp [wipe]
  | v :: vs, i => by
    show ((wipe σ vs).set v none)[i]? = _
    by_cases h : v = i
    · subst h
      rw [List.getElem?_set, if_pos rfl, wipe_length]
      simp
    · rw [List.getElem?_set_ne h, wipe_get σ vs i]
      have e : (i ∈ v :: vs) ↔ i ∈ vs := by simp [Ne.symm h]
      simp [e]
theorem wipe_again {σ σ2 : L2.St} {vs ts : List Nat} (h : ∀ i, i ∉ ts → σ2[i]? = (wipe σ vs)[i]?) (hl : σ2.length = (wipe σ vs).length) (hs : ∀ i ∈ ts, i ∈ vs) : wipe σ2 vs = wipe σ vs := by
  apply List.ext_getElem?
  intro i
  rw [wipe_get, wipe_get]
  rw [wipe_length] at hl
  by_cases hi : i ∈ vs
  · rw [if_pos hi, if_pos hi, hl]
  · rw [if_neg hi, if_neg hi, h i fun z => hi (hs i z), wipe_get, if_neg hi]
theorem wipe_wipe (σ : L2.St) (vs : List Nat) : wipe (wipe σ vs) vs = wipe σ vs := wipe_again (ts := []) (fun _ _ => rfl) rfl (fun _ h => by cases h)
theorem RepE.wipe {K : PySem.W.Frag} {H : Hp} {σ : L2.St} {e : Ev} (h : RepE K H σ e) : ∀ vs : List Nat, RepE K H (L2.wipe σ vs) (wipeE e vs)
  | [] => h
  | v :: vs => by
    obtain ⟨h1, h2⟩ := RepE.wipe h vs
    refine ⟨by show ((L2.wipe σ vs).set v none).length = ((wipeE e vs).set v none).length; rw [List.length_set, List.length_set]; exact h1, fun i d q => ?_⟩
    have q : ((wipeE e vs).set v none)[i]? = some (some d) := q
    show ∃ x, ((L2.wipe σ vs).set v none)[i]? = _ ∧ _
    by_cases hv : v = i
    · subst hv
      rw [List.getElem?_set, if_pos rfl] at q
      split at q <;> cases q
    · rw [List.getElem?_set_ne hv] at q ⊢
      exact h2 i d q
def compD (ok : G → Prop) (gd : TG') (tt : TB') (te : TE') (e0 : Ev) : List D → List D → G → (List D → G → Prop) → Prop
  | [], acc, g, Q => Q acc g
  | d :: r, acc, g, Q => gd d e0 g fun e2 g2 => tt e2 g2 fun b g3 => if b = true then te e2 g3 fun y g4 => ok g4 ∧ compD ok gd tt te e0 r (acc ++ [y]) g4 Q else ok g3 ∧ compD ok gd tt te e0 r acc g3 Q
def uComp (wi : TI') (gd : TG') (tt : TB') (te : TE') (vs : List Nat) : TL' := fun e g Q => wi e g fun S g1 => S.ds.length ≤ sizeLine ∧ compD S.ok gd tt te (wipeE e vs) S.ds [] g1 Q
structure QTs (Y : Yx) (es : List Expr) (t : TB') : Prop where
  pt : PTs Y.X es (TTB Y.b t)
theorem qts_nil {Y : Yx} : QTs Y [] (fun _ g Q => Q true g) := ⟨⟨fun p s σ H Q' I ⟨e, g, Q, S, w, k⟩ => pts_nil.run p s σ H Q' I (k _ _ (.here S.rg w))⟩⟩
theorem qts_one {Y : Yx} {c : Expr} {t : TB'} (h : QT Y c t) : QTs Y [c] t := ⟨pts_one h.pt⟩
theorem Step.hide {H0 H : Hp} {g0 g : G} {p : Addr} {o : HO} (st : Step H0 g0 H g) (h : H0 p = none) : Step H0 g0 (upd H p o) g :=
  ⟨fun b u e n => (upd_ne (ne_of_none e h)).trans (st.keep b u e n), st.dom, fun b e => st.there b (upd_none e)⟩
theorem tu_hide {K : PySem.W.Frag} {H : Hp} {p : Addr} {xs ys : List V} (hp : H p = some (.lst xs)) : Tu K H (upd H p (.lst ys)) := by
  refine ⟨fun b zs h => ?_, fun b zs h => (upd_ne (fun z => by rw [z, hp] at h; cases h)).trans h⟩
  rcases h with ⟨o, h, d⟩ | h
  · exact .inl ⟨o, (upd_ne (fun z => by rw [z, hp] at h; cases h)).trans h, d⟩
  · exact .inr h
theorem RepG.hide {K : PySem.W.Frag} {H : Hp} {g : G} {p : Addr} {xs ys : List V} (R : RepG K H g) (n : g.new p) (hp : H p = some (.lst xs)) : RepG K (upd H p (.lst ys)) g := by
  refine ⟨fun a m q => (R.obj a m q).keep (tu_hide hp) fun u e => (upd_ne (fun z => by rw [z, n.1] at q; cases q)).trans e, fun pa ca q => ?_, fun a ns q => (R.scr a ns q).keep fun o u e => (upd_ne (fun z => by rw [z, hp] at e; cases e)).trans e⟩
  obtain ⟨n1, n2, ne, cs, i, c, e1, e2, z⟩ := R.pen pa ca q
  exact ⟨n1, n2, ne, cs, i, c, (upd_ne (fun z => n.2 ⟨pa, ca, q, .inl z.symm⟩)).trans e1, (upd_ne (fun z => n.2 ⟨pa, ca, q, .inr z.symm⟩)).trans e2, z⟩
theorem Sm.hide {Y : Yx} {σ : L2.St} {H : Hp} {e : Ev} {g : G} {p : Addr} {xs ys : List V} (S : Sm Y.b σ H e g) (n : g.new p) (hp : H p = some (.lst xs)) (h0 : Y.H0 p = none) : Sm Y.b σ (upd H p (.lst ys)) e g :=
  ⟨S.st.hide h0, S.re.keep (tu_hide hp), S.rg.hide n hp⟩

/-- a block's context -/
abbrev Yx.blk (Y : Yx) (s : Shared) (H : Hp) (scope : Scope) (cenv : Env) (fp : List Addr) : Yx := { Y with X := Y.X.blk s H scope cenv fp }
section
variable {Y : Yx} {elt tg iter : Expr} {ifs : List Expr} {scope : Scope} {own : List (Str × Nat)} {pos : Pos} {wi : TI'} {gd : TG'} {tt : TB'} {te : TE'} {ts : List Nat}
theorem comp_core {σ : L2.St} {H : Hp} {ev : Ev} {g : G} {Q : List D → G → Prop} {Q' : VK} {vs : List Nat} (hts : ∀ i ∈ ts, i ∈ vs) (S : Sm Y.b σ H ev g) (w : uComp wi gd tt te vs ev g Q)
    (k : ∀ p xs H' ds g', Step H g H' g' → RepG Y.X.K H' g' → RepL Y.X.K H' xs ds → H' p = some (.lst xs) → g'.new p → H p = none → Q ds g' → Q' (.ref p) H') :
    tLc (TQI Y.b wi) (TQG Y.b ts gd) (TTB Y.b tt) (TQ Y.b te) vs σ H Q' := by
  refine ⟨ev, g, _, S, w, fun J H1 Sr g1 st R ok sim ⟨hlen, q⟩ => fun Dd hD => ?_⟩
  have S1 := S.next st R
  have h0D : H Dd = none := st.there _ hD
  have hYD : Y.H0 Dd = none := S.st.there _ h0D
  refine ⟨fun i m H2 => ∃ g2 acc xs, Step H1 g1 H2 g2 ∧ RepG Y.X.K H2 g2 ∧ Sr.ok g2 ∧ H2 Dd = some (.lst xs) ∧ RepL Y.X.K H2 xs acc ∧ g2.new Dd ∧ m + i = Sr.ds.length ∧ acc.length ≤ i ∧ compD Sr.ok gd tt te (wipeE ev vs) (Sr.ds.drop i) acc g2 Q,
    ⟨Sr.ds.length, g1, [], [], Step.refl.hide hD, R.fresh hD, ok, upd_same, .nil, R.new_of hD, rfl, Nat.le_refl _, q⟩, ?_⟩
  rintro i m H2 ⟨g2, acc, xs, st2, R2, ok2, hp, l, nw, hm, hacc, w2⟩
  by_cases hi : i < Sr.ds.length
  · have hd : Sr.ds[i]? = some Sr.ds[i] := List.getElem?_eq_getElem hi
    rw [List.drop_eq_getElem_cons hi] at w2
    obtain ⟨go, yl⟩ := (sim i H2 g2 st2 R2 ok2).1 _ hd
    refine .inr ⟨go, fun H3 => ∃ g3 acc' xs', Step H1 g1 H3 g3 ∧ RepG Y.X.K H3 g3 ∧ Sr.ok g3 ∧ H3 Dd = some (.lst xs') ∧ RepL Y.X.K H3 xs' acc' ∧ g3.new Dd ∧ acc'.length ≤ i + 1 ∧ compD Sr.ok gd tt te (wipeE ev vs) (Sr.ds.drop (i + 1)) acc' g3 Q, ?_, fun x H3 hy => ?_⟩
    · rintro H3 ⟨g3, acc', xs', a1, a2, a3, a4, a5, a6, a7, a8⟩
      exact ⟨m - 1, by omega, g3, acc', xs', a1, a2, a3, a4, a5, a6, by omega, a7, a8⟩
    · obtain ⟨st3, R3, rx⟩ := yl x H3 hy
      have st13 := st2.trans st3
      have hp3 := st3.keep _ _ hp fun d => d.elim (fun z => z nw.1) nw.2
      have S3 : Sm Y.b (L2.wipe σ vs) H3 (wipeE ev vs) g2 := ⟨S1.st.trans st13, (S1.re.wipe vs).keep (st13.tu R), R3⟩
      refine ⟨_, _, g2, _, S3, rx, w2, fun σ2 H4 e2 g4 h2 hl2 S4 st4 q4 => ⟨wipe_again h2 hl2 hts, e2, g4, _, S4, q4, fun b H5 ⟨g5, st5, R5, q5⟩ => ?_⟩⟩
      have l3 := l.keep (st3.tu R2)
      have hp4 := st4.keep _ _ hp3 fun d => d.elim (fun z => z nw.1) nw.2
      have nw4 : g4.new Dd := G.not_new fun d => by
        rcases st4.dom _ d with d | d
        · exact d.elim (fun z => z nw.1) nw.2
        · rw [hp3] at d; cases d
      have l4 := l3.keep (st4.tu R3)
      have hp5 := st5.keep _ _ hp4 fun d => d.elim (fun z => z nw4.1) nw4.2
      have nw5 : g5.new Dd := G.not_new fun d => by
        rcases st5.dom _ d with d | d
        · exact d.elim (fun z => z nw4.1) nw4.2
        · rw [hp4] at d; cases d
      have l5 := l4.keep (st5.tu S4.rg)
      have st15 := (st13.trans st4).trans st5
      cases b with
      | false =>
        exact ⟨g5, acc, xs, st15, R5, q5.1, hp5, l5, nw5, by omega, q5.2⟩
      | true =>
        refine ⟨e2, g5, _, S4.next st5 R5, q5, fun y H6 ⟨d6, g6, st6, R6, ry, ok6, q6⟩ => ?_⟩
        have hp6 := st6.keep _ _ hp5 fun d => d.elim (fun z => z nw5.1) nw5.2
        have nw6 : g6.new Dd := G.not_new fun d => by
          rcases st6.dom _ d with d | d
          · exact d.elim (fun z => z nw5.1) nw5.2
          · rw [hp5] at d; cases d
        have l6 := l5.keep (st6.tu R5)
        refine ⟨xs, hp6, by rw [l.length]; omega, g6, acc ++ [d6], xs ++ [y], (st15.trans st6).hide hD, R6.hide nw6 hp6, ok6, upd_same, (l6.append (.cons ry .nil)).keep (tu_hide hp6), nw6, by simp; omega, q6⟩
  · have e : i = Sr.ds.length := by omega
    rw [List.drop_of_length_le (by omega)] at w2
    exact .inl ⟨(sim i H2 g2 st2 R2 ok2).2 e, k Dd xs H2 acc g2 (st.trans st2) R2 l hp nw h0D w2⟩
theorem q_comp (hc : Y.X.calm = true) (hN : Y.X.N.Nodup) (hi : QI Y tg iter wi) (ok : BlkOk Y.X.N Y.X.env.scope scope own)
    (hg : ∀ (s : Shared) (H : Hp) (C : Addr) (cl : List (Str × Addr)) (fp : List Addr), QG (Y.blk s H scope (compEnvC scope cl C Y.X.env) fp) tg ts gd) (ht : ∀ (s : Shared) (H : Hp) (C : Addr) (cl : List (Str × Addr)) (fp : List Addr), QTs (Y.blk s H scope (compEnvC scope cl C Y.X.env) fp) ifs tt)
    (he : ∀ (s : Shared) (H : Hp) (C : Addr) (cl : List (Str × Addr)) (fp : List Addr), QE (Y.blk s H scope (compEnvC scope cl C Y.X.env) fp) elt te) (hts : ∀ i ∈ ts, i ∈ own.map (·.2) := by decide) (hs : ∀ x, foldedSetIterable iter Y.X.env x = pure x := by intro _; rfl) :
    QF Y (.ListComp elt [⟨tg, iter, ifs, 0⟩] scope pos) (uComp wi gd tt te (own.map (·.2))) :=
  QF.of (pe_lc (g := TQG Y.b ts gd) (tt := TTB Y.b tt) (te := TQ Y.b te) hc hN hi.pi ok (fun s H C cl fp => (hg s H C cl fp).pg) (fun s H C cl fp => (ht s H C cl fp).pt) (fun s H C cl fp => (he s H C cl fp).pe) hs) fun σ H ev g Q Q' S w k => comp_core hts S w k
end

/-! ### statements -/
structure En where
  nx : Ev → G → Prop
  rt : DK
  bk : Ev → G → Prop := fun _ _ => False
  ct : Ev → G → Prop := fun _ _ => False
abbrev TS' := En → Ev → G → Prop
structure EnOk (B : Bx) (H : Hp) (g : G) (D : En) (Dv : Ends) : Prop where
  nx : ∀ σ' H' e' g', Sm B σ' H' e' g' → Step H g H' g' → D.nx e' g' → Dv.nx σ' H'
  rt : ∀ x H' d g', Step H g H' g' → RepG B.K H' g' → Rep B.K H' x d → D.rt d g' → Dv.rt x H'
  bk : ∀ σ' H' e' g', Sm B σ' H' e' g' → Step H g H' g' → D.bk e' g' → Dv.bk σ' H'
  ct : ∀ σ' H' e' g', Sm B σ' H' e' g' → Step H g H' g' → D.ct e' g' → Dv.ct σ' H'
theorem EnOk.step {B : Bx} {H H1 : Hp} {g g1 : G} {D : En} {Dv : Ends} (h : EnOk B H g D Dv) (st : Step H g H1 g1) : EnOk B H1 g1 D Dv :=
  ⟨fun a b c d e f => h.nx a b c d e (st.trans f), fun a b c d f => h.rt a b c d (st.trans f), fun a b c d e f => h.bk a b c d e (st.trans f), fun a b c d e f => h.ct a b c d e (st.trans f)⟩
def TQS (B : Bx) (t : TS') : TS := fun Dv σ H => ∃ e g D, Sm B σ H e g ∧ t D e g ∧ EnOk B H g D Dv
structure QS (Y : Yx) (st : Stmt) (t : TS') : Prop where
  ps : PS Y.X st (TQS Y.b t)
structure QSs (Y : Yx) (sts : List Stmt) (t : TS') : Prop where
  pss : PSs Y.X sts (TQS Y.b t)
theorem PS.imp {X : Cx} {st : Stmt} {t u : TS} (h : PS X st t) (f : ∀ D σ H, u D σ H → t D σ H) : PS X st u := ⟨fun p s σ H D I q => h.run p s σ H D I (f D σ H q)⟩
theorem PSs.imp {X : Cx} {st : List Stmt} {t u : TS} (h : PSs X st t) (f : ∀ D σ H, u D σ H → t D σ H) : PSs X st u := ⟨fun p s σ H D I q => h.run p s σ H D I (f D σ H q)⟩
section
variable {Y : Yx} {st : Stmt} {rest : List Stmt} {t u : TS'} {e : Expr} {te : TE'} {pos : Pos}
theorem QS.of {T : TS} (h : PS Y.X st T) (f : ∀ Dv σ H e g D, Sm Y.b σ H e g → t D e g → EnOk Y.b H g D Dv → T Dv σ H) : QS Y st t := ⟨PS.imp h fun Dv σ H ⟨e, g, D, S, w, k⟩ => f Dv σ H e g D S w k⟩
theorem QSs.of {T : TS} (h : PSs Y.X rest T) (f : ∀ Dv σ H e g D, Sm Y.b σ H e g → t D e g → EnOk Y.b H g D Dv → T Dv σ H) : QSs Y rest t := ⟨PSs.imp h fun Dv σ H ⟨e, g, D, S, w, k⟩ => f Dv σ H e g D S w k⟩
def sNext : TS' := fun D e g => D.nx e g
def sSeq (t u : TS') : TS' := fun D e g => t { D with nx := u D } e g
theorem qs_nil : QSs Y [] sNext := QSs.of pss_nil fun Dv σ H e g D S w k => k.nx _ _ _ _ S .refl w
theorem qs_cons (h1 : QS Y st t) (h2 : QSs Y rest u) : QSs Y (st :: rest) (sSeq t u) :=
  QSs.of (pss_cons h1.ps h2.pss) fun Dv σ H e g D S w k => ⟨e, g, _, S, w, ⟨fun σ' H' e' g' S' st' q => ⟨e', g', D, S', q, k.step st'⟩, k.rt, k.bk, k.ct⟩⟩
theorem qs_one (h1 : QS Y st t) : QSs Y [st] t := QSs.of (pss_one h1.ps) fun Dv σ H e g D S w k => ⟨e, g, D, S, w, k⟩
theorem qs_pass : QS Y (.Pass pos) sNext := QS.of ps_pass fun Dv σ H e g D S w k => k.nx _ _ _ _ S .refl w
theorem qs_break : QS Y (.Break pos) (fun D e g => D.bk e g) := QS.of ps_break fun Dv σ H e g D S w k => k.bk _ _ _ _ S .refl w
theorem qs_continue : QS Y (.Continue pos) (fun D e g => D.ct e g) := QS.of ps_continue fun Dv σ H e g D S w k => k.ct _ _ _ _ S .refl w
def sDrop (te : TE') : TS' := fun D e g => te e g fun _ g1 => D.nx e g1
theorem qs_expr (he : QE Y e te) (hs : swapsWith e none pos.line Y.X.env = pure false := by rfl) : QS Y (.Expr e pos) (sDrop te) :=
  QS.of (ps_expr he.pe hs) fun Dv σ H ev g D S w k => ⟨ev, g, _, S, w, fun x H' ⟨d, g', st, R, r, q⟩ => k.nx _ _ _ _ (S.next st R) st q⟩
def sRet (te : TE') : TS' := fun D e g => te e g D.rt
theorem qs_ret (he : QE Y e te) : QS Y (.Return (some e) pos) (sRet te) :=
  QS.of (ps_ret he.pe) fun Dv σ H ev g D S w k => ⟨ev, g, _, S, w, fun x H' ⟨d, g', st, R, r, q⟩ => k.rt _ _ _ _ st R r q⟩
theorem qs_retN : QS Y (.Return none pos) (fun D _ g => D.rt (.v .non) g) := QS.of ps_retN fun Dv σ H ev g D S w k => k.rt _ _ _ _ .refl S.rg (.v _) w
def sIf (c : TB') (t u : TS') : TS' := fun D e g => c e g fun b g1 => if b = true then t D e g1 else u D e g1
theorem qs_if {c : Expr} {a b : List Stmt} {tc : TB'} (hc : QT Y c tc) (ha : QSs Y a t) (hb : QSs Y b u) : QS Y (.If c a b pos) (sIf tc t u) :=
  QS.of (ps_if hc.pt ha.pss hb.pss) fun Dv σ H ev g D S w k => ⟨ev, g, _, S, w, fun b H' ⟨g', st, R, q⟩ => by
    cases b with
    | true => exact ⟨ev, g', D, S.next st R, q, k.step st⟩
    | false => exact ⟨ev, g', D, S.next st R, q, k.step st⟩⟩
theorem qs_never : QS Y st (fun _ _ _ => False) := QS.of ps_never fun Dv σ H e g D S w k => w.elim
theorem qss_never : QSs Y rest (fun _ _ _ => False) := QSs.of pss_never fun Dv σ H e g D S w k => w.elim
def sAsg (te : TE') (gd : TG') : TS' := fun D e g => te e g fun d g1 => gd d e g1 D.nx
theorem qs_asg {tg : Expr} {ts : List Nat} {gd : TG'} (he : QE Y e te) (hg : QG Y tg ts gd) (hs : swapsWithSole [tg] e pos.line Y.X.env = pure false := by rfl) (hw : swappedStores [tg] e Y.X.env = pure none := by rfl)
    (h1 : (assignEach [tg] Y.X.env).map (·.2) = [assign tg Y.X.env] := by rfl) : QS Y (.Assign [tg] e pos) (sAsg te gd) :=
  QS.of (ps_asg he.pe hg.pg hs hw h1) fun Dv σ H ev g D S w k => ⟨ev, g, _, S, w, fun x H' ⟨d, g', st, R, r, q⟩ => ⟨d, ev, g', _, S.next st R, r, q, fun σ2 H2 e2 g2 _ _ S2 st2 q2 => k.nx _ _ _ _ S2 (st.trans st2) q2⟩⟩
/-- name = value -/
theorem qs_set (i : Nat) {x : Str} {pos' : Pos} (hN : Y.X.N.Nodup) (he : QE Y e te) (hi : Y.X.N[i]? = some x := by rfl) (hx : Loc Y.X.env.scope x := by first | exact .inl rfl | exact .inr rfl) (hs : swapsWith e (some (.Name x pos')) pos.line Y.X.env = pure false := by rfl) (hf : Y.X.fn x = true ∨ Y.X.env.scope.names.lookup x = some .local := by first | exact .inl rfl | exact .inr rfl) :
    QS Y (.Assign [.Name x pos'] e pos) (sAsg te (vName i)) :=
  QS.of (ps_set hN hi hx he.pe hs hf) fun Dv σ H ev g D S w k => ⟨ev, g, _, S, w, fun x H' ⟨d, g', st, R, r, q⟩ => k.nx _ _ _ _ ((S.next st R).set i r) st q⟩
/-- a, b = x, y -/
def sPar (i j : Nat) (t : TL') : TS' := fun D e g => t e g fun ds g1 => ∃ a b, ds = [a, b] ∧ D.nx ((e.set i (some a)).set j (some b)) g1
theorem qs_par (i j : Nat) {x y : Str} {a b : Expr} {t : TL'} {px py pt : Pos} {kt k2 pt2} (hc : Y.X.calm = true) (hN : Y.X.N.Nodup) (ha : QA Y [a, b] t) (hw : swappedStores [.Tuple [.Name x px, .Name y py] kt pt] (.Tuple [a, b] k2 pt2) Y.X.env = pure (some [x, y]) := by rfl) (hi : Y.X.N[i]? = some x := by rfl) (hj : Y.X.N[j]? = some y := by rfl) (hij : i ≠ j := by decide)
    (hx : Y.X.env.scope.names.lookup x = some .local := by rfl) (hy : Y.X.env.scope.names.lookup y = some .local := by rfl)
    (hs : swapsWithSole [.Tuple [.Name x px, .Name y py] kt pt] (.Tuple [a, b] k2 pt2) pos.line Y.X.env = pure false := by rfl) :
    QS Y (.Assign [.Tuple [.Name x px, .Name y py] kt pt] (.Tuple [a, b] k2 pt2) pos) (sPar i j t) :=
  QS.of (ps_par hc hN hi hj hij hx hy ha.pa hw hs) fun Dv σ H ev g D S w k => ⟨ev, g, _, S, w, fun xs H' ⟨ds, g', st, R, l, a, b, ed, q⟩ => by
    subst ed
    cases l with
    | cons r1 l => cases l with
      | cons r2 l =>
        cases l
        exact ⟨_, _, rfl, k.nx _ _ _ _ (((S.next st R).set i r1).set j r2) st q⟩⟩
/-- name = a comprehension, on one line -/
theorem qs_setLc (i : Nat) {x : Str} {py spos : Pos} {elt tg iter : Expr} {ifs : List Expr} {scope : Scope} {own : List (Str × Nat)} {wi : TI'} {gd : TG'} {tt : TB'} {te : TE'} {ts : List Nat} (hc : Y.X.calm = true) (hN : Y.X.N.Nodup) (hi : QI Y tg iter wi) (ok : BlkOk Y.X.N Y.X.env.scope scope own)
    (hg : ∀ (s : Shared) (H : Hp) (C : Addr) (cl : List (Str × Addr)) (fp : List Addr), QG (Y.blk s H scope (compEnvC scope cl C Y.X.env) fp) tg ts gd) (ht : ∀ (s : Shared) (H : Hp) (C : Addr) (cl : List (Str × Addr)) (fp : List Addr), QTs (Y.blk s H scope (compEnvC scope cl C Y.X.env) fp) ifs tt)
    (he : ∀ (s : Shared) (H : Hp) (C : Addr) (cl : List (Str × Addr)) (fp : List Addr), QE (Y.blk s H scope (compEnvC scope cl C Y.X.env) fp) elt te)
    (hsw : swapsWith (.ListComp elt [⟨tg, iter, ifs, 0⟩] scope pos) (some (.Name x py)) spos.line Y.X.env = pure true := by exact sw_true rfl rfl rfl (by decide +kernel)) (hts : ∀ i ∈ ts, i ∈ own.map (·.2) := by decide) (hy : Y.X.N[i]? = some x := by rfl) (hyl : Y.X.env.scope.names.lookup x = some .local := by rfl)
    (hs : ∀ x, foldedSetIterable iter Y.X.env x = pure x := by intro _; rfl) : QS Y (.Assign [.Name x py] (.ListComp elt [⟨tg, iter, ifs, 0⟩] scope pos) spos) (sAsg (tF (uComp wi gd tt te (own.map (·.2)))) (vName i)) :=
  QS.of (ps_setLc (g := TQG Y.b ts gd) (tt := TTB Y.b tt) (te := TQ Y.b te) hc hN hy hyl hsw hi.pi ok (fun s H C cl fp => (hg s H C cl fp).pg) (fun s H C cl fp => (ht s H C cl fp).pt) (fun s H C cl fp => (he s H C cl fp).pe) hs)
    fun Dv σ H ev g D S w k => comp_core hts S w fun p xs H' ds g' st R l hp nw h0 q => k.nx _ _ _ _ (((S.next (st.track h0) (R.track (m := .lst ds) nw ⟨xs, hp, l⟩))).set i (.v _)) (st.track h0) (q p nw)
/-- name op= e, by data -/
theorem qs_aug (i : Nat) {x : Str} {op : Operator} {ti : TIp} {rd : RD2} {pos' : Pos} (hN : Y.X.N.Nodup) (ho : PIp Y.X op ti) (hrd : ∀ H x y d1 d2 g Q (Q' : VK), RepG Y.X.K H g → Rep Y.X.K H x d1 → Rep Y.X.K H y d2 → rd d1 d2 g Q → (∀ z H', Pst Y.b H g Q z H' → Q' z H') → ti x y H Q') (he : QE Y e te)
    (hi : Y.X.N[i]? = some x := by rfl) (hx : Loc Y.X.env.scope x := by first | exact .inl rfl | exact .inr rfl) (hf : Y.X.fn x = true ∨ Y.X.env.scope.names.lookup x = some .local := by first | exact .inl rfl | exact .inr rfl) :
    QS Y (.AugAssign (.Name x pos') op e pos) (fun D e g => ∃ d, e[i]? = some (some d) ∧ te e g fun d2 g1 => rd d d2 g1 fun z g2 => D.nx (e.set i (some z)) g2) :=
  QS.of (ps_aug hN hi hx he.pe ho hf) fun Dv σ H ev g D S ⟨d, hd, w⟩ k => by
    obtain ⟨x, hx, r⟩ := S.re.2 i d hd
    refine ⟨x, hx, ev, g, _, S, w, fun y H1 ⟨d2, g1, st, R, r2, q⟩ => ?_⟩
    exact hrd _ _ _ _ _ _ _ _ R (r.keep (st.tu S.rg)) r2 q fun z H2 ⟨d3, g2, st2, R2, r3, q2⟩ => k.nx _ _ _ _ (((S.next st R).next st2 R2).set i r3) (st.trans st2) q2
theorem aug_add : ∀ H x y d1 d2 g Q (Q' : VK), RepG Y.X.K H g → Rep Y.X.K H x d1 → Rep Y.X.K H y d2 → kInt (fun i j => .int (i + j)) d1 d2 g Q → (∀ z H', Pst Y.b H g Q z H' → Q' z H') → ipI (fun i j => i + j) x y H Q' := fun H x y d1 d2 g Q Q' R r1 r2 w k => by
  match d1, d2, w with
  | .v (.int i), .v (.int j), w => cases r1; cases r2; exact ⟨i, j, rfl, rfl, k _ _ (.atom R w)⟩

/-! ### for, while -/
def loopD (ok : G → Prop) (gd : TG') (tb : TS') (Z : En) : List D → Ev → G → Prop
  | [], e, g => Z.nx e g
  | d :: r, e, g => gd d e g fun e1 g1 => tb { Z with nx := fun e2 g2 => ok g2 ∧ loopD ok gd tb Z r e2 g2, ct := fun e2 g2 => ok g2 ∧ loopD ok gd tb Z r e2 g2, bk := Z.nx } e1 g1
def sFor (wi : TI') (gd : TG') (tb : TS') : TS' := fun Z e g => wi e g fun S g1 => loopD S.ok gd tb Z S.ds e g1
theorem qs_for {tg iter : Expr} {body : List Stmt} {wi : TI'} {ts : List Nat} {gd : TG'} {tb : TS'} (hp : PassesOwn (model Y.X.prog Y.X.w) Y.X.A Y.X.env Y.X.xe) (hc : Y.X.calm = true) (hi : QI Y tg iter wi) (hg : QG Y tg ts gd) (hb : QSs Y body tb)
    (hs : ∀ x, foldedSetIterable iter Y.X.env x = pure x := by intro _; rfl) : QS Y (.For tg iter body [] pos) (sFor wi gd tb) :=
  QS.of (ps_for hp hc hi.pi hg.pg hb.pss hs) fun Dv σ H ev g D S w k => ⟨ev, g, _, S, w, fun J H1 Sr g1 st R ok sim q => by
    have S1 := S.next st R
    refine ⟨fun i m σ2 H2 => ∃ e2 g2, Sm Y.b σ2 H2 e2 g2 ∧ Step H1 g1 H2 g2 ∧ Sr.ok g2 ∧ m + i = Sr.ds.length ∧ loopD Sr.ok gd tb D (Sr.ds.drop i) e2 g2, ⟨Sr.ds.length, ev, g1, S1, .refl, ok, rfl, q⟩, ?_⟩
    rintro i m σ2 H2 ⟨e2, g2, S2, st2, ok2, hm, w2⟩
    by_cases hi : i < Sr.ds.length
    · have hd : Sr.ds[i]? = some Sr.ds[i] := List.getElem?_eq_getElem hi
      rw [List.drop_eq_getElem_cons hi] at w2
      obtain ⟨go, yl⟩ := (sim i H2 g2 st2 S2.rg ok2).1 _ hd
      refine .inr ⟨go, fun σ3 H3 => ∃ e3 g3, Sm Y.b σ3 H3 e3 g3 ∧ Step H1 g1 H3 g3 ∧ Sr.ok g3 ∧ loopD Sr.ok gd tb D (Sr.ds.drop (i + 1)) e3 g3, ?_, fun x H3 hy => ?_⟩
      · rintro σ3 H3 ⟨e3, g3, a1, a2, a3, a4⟩
        exact ⟨m - 1, by omega, e3, g3, a1, a2, a3, by omega, a4⟩
      · obtain ⟨st3, R3, rx⟩ := yl x H3 hy
        refine ⟨_, e2, g2, _, S2.next st3 R3, rx, w2, fun σ4 H4 e4 g4 _ _ S4 st4 q4 => ⟨e4, g4, _, S4, q4, ?_⟩⟩
        have st14 := (st2.trans st3).trans st4
        exact ⟨fun σ' H' e' g' S' st' ⟨ok', q'⟩ => ⟨e', g', S', st14.trans st', ok', q'⟩, fun x H' d g' st' R' r' q' => k.rt _ _ _ _ ((st.trans st14).trans st') R' r' q',
          fun σ' H' e' g' S' st' q' => k.nx _ _ _ _ S' ((st.trans st14).trans st') q', fun σ' H' e' g' S' st' ⟨ok', q'⟩ => ⟨e', g', S', st14.trans st', ok', q'⟩⟩
    · have e : i = Sr.ds.length := by omega
      rw [List.drop_of_length_le (by omega)] at w2
      exact .inl ⟨(sim i H2 g2 st2 S2.rg ok2).2 e, k.nx _ _ _ _ S2 (st.trans st2) w2⟩⟩
/-- while, by an invariant and a measure -/
def sWhile (tc : TB') (tb : TS') : TS' := fun D e g => ∃ W : Nat → Ev → G → Prop, (∃ m, W m e g) ∧ ∀ m e g, W m e g → tc e g fun b g1 => if b = true then tb { D with nx := fun e2 g2 => ∃ m', m' < m ∧ W m' e2 g2, ct := fun e2 g2 => ∃ m', m' < m ∧ W m' e2 g2, bk := D.nx } e g1 else D.nx e g1
theorem qs_while {c : Expr} {body : List Stmt} {tc : TB'} {tb : TS'} (hp : PassesOwn (model Y.X.prog Y.X.w) Y.X.A Y.X.env Y.X.xe) (hc : QT Y c tc) (hb : QSs Y body tb) : QS Y (.While c body [] pos) (sWhile tc tb) :=
  QS.of (ps_while hp hc.pt hb.pss) fun Dv σ H ev g D S ⟨W, ⟨m0, w0⟩, turn⟩ k => by
    refine ⟨fun m σ2 H2 => ∃ e2 g2, Sm Y.b σ2 H2 e2 g2 ∧ Step H g H2 g2 ∧ W m e2 g2, ⟨m0, ev, g, S, .refl, w0⟩, ?_⟩
    rintro m σ2 H2 ⟨e2, g2, S2, st2, w2⟩
    refine ⟨e2, g2, _, S2, turn m e2 g2 w2, fun b H3 ⟨g3, st3, R3, q3⟩ => ?_⟩
    have st13 := st2.trans st3
    cases b with
    | false => exact k.nx _ _ _ _ (S2.next st3 R3) st13 q3
    | true =>
      refine ⟨fun σ4 H4 => ∃ e4 g4 m', m' < m ∧ Sm Y.b σ4 H4 e4 g4 ∧ Step H g H4 g4 ∧ W m' e4 g4, fun σ4 H4 ⟨e4, g4, m', hm, a, b, c⟩ => ⟨m', hm, e4, g4, a, b, c⟩, e2, g3, _, S2.next st3 R3, q3, ?_⟩
      exact ⟨fun σ' H' e' g' S' st' ⟨m', hm, q'⟩ => ⟨e', g', m', hm, S', st13.trans st', q'⟩, fun x H' d g' st' R' r' q' => k.rt _ _ _ _ (st13.trans st') R' r' q',
        fun σ' H' e' g' S' st' q' => k.nx _ _ _ _ S' (st13.trans st') q', fun σ' H' e' g' S' st' ⟨m', hm, q'⟩ => ⟨e', g', m', hm, S', st13.trans st', q'⟩⟩
end
end SK
end
section
set_option maxHeartbeats 4000000
namespace SK
open PySem PySem.Spec PyProof.Rows L2

/-! ### what a def promises, by data -/
structure RoomG (k : Nat) (A : Around) : Prop where
  r : Room k A
  g : A.guards = some []
theorem RoomG.mono {j k : Nat} {A : Around} (x : RoomG k A) (h : j ≤ k) : RoomG j A := ⟨x.r.mono h, x.g⟩
theorem RoomG.deeper {k : Nat} {A : Around} (x : RoomG (k + 1) A) (env : Env) : RoomG k (A.deeper env) := ⟨x.r.deeper env, x.g⟩
abbrev ExK := Value → Option Addr → G → Prop
abbrev Sp' := List D → G → DK → ExK → Prop
structure FnG (P : Program) (w : World) (K : PySem.W.Frag) (mg : Str → Option Value) (base : Heap) (k : Nat) (f : Addr) (fd : FuncData) (ps : List Str) (sp : Sp') : Prop where
  len : ∀ ds g Q E, sp ds g Q E → ds.length = ps.length
  run : ∀ (A : Around) (outer : List Env) (s : Shared) (H : Hp) (args : Args) (us : List Value) (vs : List V) (ds : List D) (g : G) (Q : DK) (E : ExK) (Q' : VK) (E' : XK), RoomG k A → Env0 P w K mg base A outer s H → BindsTo s fd args (ps.zip us) → Vals vs us →
    RepG K H g → RepL K H vs ds → sp ds g Q E → (∀ x H', Pst ⟨K, H, g⟩ H g Q x H' → Q' x H') → (∀ c dx H' g', Step H g H' g' → RepG K H' g' → E c dx g' → E' c dx H') →
    codeAny (model P w) A (.call (.ref f) args) (CR (L2.CX P w) outer P w H s Q' E') s
theorem FnG.imp {P : Program} {w : World} {K : PySem.W.Frag} {mg : Str → Option Value} {base : Heap} {j k : Nat} {f : Addr} {fd : FuncData} {ps : List Str} {sp sp' : Sp'} (F : FnG P w K mg base j f fd ps sp) (hk : j ≤ k) (h : ∀ ds g Q E, sp' ds g Q E → sp ds g Q E) : FnG P w K mg base k f fd ps sp' :=
  ⟨fun ds g Q E q => F.len ds g Q E (h _ _ _ _ q), fun A outer s H args us vs ds g Q E Q' E' hr e0 hb r R l q => F.run A outer s H args us vs ds g Q E Q' E' (hr.mono hk) e0 hb r R l (h _ _ _ _ q)⟩
/-- the name x stands for a def that keeps the promise -/
def Kn (P : Program) (w : World) (K : PySem.W.Frag) (mg : Str → Option Value) (base : Heap) (k : Nat) (x : Str) (sp : Sp') : Prop :=
  ∃ (f : Addr) (fd : FuncData) (ps : List Str), FnG P w K mg base k f fd ps sp ∧ mg x = some (.ref f) ∧ PySem.W.keepIn K (.ref f) = true ∧ Binds K fd ps []
abbrev Kn.of (X : Cx) (k : Nat) (x : Str) (sp : Sp') : Prop := Kn X.prog X.w X.K X.mg X.base k x sp
theorem Kn.imp {P : Program} {w : World} {K : PySem.W.Frag} {mg : Str → Option Value} {base : Heap} {j k : Nat} {x : Str} {sp sp' : Sp'} (F : Kn P w K mg base j x sp) (hk : j ≤ k) (h : ∀ ds g Q E, sp' ds g Q E → sp ds g Q E) : Kn P w K mg base k x sp' := by
  obtain ⟨f, fd, ps, F, a, b, c⟩ := F
  exact ⟨f, fd, ps, F.imp hk h, a, b, c⟩
theorem Kn.mono {P : Program} {w : World} {K : PySem.W.Frag} {mg : Str → Option Value} {base : Heap} {j k : Nat} {x : Str} {sp : Sp'} (F : Kn P w K mg base j x sp) (hk : j ≤ k) : Kn P w K mg base k x sp := F.imp hk fun _ _ _ _ h => h

/-! ### exceptions that leave -/
abbrev ExE := Value → Option Addr → Ev → G → Prop
def WxD (B : Bx) (E : ExE) : WX := fun c dx σ H => ∃ e g, Sm B σ H e g ∧ E c dx e g
abbrev TkD (Y : Yx) (E : ExE) : Prop := Takes Y.X (WxD Y.b E)
def exNo : ExE := fun _ _ _ _ => False
theorem tk0 {Y : Yx} : TkD Y exNo := Takes.imp takes0 fun c d σ H ⟨_, _, _, h⟩ => h
section
variable {Y : Yx} {k : Nat} {x : Str} {sp : Sp'} {E : ExE} {e : Expr} {es : List Expr} {t : TL'} {p pos : Pos}
theorem run_G {f : Addr} {fd : FuncData} {ps : List Str} (F : FnG Y.X.prog Y.X.w Y.X.K Y.X.mg Y.X.base k f fd ps sp) (hr : RoomG k Y.X.A) (hb : Binds Y.X.K fd ps []) (tk : TkD Y E) {pins : List (Addr × Obj)} {σ : L2.St} {H : Hp} {s : Shared} {ev : Ev} {g : G} {Q : DK} {Q' : VK}
    {us : List Value} {vs : List V} {ds : List D} (I : Inv Y.X pins σ H s) (S : Sm Y.b σ H ev g) (r : Vals vs us) (l : RepL Y.X.K H vs ds) (h : sp ds g Q fun c dx g' => E c dx ev g') (kk : ∀ x H', Pst Y.b H g Q x H' → Q' x H') :
    wpAny (model Y.X.prog Y.X.w) Y.X.A (call (.ref f) us) (EP Y.X pins σ Q') Y.X.xe s := by
  have hl : us.length = ps.length := by rw [← r.length, l.length]; exact F.len _ _ _ _ h
  have b := hb s us I.kIn (by rw [List.append_nil]; exact hl)
  rw [List.append_nil] at b
  refine wpAny_call (codeAny_mono (F.run Y.X.A Y.X.stack s H ⟨us, []⟩ us vs ds g Q _ Q' (WE (WxD Y.b E) σ) hr I.env0 b r S.rg l h kk fun c dx H' g' st R q => ⟨ev, g', S.next st R, q⟩) fun r s' hq => ?_)
  cases r with
  | error e => exact passAt tk σ pins H s e s' I hq
  | ok fl =>
    cases fl with
    | ret u => exact I.after hq
    | next => exact False.elim hq
    | brk => exact False.elim hq
    | cont => exact False.elim hq
def uFn (sp : Sp') (E : ExE) (t : TL') : TE' := fun e g Q => t e g fun ds g1 => sp ds g1 Q fun c dx g' => E c dx e g'
theorem q_call (F : Kn.of Y.X k x sp) (hr : RoomG k Y.X.A) (tk : TkD Y E) (hg : Gl Y.X x) (ha : QA Y (e :: es) t) (hdb : (x == ("__debug__" : Str)) = false := by decide)
    (he : starEach (e :: es) Y.X.env = (false, eval e Y.X.env) :: starEach es Y.X.env := by rfl) (hpl : (backTo pos (starEach es Y.X.env)).any (·.1) = false := by rfl) : QE Y (.Call (.Name x p) (e :: es) [] pos) (uFn sp E t) := by
  obtain ⟨f, fd, ps, F, hm, hk, hb⟩ := F
  refine ⟨⟨fun pins s σ H Q' I ⟨ev, g, Q, S, w, kk⟩ => ?_⟩⟩
  refine wpAny_Call_Name_kw (ld_glob I hg hm ?_ hdb)
  refine PySem.W.callWith_K (h₀ := Y.X.base) I.ok.mod.kin hk (thn (ha.pa.run pos pins s σ H _ I ⟨ev, g, _, S, w, fun xs H1 z => z⟩) fun us s1 ⟨vs, H1, I1, r, ds, g1, st, R, l, q⟩ => ⟨I1.kIn, ?_⟩) he hpl
  exact run_G F hr hb tk I1 (S.next st R) r l q fun x H' z => kk x H' (z.step st)
theorem q_call0 (F : Kn.of Y.X k x sp) (hr : RoomG k Y.X.A) (tk : TkD Y E) (hg : Gl Y.X x) (hdb : (x == ("__debug__" : Str)) = false := by decide) : QE Y (.Call (.Name x p) [] [] pos) (uFn sp E uNil) := by
  obtain ⟨f, fd, ps, F, hm, hk, hb⟩ := F
  refine ⟨⟨fun pins s σ H Q' I ⟨ev, g, Q, S, w, kk⟩ => ?_⟩⟩
  refine wpAny_Call_Name_kw (ld_glob I hg hm ?_ hdb)
  exact PySem.W.callWith_K0 I.kIn hk (run_G (us := []) F hr hb tk I S .nil .nil w kk)
/-- raise X('m') -/
structure ExcC (K : PySem.W.Frag) (mg : Str → Option Value) (x : Str) (C : Addr) : Prop where
  q : PySem.W.excIn K C He.veBase "ValueError.__new__" = true
  g : mg x = some (.ref C)
  k : PySem.W.keepIn K (.ref C) = true
  b : PySem.W.subIn K (.ref C) (.type "BaseException") = some true
  t : PySem.W.typeIn K (.ref C) = some (.type "type")
theorem q_raise {m : Str} {j : Nat} {p2 p3 : Pos} {C : Addr} (hc : Y.X.calm = true) (tk : TkD Y E) (c : ExcC Y.X.K Y.X.mg x C) (hg : Gl Y.X x) (hdb : (x == ("__debug__" : Str)) = false := by decide) :
    QS Y (.Raise (some (.Call (.Name x p) [.Constant (.str m) j p2] [] p3)) none pos) (fun _ e g => E (.ref C) none e g) :=
  QS.of (ps_raise hc tk (pmk_own PySem.F.excBase_ValueError c.q c.g c.k (raises_own c.b c.t) hg hdb)) fun Dv σ H e g D S w k => ⟨e, g, S, w⟩
end

/-! ### try, several except clauses -/
abbrev Yx.tr (Y : Yx) (Hb : Hp) (gb : G) (pn : List (Addr × Obj)) (xe : Value → Shared → Prop) : Yx := ⟨Y.X.tr pn xe, Hb, gb⟩
abbrev Yx.suite (Y : Yx) (Hb : Hp) (gb : G) (a : Addr) (pn : List (Addr × Obj)) : Yx := ⟨Y.X.suite a pn, Hb, gb⟩
def hsD (K : PySem.W.Frag) (E : ExE) (D : En) : List (Value × TS') → ExE
  | [] => E
  | (c, t) :: r => fun cls dx e g => ∃ b, PySem.W.exmOne K cls c = some b ∧ (b = true → t D e g) ∧ (b = false → hsD K E D r cls dx e g)
inductive QHs (Y : Yx) : List ExceptHandler → List (Value × TS') → Prop
  | nil : QHs Y [] []
  | cons {x : Str} {c : Value} {t : TS'} {b₀ : Stmt} {suite : List Stmt} {np pos' : Pos} {hds : List ExceptHandler} {l : List (Value × TS')} (hc : Names Y.X x c)
      (hsu : ∀ (Hb : Hp) (gb : G) (a : Addr) (pn : List (Addr × Obj)), QSs (Y.suite Hb gb a pn) (b₀ :: suite) t) (r : QHs Y hds l) : QHs Y (.ExceptHandler (some (.Name x np)) none (b₀ :: suite) pos' :: hds) ((c, t) :: l)
def sTry (K : PySem.W.Frag) (E : ExE) (t : ExE → TS') (l : List (Value × TS')) : TS' := fun D e g => ∀ E', (∀ c dx e' g', hsD K E D l c dx e' g' → E' c dx e' g') → t E' D e g
def liftT (K : PySem.W.Frag) (t : TS') : TS := fun D σ H => ∃ Hb gb, TQS ⟨K, Hb, gb⟩ t D σ H
theorem q_try {Y : Yx} {E : ExE} {body : List Stmt} {h₀ : ExceptHandler} {hds : List ExceptHandler} {l : List (Value × TS')} {pos : Pos} {t : ExE → TS'} (hs : Y.X.stack = Y.X.env :: Y.X.outer) (hf : Y.X.env.frame = some Y.X.env.locals) (tk : TkD Y E)
    (hb : ∀ (Hb : Hp) (gb : G) (pn : List (Addr × Obj)) (xe : Value → Shared → Prop) (E' : ExE), TkD (Y.tr Hb gb pn xe) E' → PassesOwn (model Y.X.prog Y.X.w) Y.X.A Y.X.env xe → QSs (Y.tr Hb gb pn xe) body (t E')) (hh : QHs Y (h₀ :: hds) l) :
    QS Y (.Try body (h₀ :: hds) [] [] pos) (sTry Y.X.K E t l) := by
  have conv : ∀ {hds : List ExceptHandler} {l : List (Value × TS')}, QHs Y hds l → HdsOk Y.X hds (l.map fun q => (q.1, fun _ _ _ => liftT Y.X.K q.2)) := by
    intro hds l h
    induction h with
    | nil => exact .nil
    | cons hc hsu r ih => exact .cons hc (fun a oe cls d pn _ _ => ⟨fun p s σ H D I ⟨Hb, gb, q⟩ => (hsu Hb gb a ((a, oe) :: pn)).pss.run p s σ H D I q⟩) ih
  refine QS.of (ps_try_many (tb := fun W D σ H => ∃ Hb gb, TQS ⟨Y.X.K, Hb, gb⟩ (t fun c dx e g => ∀ σ' H', Sm ⟨Y.X.K, Hb, gb⟩ σ' H' e g → W c dx σ' H') D σ H) hs hf tk
    (fun W pn xe tkW hp => ⟨fun p s σ H D I ⟨Hb, gb, q⟩ => (hb Hb gb pn xe _ (tkW.imp fun c d σ H ⟨e, g, S, z⟩ => z σ H S) hp).pss.run p s σ H D I q⟩) (conv hh)) fun Dv σ H e g D S w kk => ?_
  have up : ∀ {σ' : L2.St} {H' : Hp} {e' : Ev} {g' : G}, Sm ⟨Y.X.K, H, g⟩ σ' H' e' g' → Sm Y.b σ' H' e' g' := fun S' => ⟨S.st.trans S'.st, S'.re, S'.rg⟩
  have ok : EnOk ⟨Y.X.K, H, g⟩ H g D Dv := ⟨fun σ' H' e' g' S' st q => kk.nx _ _ _ _ (up S') st q, kk.rt, fun σ' H' e' g' S' st q => kk.bk _ _ _ _ (up S') st q, fun σ' H' e' g' S' st q => kk.ct _ _ _ _ (up S') st q⟩
  refine ⟨H, g, e, g, D, ⟨.refl, S.re, S.rg⟩, w _ fun c dx e' g' hq σ' H' S' => ?_, ok⟩
  clear w hh hb conv
  induction l with
  | nil => exact ⟨e', g', up S', hq⟩
  | cons q r ih =>
    obtain ⟨c0, t0⟩ := q
    obtain ⟨b, h1, h2, h3⟩ := hq
    refine ⟨b, h1, fun hb a _ => ⟨H, g, e', g', D, S', h2 hb, ok.step S'.st⟩, fun hb => ih (h3 hb)⟩

/-! ### the rule for a def -/
def startE (N : List Str) (ds : List D) : Ev := ds.map some ++ List.replicate (N.length - ds.length) none
theorem startE_rep {K : PySem.W.Frag} {H : Hp} {N : List Str} {vs : List V} {ds : List D} (l : RepL K H vs ds) : RepE K H (L2.start N vs) (startE N ds) := by
  refine ⟨by simp [L2.start, startE, l.length], fun i d q => ?_⟩
  unfold startE at q
  unfold L2.start
  by_cases hi : i < ds.length
  · rw [List.getElem?_append_left (by simpa using hi), List.getElem?_map] at q
    rw [List.getElem?_append_left (by simpa [l.length] using hi), List.getElem?_map]
    cases e : ds[i]? with
    | none => rw [e] at q; cases q
    | some d' =>
      rw [e] at q; cases q
      obtain ⟨x, e1, r⟩ := l.get e
      exact ⟨x, by rw [e1]; rfl, r⟩
  · rw [List.getElem?_append_right (by simpa using hi), List.getElem?_replicate] at q
    split at q <;> cases q
/-- the return: what was followed on the way may be forgotten -/
def fg (Q : DK) : DK := fun d g' => ∃ g2, Le g2 g' ∧ Q d g2
def fgX (E : ExK) : ExE := fun c dx _ g' => ∃ g2, Le g2 g' ∧ E c dx g2
def fgEn (Q : DK) : En := { nx := fun _ g' => fg Q (.v .non) g', rt := fg Q }
theorem fg.here {Q : DK} {d : D} {g : G} (h : Q d g) : fg Q d g := ⟨g, .refl, h⟩
abbrev yOf (P : Program) (w : World) (K : PySem.W.Frag) (mg : Str → Option Value) (base : Heap) (N : List Str) (qual : Str) (scope : Scope) (f : Addr) (cd : Value) (A : Around) (outer : List Env) (s : Shared) (H : Hp) (g : G) (E : XK) : Yx := ⟨cxOf (L2.CX P w) P w K mg base N qual scope f cd A outer s H E, H, g⟩
section
variable {P : Program} {w : World} {K : PySem.W.Frag} {mg : Str → Option Value} {base : Heap} {x qual : Str} {params : Arguments} {body : List Stmt} {scope : Scope} {dvs : List V} {kws : List (Str × V)} {f : Addr} {fd : FuncData}
theorem fng_of {N ps : List Str} {k : Nat} {sp : Sp'} (F : FunD K x qual params body scope dvs kws f fd) (S : FnScope N ps scope) (len : ∀ ds g Q E, sp ds g Q E → ds.length = ps.length)
    (hbody : ∀ (cdv : Value) (A : Around) (outer : List Env) (s : Shared) (H : Hp) (g : G) (ds : List D) (Q : DK) (E : ExK) (E' : XK), RoomG k (A.deeper (envOfC qual scope s.heap.objs.size f cdv)) → sp ds g Q E →
      TkD (yOf P w K mg base N qual scope f cdv A outer s H g E') (fgX E) →
      ∃ t, QSs (yOf P w K mg base N qual scope f cdv A outer s H g E') body t ∧ t (fgEn Q) (startE N ds) g) : FnG P w K mg base (k + 1) f fd ps sp := by
  obtain ⟨oc, od, dV, kV, doc, pm, an, cdv, ct, osl, rfl, lk, hcd, _, _⟩ := F.ex
  refine ⟨len, fun A outer s H args us vs ds g Q E Q' E' hr e0 hb r R l hsp kQ kE => ?_⟩
  have hl : vs.length = ps.length := l.length.trans (len _ _ _ _ hsp)
  have at_ : ∀ b o, base.get? b = some o → s.heap.get? b = some o := fun b o e => (e0.bs b o e).1
  have lim : s.heap.NoLimit := e0.mod.nolimit.keeps at_
  refine codeAny_call_function hr.r.depth (e0.mod.kin.keeps at_ _ _ lk) rfl S.co S.gen rfl (PySem.W.codeRec_of (e0.mod.kin.keeps at_) hcd) (hb _ _ _ _ ?_)
  refine wpAny_newFunctionEnv_cells S.kind (fun ⟨n, v⟩ hy => ?_) fun env he s1 x1 => ?_
  · exact (S.par n (List.of_mem_zip hy).1).imp id fun q => ⟨q, PySem.W.cellsFrom_some _ _ _ (.inl q)⟩
  subst he
  refine ⟨lim.keeps x1.toInCall.keep, codeAny_func ?_⟩
  have I := inv_start (CX := L2.CX P w) (E := E') S hr.r.hd e0 hl r x1
  have stE : ∀ {c : Value} {dx : Option Addr} {H' : Hp} {g2 g' : G}, Step H g H' g' → RepG K H' g' → Le g2 g' → E c dx g2 → E' c dx H' := fun st R' le q => kE _ _ _ _ (st.le le) (R'.le le) q
  have tk : TkD (yOf P w K mg base N qual scope f cdv A outer s H g E') (fgX E) := Takes.imp (takes_of rfl rfl rfl rfl) fun c d σ H' ⟨ev, g', S', g2, le, q⟩ => stE S'.st S'.rg le q
  obtain ⟨t, ht, hq⟩ := hbody cdv A outer s H g ds Q E E' (hr.deeper _) hsp tk
  have stQ : ∀ {d : D} {y : V} {H' : Hp} {g' : G}, Step H g H' g' → RepG K H' g' → Rep K H' y d → fg Q d g' → Q' y H' := fun st R' ry ⟨g2, le, q⟩ => kQ _ _ ⟨_, g2, st.le le, R'.le le, ry, q⟩
  refine wpAny_mono (ht.pss.run [] s1 (L2.start N vs) H { nx := fun _ H' => Q' .non H', rt := Q' } I ⟨startE N ds, g, fgEn Q, ⟨.refl, startE_rep l, R⟩, hq, ⟨fun σ' H' e' g' S' st q => stQ st S'.rg (.v _) q, fun x H' d g' st R' r' q => stQ st R' r' q, fun _ _ _ _ _ _ q => q.elim, fun _ _ _ _ _ _ q => q.elim⟩⟩) (fun fl s' hs => ?_) fun e s' hs => hs
  cases fl with
  | ret u =>
    obtain ⟨v, σ', H', J, rv, q⟩ := hs
    exact ⟨v, H', J.os, J.bare, J.base, J.hok, rv, q⟩
  | next =>
    obtain ⟨σ', H', J, q⟩ := hs
    exact ⟨.non, H', J.os, J.bare, J.base, J.hok, rfl, q⟩
  | brk =>
    obtain ⟨_, _, _, q⟩ := hs
    exact q.elim
  | cont =>
    obtain ⟨_, _, _, q⟩ := hs
    exact q.elim
end
end SK
end
section
set_option maxHeartbeats 4000000
namespace SK
open PySem PySem.Spec PyProof.Rows L2

/-! ### the law's end -/
def g0 (a : Addr) (ns : List Int) : G := ⟨fun _ => none, none, 0, some (a, ns)⟩
section
variable {P : Program} {w : World} {K : PySem.W.Frag} {mg mb : Str → Option Value} {k : Nat} {fa a : Addr} {fd : FuncData} {x : Str} {sp : Sp'} {s₁ : Shared} {vs : List Value} {ns : List Int}
theorem law_G (KX : K.In s₁.heap) (hns : s₁.heap.Ns mainGlobals mg) (hb : s₁.heap.Ns builtinsNs mb) (hbb : ∀ x : Str, x ≠ "__name__" → mb x = bootBuiltins x) (hlim : s₁.heap.NoLimit) (hg : s₁.gens = #[])
    (ha : s₁.heap.get? a = some { cls := .type "list", data := .seq vs.toArray }) (hi : IntsAre vs ns) (hl : ns.length ≤ sizeLine) (hr : RoomG k callerA)
    (F : ∀ base : Heap, K.In base → base.Ns mainGlobals mg → FnG P w K mg base k fa fd [x] sp) (hbind : ∀ (s : Shared) (u : Value), BindsTo s fd ⟨[u], []⟩ [(x, u)])
    (hsp : sp [.v (.ref a)] (g0 a ns) (fun d _ => d = .v (.bl true)) fun _ _ _ => False) :
    codeAny (model P w) callerA (.call (.ref fa) ⟨[.ref a], []⟩) (fun r s' => r = .ok (.ret (.bool true)) ∧ OldK s₁.heap s'.heap ∧ s'.os = s₁.os ∧ AllBare s'.gens) s₁ := by
  have rv := vals_ints hi
  have len := hi.length
  have main : ∀ H : Hp, (∀ b u, H b = some u → b = a ∧ K.lookup a = none ∧ ∃ o ys, u = .frz o (.lst ys)) → Scr K H a ns → HOk P w H s₁.heap →
      codeAny (model P w) callerA (.call (.ref fa) ⟨[.ref a], []⟩) (fun r s' => r = .ok (.ret (.bool true)) ∧ OldK s₁.heap s'.heap ∧ s'.os = s₁.os ∧ AllBare s'.gens) s₁ := by
    intro H hH hS hok
    have low : ∀ {b : Addr} {o : Obj}, s₁.heap.get? b = some o → H b = none → (hidT s₁.heap H).get? b = some o := fun e n => hidT_get e n
    have ndict : ∀ {b : Addr} {o : Obj} {es : Array DictEntry} {ep : Nat}, s₁.heap.get? b = some o → o.data = .dict es ep → H b = none := by
      intro b o es ep e d
      cases q : H b with
      | none => rfl
      | some u =>
        obtain ⟨rfl, _⟩ := hH b u q
        rw [ha] at e
        cases e
        have z : Data.seq vs.toArray _ = Data.dict es ep := d
        cases z
    have ns2 : ∀ {b : Addr} {m : Str → Option Value}, s₁.heap.Ns b m → (hidT s₁.heap H).Ns b m := fun ⟨o, es, ep, e, d, r⟩ => ⟨o, es, ep, low e (ndict e d), d, r⟩
    have kb : K.In (hidT s₁.heap H) := by
      intro b o e
      refine low (KX b o e) ?_
      cases q : H b with
      | none => rfl
      | some u =>
        obtain ⟨rfl, n, _⟩ := hH b u q
        rw [n] at e
        cases e
    have hM : Mod K mg (hidT s₁.heap H) := ⟨kb, ns2 hns, ⟨mb, ns2 hb, hbb⟩, hlim.imp fun mc h => ⟨ns2 h.1, h.2⟩⟩
    have e0 : Env0 P w K mg (hidT s₁.heap H) callerA [] s₁ H := ⟨rfl, hM, fun b o e => of_hidT e, Nat.le_of_eq (hidT_size _ _), trivial, (by intro b h; cases h), hok, .of_eq hg⟩
    have R : RepG K H (g0 a ns) := by
      refine ⟨?_, ?_, ?_⟩
      · intro b m q
        cases q
      · intro pa ca q
        cases q
      · intro b ms q
        cases q
        exact hS
    have run := (F _ kb (ns2 hns)).run callerA [] s₁ H ⟨[.ref a], []⟩ [.ref a] [.ref a] [.v (.ref a)] (g0 a ns) _ _ (fun v _ => v = .bl true) (fun _ _ _ => False) hr e0 (hbind s₁ (.ref a)) (.cons rfl .nil) R (.cons (.v _) .nil) hsp
      (fun y H' ⟨d, g', _, _, ry, q⟩ => by cases q; cases ry; rfl) (fun _ _ _ _ _ _ q => q)
    refine codeAny_mono run fun r s' h => ?_
    rcases r with e | fl
    · obtain ⟨_, _, _, _, _, _, _, _, _, _, _, _, z⟩ := h
      exact z.elim
    cases fl with
    | next => exact h.elim
    | brk => exact h.elim
    | cont => exact h.elim
    | ret u =>
      obtain ⟨v, H', os, bare, un, hok', r', q⟩ := h
      obtain rfl : v = .bl true := q
      obtain rfl : _ = Value.bool true := r'
      refine ⟨rfl, OldK.of_keep fun b o e => ?_, os, bare⟩
      cases q : H b with
      | none => exact un.keep b o e q (by simp [frs]) (by simp)
      | some u =>
        obtain ⟨rfl, _, ob, ys, rfl⟩ := hH b u q
        obtain ⟨e1, _⟩ := hok _ _ q
        obtain ⟨e2, _⟩ := hok' _ _ (un.frzs _ _ _ q)
        rw [e] at e1
        cases e1
        exact e2
  have sz : vs.length ≤ sizeLine := by rw [len]; exact hl
  cases hk : K.lookup a with
  | some o =>
    obtain rfl : _ = o := Option.some.inj (ha.symm.trans (KX a o hk))
    refine main (fun _ => none) (by intro b u z; cases z) (.inr fun H' => .inr ⟨_, vs.toArray, _, hk, rfl, rfl, rfl, by simpa using sz, by simpa using rv⟩) (by intro b u z; cases z)
  | none =>
    have self : (fun b => if b = a then some (HO.frz { cls := .type "list", data := .seq vs.toArray } (.lst (ns.map V.int))) else none) a = some (HO.frz { cls := .type "list", data := .seq vs.toArray } (.lst (ns.map V.int))) := if_pos rfl
    refine main (fun b => if b = a then some (HO.frz { cls := .type "list", data := .seq vs.toArray } (.lst (ns.map V.int))) else none) (fun b u z => ?_) (.inl ⟨_, self⟩) (fun b u z => ?_)
    · by_cases e : b = a
      · rw [if_pos e] at z
        cases z
        exact ⟨e, hk, _, _, rfl⟩
      · rw [if_neg e] at z
        cases z
    · by_cases e : b = a
      · subst e
        have z := self.symm.trans z
        cases z
        exact ⟨ha, by rw [List.length_map]; exact hl, vs, _, rv, ha⟩
      · have z := (if_neg e).symm.trans z
        cases z
end
/-- a law: F gives the written part, the function object, the promise over every base -/
theorem walkG {l : PySem.W.OpenLaw} {n k : Nat} {q : Program} {loose : List Str} {XP : (Str → Option Value) → Heap → Prop} {YP : World → Heap → Prop} {d : DefRec} {x : Str} (hn : l.most = some n) (hn2 : n ≤ sizeLine) (hdf : d.params.defaults = []) (hr : RoomG k callerA)
    (F : ∀ (w : World) (mg : Str → Option Value) (fa : Addr) (h : Heap), YP w h → h.Ns mainGlobals mg → mg d.name = some (.ref fa) →
      ∃ (K : PySem.W.Frag) (fd : FuncData) (sp : Sp'), K.In h ∧ (∀ (s : Shared) (u : Value), BindsTo s fd ⟨[u], []⟩ [(x, u)]) ∧
        (∀ (a : Addr) (ns : List Int), ns.length ≤ n → sp [.v (.ref a)] (g0 a ns) (fun d _ => d = .v (.bl true)) fun _ _ _ => False) ∧
        ∀ base : Heap, K.In base → base.Ns mainGlobals mg → FnG l.prog w K mg base k fa fd [x] sp) :
    PySem.W.WalkO q loose XP YP l.row.toRowW d [] (fun f vs => PySem.call f vs) := by
  refine Att.attach_call hn hdf fun w s₀ s₁ mg mb fa o pm cd doc a vs ns G Y ho hd hcd hmg hobj hints hlen hg => ?_
  obtain ⟨K, fd, sp, KX, hb, hsp, hF⟩ := F w mg fa _ Y G.T.g hmg
  exact law_G KX G.T.g G.T.b G.T.builtins G.T.nolimit hg hobj hints (Nat.le_trans hlen hn2) hr hF hb (hsp a ns hlen)
end SK
end
section
set_option maxHeartbeats 4000000
namespace SK
open PySem PySem.Spec PyProof.Rows L2

/-! ### methods of built-in objects -/
inductive TyG (g : G) : String → D → Prop
  | lst {a : Addr} {ds : List D} : g.o a = some (.lst ds) → TyG g "list" (.v (.ref a))
  | tup {ds : List D} : TyG g "tuple" (.t ds)
  | dk {a : Addr} {kvs : List (Key × D)} : g.o a = some (.dk kvs) → TyG g "dict" (.v (.ref a))
  | dt {a : Addr} {kvs : List (List Key × D)} : g.o a = some (.dt kvs) → TyG g "dict" (.v (.ref a))
section
variable {Y : Yx} {o e : Expr} {es : List Expr} {name : Str} {apos cpos : Pos} {T id : String} {to : TE'} {t : TL'}
theorem TyG.is {pins : List (Addr × Obj)} {σ : L2.St} {H : Hp} {s : Shared} {g : G} {d : D} {x : V} {v : Value} (I : Inv Y.X pins σ H s) (R : RepG Y.X.K H g) (rx : RelV x v) (r : Rep Y.X.K H x d) (ty : TyG g T d) :
    s.TypeIs v T ∧ ∀ a, v = .ref a → ∃ ob, s.heap.get? a = some ob ∧ ob.dict = none := by
  cases ty with
  | @lst a ds h =>
    cases r; cases rx
    obtain ⟨xs, h1, _⟩ := R.obj a _ h
    exact tyV_is (x := .ref a) I rfl (.inl ⟨rfl, xs, SqL.of h1⟩)
  | @tup ds =>
    cases r with
    | t h1 l1 =>
      cases rx
      obtain ⟨ob, e1, e2, e3⟩ := h1.plain I
      exact ⟨⟨ob, e1, e2⟩, fun a e => by cases e; exact ⟨ob, e1, e3⟩⟩
  | @dk a kvs h =>
    cases r; cases rx
    obtain ⟨xs, h1, _⟩ := R.obj a _ h
    exact tyV_is (x := .ref a) I rfl (.inr (.inr (.inl ⟨rfl, .inl ⟨xs, h1⟩⟩)))
  | @dt a kvs h =>
    cases r; cases rx
    obtain ⟨xs, h1, _⟩ := R.obj a _ h
    exact tyV_is (x := .ref a) I rfl (.inr (.inr (.inl ⟨rfl, .inr ⟨xs, h1⟩⟩)))
abbrev RDM := D → List D → G → DK → Prop
def MtD (Y : Yx) (id : String) (rd : RDM) : Prop := ∀ (pins : List (Addr × Obj)) (s : Shared) (σ : L2.St) (H : Hp) (x : V) (xs : List V) (v : Value) (us : List Value) (d : D) (ds : List D) (g : G) (Q : DK) (Q' : VK), Inv Y.X pins σ H s → RelV x v → Vals xs us →
  RepG Y.X.K H g → Rep Y.X.K H x d → RepL Y.X.K H xs ds → rd d ds g Q → (∀ z H', Pst Y.b H g Q z H' → Q' z H') → wpAny (model Y.X.prog Y.X.w) Y.X.A (call (.builtin id) (v :: us)) (EP Y.X pins σ Q') Y.X.xe s
def uBm (T : String) (rd : RDM) (to : TE') (t : TL') : TE' := fun e g Q => to e g fun d g1 => TyG g1 T d ∧ t e g1 fun ds g2 => rd d ds g2 Q
theorem q_bm {rd : RDM} (pa : PlainAttrs T) (slot : Slot T name id) (hty : typeOf (.builtin id) = pure (.type "method_descriptor")) (hm : MtD Y id rd) (ho : QE Y o to) (ha : QA Y (e :: es) t)
    (hbase : attributeBase o name Y.X.env (eval o Y.X.env) = eval o Y.X.env := by rfl)
    (hfew : ((backTo cpos (starEach (e :: es) Y.X.env)).all (fun x => !x.1) && (backToKw cpos (keywordEach [] Y.X.env)).all (fun x => x.1.isSome)
      && decide ((e :: es).length + ([] : List Keyword).length + (if ([] : List Keyword).isEmpty then 0 else 1) < 30)) = true := by rfl)
    (hline : (apos.endLine == cpos.line) = true := by rfl) (hs : starEach (e :: es) Y.X.env = (false, eval e Y.X.env) :: starEach es Y.X.env := by rfl) (hplain : (backTo cpos (starEach es Y.X.env)).any (·.1) = false := by rfl) :
    QE Y (.Call (.Attribute o name apos) (e :: es) [] cpos) (uBm T rd to t) := by
  refine ⟨⟨fun pins s σ H Q' I ⟨ev, g, Q, S, w, kk⟩ => ?_⟩⟩
  refine wpAny_Call_method_late hbase hfew hline rfl (thn (ho.pe.run pins s σ H _ I ⟨ev, g, _, S, w, fun x H1 z => z⟩) fun v s1 ⟨x, H1, I1, r1, d, g1, st, R, rd1, ty, q1⟩ => ?_)
  obtain ⟨h1, h2⟩ := TyG.is I1 R r1 rd1 ty
  refine ⟨T, id, pa, slot, hty, h1, h2, ?_⟩
  have hA := ha.pa.run cpos pins s1 σ H1 _ I1 ⟨ev, g1, _, S.next st R, q1, fun xs H2 z => z⟩
  rw [hs] at hA ⊢
  refine Calls.callWith_builtin (by show (false || (backTo cpos (starEach es Y.X.env)).any (·.1)) = false; rw [hplain] <;> rfl) (Calls.evalArgs_plain ?_)
  exact thn hA fun us s2 ⟨vs, H2, I2, r2, ds, g2, st2, R2, l2, q2⟩ => hm pins s2 σ H2 x vs v us d ds g2 Q Q' I2 r1 r2 R2 (rd1.keep (st2.tu R)) l2 q2 fun z H' p => kk z H' (p.step (st.trans st2))
/-- .. with a fresh list -/
abbrev RDF := D → List D → G → DK → Prop
def MtF (Y : Yx) (id : String) (rd : RDF) : Prop := ∀ (pins : List (Addr × Obj)) (s : Shared) (σ : L2.St) (H : Hp) (x : V) (v : Value) (p : Addr) (ys : List V) (d : D) (ds : List D) (g : G) (Q : DK) (Q' : VK), Inv Y.X pins σ H s → RelV x v →
  RepG Y.X.K H g → Rep Y.X.K H x d → H p = some (.lst ys) → RepL Y.X.K H ys ds → g.new p → rd d ds g Q → (∀ z H', Pst Y.b H g Q z H' → Q' z H') → wpAny (model Y.X.prog Y.X.w) Y.X.A (call (.builtin id) [v, .ref p]) (EP Y.X pins σ Q') Y.X.xe s
def uBmF (T : String) (rd : RDF) (to : TE') (t : TL') : TE' := fun e g Q => to e g fun d g1 => TyG g1 T d ∧ t e g1 fun ds g2 => rd d ds g2 Q
theorem q_bmF {rd : RDF} (pa : PlainAttrs T) (slot : Slot T name id) (hty : typeOf (.builtin id) = pure (.type "method_descriptor")) (hm : MtF Y id rd) (ho : QE Y o to) (ha : QF Y e t)
    (hbase : attributeBase o name Y.X.env (eval o Y.X.env) = eval o Y.X.env := by rfl)
    (hfew : ((backTo cpos (starEach [e] Y.X.env)).all (fun x => !x.1) && (backToKw cpos (keywordEach [] Y.X.env)).all (fun x => x.1.isSome)
      && decide ([e].length + ([] : List Keyword).length + (if ([] : List Keyword).isEmpty then 0 else 1) < 30)) = true := by rfl)
    (hline : (apos.endLine == cpos.line) = true := by rfl) (hs : starEach [e] Y.X.env = (false, eval e Y.X.env) :: starEach [] Y.X.env := by rfl) :
    QE Y (.Call (.Attribute o name apos) [e] [] cpos) (uBmF T rd to t) := by
  refine ⟨⟨fun pins s σ H Q' I ⟨ev, g, Q, S, w, kk⟩ => ?_⟩⟩
  refine wpAny_Call_method_late hbase hfew hline rfl (thn (ho.pe.run pins s σ H _ I ⟨ev, g, _, S, w, fun x H1 z => z⟩) fun v s1 ⟨x, H1, I1, r1, d, g1, st, R, rd1, ty, q1⟩ => ?_)
  obtain ⟨h1, h2⟩ := TyG.is I1 R r1 rd1 ty
  refine ⟨T, id, pa, slot, hty, h1, h2, ?_⟩
  have hA := (pa_cons ha.pe pa_nil hs).run cpos pins s1 σ H1 (fun vs H2 => ∃ p ys ds g2, vs = [.ref p] ∧ Step H1 g1 H2 g2 ∧ RepG Y.X.K H2 g2 ∧ RepL Y.X.K H2 ys ds ∧ H2 p = some (.lst ys) ∧ g2.new p ∧ rd d ds g2 Q) I1
    ⟨ev, g1, _, S.next st R, q1, fun p xs H' ds g' st' R' l hp nw h0 q => ⟨p, xs, ds, g', rfl, st', R', l, hp, nw, q⟩⟩
  rw [hs] at hA ⊢
  refine Calls.callWith_builtin (by rfl) (Calls.evalArgs_plain ?_)
  exact thn hA fun us s2 ⟨vs, H2, I2, r2, p, ys, ds, g2, ev2, st2, R2, l2, hp, nw, q2⟩ => by
    subst ev2
    rw [Vals.ref1 r2]
    exact hm pins s2 σ H2 x v p ys d ds g2 Q Q' I2 r1 R2 (rd1.keep (st2.tu R)) hp l2 nw q2 fun z H' p => kk z H' (p.step (st.trans st2))
theorem lst_of {H : Hp} {g : G} {a : Addr} {ds : List D} {K : PySem.W.Frag} (R : RepG K H g) (h : g.o a = some (.lst ds)) : ∃ xs, H a = some (.lst xs) ∧ RepL K H xs ds := R.obj a _ h
/-- a list is written anew -/
theorem Pst.write {H : Hp} {g : G} {a : Addr} {ds es : List D} {ys : List V} {x : V} {d : D} {Q : DK} (R : RepG Y.X.K H g) (h : g.o a = some (.lst ds)) (l : RepL Y.X.K H ys es) (r : Rep Y.X.K H x d) (q : Q d (g.put a (.lst es))) : Pst Y.b H g Q x (upd H a (.lst ys)) := by
  obtain ⟨R1, st⟩ := R.write (o := .lst ys) (m := .lst es) h fun k => ⟨ys, upd_same, l.keep k⟩
  exact ⟨d, _, st, R1, r.keep (st.tu R), q⟩
def rdApp : RDM := fun d xs g Q => match d, xs with
  | .v (.ref a), [y] => ∃ ds, g.o a = some (.lst ds) ∧ ds.length < sizeLine ∧ Q (.v .non) (g.put a (.lst (ds ++ [y])))
  | _, _ => False
theorem m_app : MtD Y "list.append" rdApp := fun pins s σ H x xs v us d ds g Q Q' I rx rs R r l w k => by
  match d, ds, l, w with
  | .v (.ref a), [y], .cons ry .nil, ⟨zs, ha, hz, q⟩ =>
    cases r
    obtain ⟨ys, h1, l1⟩ := lst_of R ha
    exact mt_append pins s σ H _ _ v us Q' I rx rs ⟨a, ys, _, rfl, rfl, h1, by rw [l1.length]; exact hz, k _ _ (.write R ha (l1.append (.cons ry .nil)) (.v _) q)⟩
def rdExt : RDM := fun d xs g Q => match d, xs with
  | .v (.ref a), [.v (.ref b)] => ∃ ds es, g.o a = some (.lst ds) ∧ g.o b = some (.lst es) ∧ ds.length + es.length ≤ sizeLine ∧ Q (.v .non) (g.put a (.lst (ds ++ es)))
  | _, _ => False
theorem m_ext : MtD Y "list.extend" rdExt := fun pins s σ H x xs v us d ds g Q Q' I rx rs R r l w k => by
  match d, ds, l, w with
  | .v (.ref a), [.v (.ref b)], .cons ry .nil, ⟨ds, es, ha, hb, hz, q⟩ =>
    cases r; cases ry
    obtain ⟨ys, h1, l1⟩ := lst_of R ha
    obtain ⟨zs, h2, l2⟩ := lst_of R hb
    exact mt_extend pins s σ H _ _ v us Q' I rx rs ⟨a, b, ys, zs, rfl, rfl, h1, h2, by rw [l1.length, l2.length]; exact hz, k _ _ (.write R ha (l1.append l2) (.v _) q)⟩
def rdExtF : RDF := fun d es g Q => match d with
  | .v (.ref a) => ∃ ds, g.o a = some (.lst ds) ∧ ds.length + es.length ≤ sizeLine ∧ Q (.v .non) (g.put a (.lst (ds ++ es)))
  | _ => False
theorem m_extF : MtF Y "list.extend" rdExtF := fun pins s σ H x v p zs d es g Q Q' I rx R r hp l nw w k => by
  match d, w with
  | .v (.ref a), ⟨ds, ha, hz, q⟩ =>
    cases r
    obtain ⟨ys, h1, l1⟩ := lst_of R ha
    exact mt_extend pins s σ H _ _ v _ Q' I rx (show Vals [V.ref p] [Value.ref p] from .cons rfl .nil) ⟨a, p, ys, zs, rfl, rfl, h1, hp, by rw [l1.length, l.length]; exact hz, k _ _ (.write R ha (l1.append l) (.v _) q)⟩
def rdIns : RDM := fun d xs g Q => match d, xs with
  | .v (.ref a), [.v (.int i), y] => ∃ ds, g.o a = some (.lst ds) ∧ ds.length < sizeLine ∧ 0 ≤ i ∧ i < 2 ^ 63 ∧ Q (.v .non) (g.put a (.lst (ds.take i.toNat ++ [y] ++ ds.drop i.toNat)))
  | _, _ => False
theorem m_ins : MtD Y "list.insert" rdIns := fun pins s σ H x xs v us d ds g Q Q' I rx rs R r l w k => by
  match d, ds, l, w with
  | .v (.ref a), [.v (.int i), y], .cons ri (.cons ry .nil), ⟨zs, ha, hz, h0, h1, q⟩ =>
    cases r; cases ri
    obtain ⟨ys, e1, l1⟩ := lst_of R ha
    exact mt_insert pins s σ H _ _ v us Q' I rx rs ⟨a, ys, i, _, rfl, rfl, e1, by rw [l1.length]; exact hz, h0, h1, k _ _ (.write R ha (((l1.take _).append (.cons ry .nil)).append (l1.drop _)) (.v _) q)⟩
/-- t.count(x) -/
def rdTcnt : RDM := fun d xs g Q => ∃ ds p ps y, d = .t ds ∧ xs = [y] ∧ PDL g ds ps ∧ PD g y p ∧ PyData.plainAll ps = true ∧ p.plain = true ∧ PyData.depthAll ps ≤ 60 ∧ Q (.v (.int ((ps.countP fun z => PyData.eqv z p : Nat) : Int))) g
theorem m_tcnt (hu : Y.X.A.units + 65 < cLine) : MtD Y "tuple.count" rdTcnt := fun pins s σ H x xs v us d ds g Q Q' I rx rs R r l ⟨es, p, ps, y, ed, ey, h1, h2, c1, c2, c3, q⟩ k => by
  subst ed ey
  cases l with
  | cons ry l =>
    cases l
    cases r with
    | t t1 l1 =>
      cases rs with
      | cons rv rs =>
        cases rs
        cases rx
        obtain ⟨its, r1, ht, hz⟩ := I.tuple t1.sq
        obtain ⟨as, ra⟩ := Dp.readsAll I ps _ its (PXL.dp R ps l1 h1) r1
        obtain ⟨bs, rb⟩ := Dp.reads I p _ _ (PX.dp R p ry h2) rv
        have m : min (PyData.depthAll ps) p.depth ≤ PyData.depthAll ps := Nat.min_le_left _ _
        exact SeqAt.count_tuple_data ht (by simpa using ra) rb c1 c2 (by omega) ⟨.int _, H, I.tok _, ⟨_, rfl⟩, k _ _ (.atom R q)⟩
end
end SK
end
section
set_option maxHeartbeats 4000000
namespace SK
open PySem PySem.Spec PyProof.Rows L2

/-! ### o[i] = v of a list -/
section
variable {Y : Yx} {pos p p2 : Pos} {a o i : Expr} {to ti ta : TE'} {tl : TL'}
def gSub' (to ti : TE') : TG' := fun d e g Q => to e g fun o g1 => ti e g1 fun i g2 => match o, i with
  | .v (.ref a), .v (.int k) => ∃ ds j, g2.o a = some (.lst ds) ∧ ixN ds.length k = some j ∧ Q e (g2.put a (.lst (ds.set j d)))
  | _, _ => False
theorem qg_sub (ho : QE Y o to) (hi : QE Y i ti) (hst : ∀ v, assign (.Subscript o i pos) Y.X.env v = (do
      let ov ← holding [v] (eval o Y.X.env)
      let iv ← holding [v, ov] (eval i Y.X.env)
      standAt pos
      holding [v, ov, iv] (setItem ov iv v)
      release [v, ov, iv] []) := by intro _; rfl) : QG Y (.Subscript o i pos) [] (gSub' to ti) :=
  ⟨PG.imp (pg_sub ho.pe hi.pe set_list hst) fun x σ H Q' ⟨d, e, g, Q, S, r, w, k⟩ => ⟨e, g, _, S, w, fun xo H1 ⟨do', g1, st, R, ro, q⟩ => ⟨e, g1, _, S.next st R, q, fun xi H2 ⟨di, g2, st2, R2, ri, q2⟩ => by
    match do', di, q2 with
    | .v (.ref a), .v (.int m), ⟨ds, j, ha, hj, q2⟩ =>
      cases ro; cases ri
      obtain ⟨xs, h1, l1⟩ := lst_of R2 ha
      have st12 := st.trans st2
      obtain ⟨R3, st3⟩ := R2.write (o := .lst (xs.set j x)) (m := .lst (ds.set j d)) ha fun tu => ⟨_, upd_same, (l1.set j (r.keep (st12.tu S.rg))).keep tu⟩
      exact ⟨a, xs, m, j, rfl, rfl, h1, by rw [l1.length]; exact hj, k _ _ _ _ (fun _ _ => rfl) rfl (((S.next st R).next st2 R2).next st3 R3) (st12.trans st3) q2⟩⟩⟩⟩

/-! ### sorted(set(t)), sorted(l), max, repr -/
theorem cr_setTI {X : Cx} (hc : X.calm = true) : CallR X (.type "set") (fun xs H Q => ∃ (a : Addr) (ns : List Int), xs = [.ref a] ∧ SqT X.K H a (ns.map V.int) ∧ ns.length < 63 ∧ ∀ p c, c ≤ ns.length → H p = none → Q (.ref p) (upd H p (SetO X.w p (fun j => decide (j ∈ ns)) c))) := by
  intro pins s σ H xs us Q I r ⟨a, ns, ex, hT, hz, q⟩
  subst ex
  rw [Vals.ref1 r]
  obtain ⟨its, r1, ht, _⟩ := I.tuple hT
  have b : ns.length + 1 < scanBound := Nat.lt_trans (show ns.length + 1 < 64 by omega) (by decide)
  refine call_set_tupI ns (I.ok.hd hc) ht (by simpa using r1.ints) b fun h' tk c R hcn kp => ?_
  exact ⟨.ref _, upd H s.heap.objs.size (SetO X.w s.heap.objs.size (fun j => decide (j ∈ ns)) c), I.laid (t' := tk) kp (Nat.le_refl _) (setO_new R), rfl, q _ _ hcn (I.hok.fresh (Nat.le_refl _))⟩
def iD (i : Int) : D := .v (.int i)
def isD (ns : List Int) : List D := ns.map iD
theorem isD_of {K : PySem.W.Frag} {H : Hp} {xs : List V} {ns : List Int} (l : RepL K H xs (isD ns)) : xs = ns.map V.int := ints_of l
theorem isD_rep {K : PySem.W.Frag} {H : Hp} (ns : List Int) : RepL K H (ns.map V.int) (isD ns) := by
  have e : isD ns = (ns.map V.int).map D.v := by unfold isD iD; rw [List.map_map]; rfl
  rw [e]
  exact RepL.atoms _
def uSS (te : TE') : TL' := fun e g Q => te e g fun d g1 => ∃ ns, d = .t (isD ns) ∧ ns.length < 63 ∧ ∀ ms : List Int, ms.Pairwise (· < ·) → (∀ k, k ∈ ms ↔ k ∈ ns) → Q (isD ms) g1
theorem q_sortset {p1 p2 p3 p4 : Pos} (hc : Y.X.calm = true) (ha : QE Y a ta) (g1 : Gl Y.X "sorted") (m1 : Y.X.mg "sorted" = none) (g2 : Gl Y.X "set") (m2 : Y.X.mg "set" = none)
    (hs : starEach [a] Y.X.env = (false, eval a Y.X.env) :: starEach [] Y.X.env := by rfl)
    (hs2 : starEach [Expr.Call (.Name "set" p1) [a] [] p2] Y.X.env = (false, eval (Expr.Call (.Name "set" p1) [a] [] p2) Y.X.env) :: starEach [] Y.X.env := by rfl) :
    QF Y (.Call (.Name "sorted" p3) [.Call (.Name "set" p1) [a] [] p2] [] p4) (uSS ta) :=
  QF.of (pe_callB (cr_sortedSet hc) g1 m1 (by rfl) (pa_cons (pe_callTy (cr_setTI hc) g2 m2 (by rfl) (pa_cons ha.pe pa_nil hs) (by decide) (by decide) hs rfl) pa_nil hs2) (by decide) (by decide) hs2 rfl) fun σ H ev g Q Q' S w k =>
    ⟨ev, g, _, S, w, fun x H1 ⟨d, g1, st, R, r, ns, ed, hz, q⟩ => by
      subst ed
      cases r with
      | @t b xs _ t1 l1 =>
        have e := isD_of l1
        subst e
        refine ⟨b, ns, rfl, t1.sq, hz, fun p c hcn hp => ⟨p, _, c, rfl, upd_same, by omega, fun ms p2 s1 s2 s3 hp2 => ?_⟩⟩
        have R1 := R.fresh (o := SetO Y.X.w p (fun j => decide (j ∈ ns)) c) hp
        have h0 : H p2 = none := st.there _ (upd_none hp2)
        exact k p2 _ _ (isD ms) g1 ((st.trans (Step.fresh hp)).trans (Step.fresh hp2)) (R1.fresh hp2) (isD_rep ms) upd_same (R1.new_of hp2) h0 (q ms s1 fun k => by rw [s2 k]; simp)⟩
/-- sorted(l) of a list of ints that stands, of a fresh one -/
def uSort (te : TE') : TL' := fun e g Q => te e g fun d g1 => ∃ ns, items g1 d = some (isD ns) ∧ (∃ a, d = .v (.ref a)) ∧ ∀ ms : List Int, ms.Perm ns → ms.Pairwise (· ≤ ·) → Q (isD ms) g1
theorem q_sort {p3 p4 : Pos} (ha : QE Y a ta) (g1 : Gl Y.X "sorted") (m1 : Y.X.mg "sorted" = none) (hs : starEach [a] Y.X.env = (false, eval a Y.X.env) :: starEach [] Y.X.env := by rfl) : QF Y (.Call (.Name "sorted" p3) [a] [] p4) (uSort ta) :=
  QF.of (pe_callB cr_sortedI g1 m1 (by rfl) (pa_cons ha.pe pa_nil hs) (by decide) (by decide) hs rfl) fun σ H ev g Q Q' S w k => ⟨ev, g, _, S, w, fun x H1 ⟨d, g1, st, R, r, ns, hi, ⟨b, ed⟩, q⟩ => by
    subst ed
    cases r
    have hb : g1.o b = some (.lst (isD ns)) := by
      unfold items at hi
      cases z : g1.o b with
      | none => simp [z] at hi
      | some m => cases m <;> simp [z] at hi; subst hi; rfl
    obtain ⟨xs, h1, l1⟩ := lst_of R hb
    have e := isD_of l1
    subst e
    exact ⟨b, ns, rfl, SqL.of h1, fun ms p s1 s2 hp => k p _ _ (isD ms) g1 (st.trans (Step.fresh hp)) (R.fresh hp) (isD_rep ms) upd_same (R.new_of hp) (st.there _ hp) (q ms s1 s2)⟩⟩
def uSortF (tl : TL') : TL' := fun e g Q => tl e g fun ds g1 => ∃ ns, ds = isD ns ∧ ∀ ms : List Int, ms.Perm ns → ms.Pairwise (· ≤ ·) → Q (isD ms) g1
theorem q_sortF {p3 p4 : Pos} (ha : QF Y a tl) (g1 : Gl Y.X "sorted") (m1 : Y.X.mg "sorted" = none) (hs : starEach [a] Y.X.env = (false, eval a Y.X.env) :: starEach [] Y.X.env := by rfl) : QF Y (.Call (.Name "sorted" p3) [a] [] p4) (uSortF tl) :=
  QF.of (pe_callB cr_sortedI g1 m1 (by rfl) (pa_cons ha.pe pa_nil hs) (by decide) (by decide) hs rfl) fun σ H ev g Q Q' S w k => ⟨ev, g, _, S, w, fun b xs H1 ds g1 st R l hp nw h0 ⟨ns, ed, q⟩ => by
    subst ed
    have e := isD_of l
    subst e
    exact ⟨b, ns, rfl, SqL.of hp, fun ms p s1 s2 hp2 => k p _ _ (isD ms) g1 (st.trans (Step.fresh hp2)) (R.fresh hp2) (isD_rep ms) upd_same (R.new_of hp2) (st.there _ hp2) (q ms s1 s2)⟩⟩
def rMaxL : RL1 := fun ds Q => ∃ ns : List Int, ds = isD ns ∧ ns ≠ [] ∧ ∀ m, m ∈ ns → (∀ y ∈ ns, y ≤ m) → Q (.v (.int m))
theorem mono_max : Mono1 rMaxL := fun ds Q Q' h ⟨ns, e, n, q⟩ => ⟨ns, e, n, fun m h1 h2 => h _ (q m h1 h2)⟩
theorem c_max (hc : Y.X.calm = true) : CallD Y (.builtin "max") (dL1 rMaxL) := CallD.mk fun pins s σ H xs us ds g Q Q' I r R l w k => by
  match ds, l, w with
  | [d], .cons r1 .nil, ⟨es, ⟨a, ea, ga⟩, ns, eb, n0, q⟩ =>
    subst ea eb; cases r1
    obtain ⟨ys, h1, l1⟩ := lst_of R ga
    rw [isD_of l1] at h1
    exact cr_max hc pins s σ H _ us Q' I r ⟨a, ns, rfl, SqL.of h1, List.length_pos_iff.mpr n0, fun m h1 h2 => k _ _ (.atom R (q m h1 h2))⟩
def isRefD : D → Bool
  | .t _ => true
  | .k _ => true
  | .v (.ref _) => true
  | _ => false
theorem isRef_of {K : PySem.W.Frag} {H : Hp} {x : V} {d : D} {u : Value} (r : Rep K H x d) (h : isRefD d = true) (ru : RelV x u) : ∃ a, u = .ref a := by
  match d, r, h with
  | .t _, .t _ _, _ => exact ⟨_, ru⟩
  | .k _, .k _ _, _ => exact ⟨_, ru⟩
  | .v (.ref a), r, _ => cases r; exact ⟨_, ru⟩
def rRepr : RDL := fun xs g Q => ∃ d p, xs = [d] ∧ PD g d p ∧ isRefD d = true ∧ p.showable = true ∧ p.hasDict = false ∧ p.depth ≤ 60 ∧ p.shown.length ≤ sizeLine ∧ Q (.v (.str p.shown)) g
theorem c_repr (hg : Y.X.A.guards = some []) (hu : Y.X.A.units + 64 < cLine) : CallD Y (.builtin "repr") rRepr := CallD.mk fun pins s σ H xs us ds g Q Q' I r R l w k => by
  obtain ⟨d, p, ed, hp, hr, c1, c2, c3, c4, q⟩ := w
  subst ed
  cases l with
  | cons r1 l =>
    cases l
    obtain ⟨u, rfl, ru⟩ := vals1 r
    have dp := PX.dp R p r1 hp
    obtain ⟨a, rfl⟩ := isRef_of r1 hr ru
    obtain ⟨as, rd⟩ := Dp.reads I p _ _ dp ru
    exact repr_of_reads' rd c1 (PyData.noDict_hsm c2) hg (by omega) (fun b o e => e) (fun h' t tk kp => ⟨.str _, H, I.kept kp, ⟨_, rfl⟩, k _ _ (.atom R q)⟩) c4

/-! ### a slice of the script -/
def uSl (te : TE') (tl th : TP') : TL' := fun e g Q => te e g fun d g1 => tl e g1 fun i g2 => th e g2 fun j g3 => ∃ a ns, d = .v (.ref a) ∧ g3.s = some (a, ns) ∧ Q (cutD (isD ns) i j) g3
theorem q_slS {lo hi : Option Expr} {tl' th : TP'} (ha : QE Y a ta) (hl : QP Y lo tl') (hh : QP Y hi th) : QF Y (.Subscript a (.Slice lo hi none p2) pos) (uSl ta tl' th) :=
  QF.of (pe_slice sl_list ha.pe hl.po hh.po) fun σ H ev g Q Q' S w k => ⟨ev, g, _, S, w, fun x H1 ⟨d, g1, st, R, r, q⟩ => ⟨ev, g1, _, S.next st R, q, fun i H2 g2 st2 R2 q2 => ⟨ev, g2, _, (S.next st R).next st2 R2, q2, fun j H3 g3 st3 R3 ⟨b, ns, ed, hs, q3⟩ => by
    subst ed
    have r3 := (r.keep (st2.tu R)).keep (st3.tu R2)
    cases r3
    have s13 := (st.trans st2).trans st3
    exact ⟨b, _, rfl, (R3.scr b ns hs).seq, fun p hp => k p _ _ _ g3 (s13.trans (Step.fresh hp)) (R3.fresh hp) (cutD_rep (isD_rep ns)) upd_same (R3.new_of hp) (s13.there _ hp) q3⟩⟩⟩⟩
end

/-! ### the law's pen -/
section
variable {P : Program} {w : World} {K : PySem.W.Frag} {mg : Str → Option Value} {base : Heap} {k : Nat} {f : Addr} {fd : FuncData} {ps : List Str} {sp sp1 : Sp'}
theorem FnG.conv (F : FnG P w K mg base k f fd ps sp1) (len : ∀ ds g Q E, sp ds g Q E → ds.length = ps.length)
    (h : ∀ ds g Q E, sp ds g Q E → ∀ H, RepG K H g → ∃ g1 Q1, RepG K H g1 ∧ (∀ b, g1.dom b ↔ g.dom b) ∧ sp1 ds g1 Q1 (fun _ _ _ => False) ∧ ∀ d g' H', RepG K H' g' → Q1 d g' → ∃ g2, Q d g2 ∧ RepG K H' g2 ∧ ∀ b, g2.dom b → g'.dom b) : FnG P w K mg base k f fd ps sp :=
  ⟨len, fun A outer s H args us vs ds g Q E Q' E' hr e0 hb r R l hsp kQ kE => by
    obtain ⟨g1, Q1, R1, dm, h1, h2⟩ := h ds g Q E hsp H R
    refine F.run A outer s H args us vs ds g1 Q1 _ Q' E' hr e0 hb r R1 l h1 (fun x H' ⟨d, g', st, R', rx, q⟩ => ?_) fun _ _ _ _ _ _ z => z.elim
    obtain ⟨g2, q2, R2, d2⟩ := h2 d g' H' R' q
    exact kQ x H' ⟨d, g2, ⟨fun b o e n => st.keep b o e fun z => n ((dm b).mp z), fun b z => (st.dom b (d2 b z)).imp (dm b).mp id, st.there⟩, R2, rx, q2⟩⟩
end
def G.unpen (g : G) (pa ca : Addr) (cs : List Int) (i c : Int) : G :=
  ⟨fun b => if b = pa then some (.lst [.v (.ref ca), iD i, iD c]) else if b = ca then some (.lst (isD cs)) else g.o b, none, g.n, g.s⟩
def G.repen (g : G) (pa ca : Addr) (n : Nat) : G := ⟨fun b => if b = pa ∨ b = ca then none else g.o b, some (pa, ca), n, g.s⟩
/-- the pen's two lists as lists -/
structure Pen (g : G) (pa ca : Addr) (cs : List Int) (i c : Int) : Prop where
  a : g.o pa = some (.lst [.v (.ref ca), iD i, iD c])
  b : g.o ca = some (.lst (isD cs))
  ne : ca ≠ pa
  no : g.p = none
section
variable {K : PySem.W.Frag} {H : Hp} {g : G} {pa ca : Addr} {cs : List Int} {i c : Int} {n : Nat}
theorem RepG.unpen (R : RepG K H g) (h : g.p = some (pa, ca)) : ∃ (cs : List Int) (i c : Int), 0 ≤ i ∧ i ≤ g.n ∧ 0 ≤ c ∧ RepG K H (g.unpen pa ca cs i c) ∧ (∀ b, (g.unpen pa ca cs i c).dom b ↔ g.dom b) ∧ Pen (g.unpen pa ca cs i c) pa ca cs i c := by
  obtain ⟨n1, n2, ne, cs, i, c, e1, e2, h1, h2, h3⟩ := R.pen pa ca h
  have fc : (g.unpen pa ca cs i c).o ca = some (.lst (isD cs)) := (if_neg ne).trans (if_pos rfl)
  have fp : (g.unpen pa ca cs i c).o pa = some (.lst [.v (.ref ca), iD i, iD c]) := if_pos rfl
  have fo : ∀ b, b ≠ pa → b ≠ ca → (g.unpen pa ca cs i c).o b = g.o b := fun b h1 h2 => (if_neg h1).trans (if_neg h2)
  refine ⟨cs, i, c, h1, h2, h3, ⟨fun a m e => ?_, (fun _ _ e => by cases e), R.scr⟩, fun b => ⟨fun d => ?_, fun d => ?_⟩, fp, fc, ne, rfl⟩
  · by_cases ha : a = pa
    · subst ha
      rw [fp] at e; cases e
      exact ⟨_, e1, .cons (.v _) (.cons (.v _) (.cons (.v _) .nil))⟩
    · by_cases hc : a = ca
      · subst hc
        rw [fc] at e; cases e
        exact ⟨_, e2, isD_rep cs⟩
      · rw [fo a ha hc] at e
        exact R.obj a m e
  · rcases d with d | ⟨_, _, e, _⟩
    · by_cases ha : b = pa
      · exact .inr ⟨pa, ca, h, .inl ha⟩
      · by_cases hc : b = ca
        · exact .inr ⟨pa, ca, h, .inr hc⟩
        · rw [fo b ha hc] at d
          exact .inl d
    · cases e
  · by_cases ha : b = pa
    · exact .inl (by rw [ha, fp]; simp)
    · by_cases hc : b = ca
      · exact .inl (by rw [hc, fc]; simp)
      · rcases d with d | ⟨pa', ca', e, hb⟩
        · exact .inl (by rw [fo b ha hc]; exact d)
        · rw [h] at e; cases e
          rcases hb with hb | hb
          · exact absurd hb ha
          · exact absurd hb hc
theorem RepG.repen (R : RepG K H g) (p : Pen g pa ca cs i c) (h1 : 0 ≤ i) (h2 : i ≤ n) (h3 : 0 ≤ c) : RepG K H (g.repen pa ca n) ∧ ∀ b, (g.repen pa ca n).dom b → g.dom b := by
  refine ⟨⟨fun a m e => ?_, fun pa' ca' e => ?_, R.scr⟩, fun b d => ?_⟩
  · have e : (if a = pa ∨ a = ca then none else g.o a) = some m := e
    split at e
    · cases e
    · exact R.obj a m e
  · have e : some (pa, ca) = some (pa', ca') := e
    cases e
    obtain ⟨xs, e1, l1⟩ := R.obj _ _ p.a
    obtain ⟨ys, e2, l2⟩ := R.obj _ _ p.b
    refine ⟨if_pos (.inl rfl), if_pos (.inr rfl), p.ne, cs, i, c, ?_, by rw [e2, isD_of l2], h1, h2, h3⟩
    have x : [D.v (.ref ca), iD i, iD c] = [V.ref ca, V.int i, V.int c].map D.v := rfl
    rw [x] at l1
    rw [e1, l1.of_atoms]
  · rcases d with d | ⟨pa', ca', e, hb⟩
    · have d : (if b = pa ∨ b = ca then none else g.o b) ≠ none := d
      split at d
      · exact absurd rfl d
      · exact .inl d
    · have e : some (pa, ca) = some (pa', ca') := e
      cases e
      rcases hb with rfl | rfl
      · exact .inl (by rw [p.a]; simp)
      · exact .inl (by rw [p.b]; simp)
end
end SK
end
section
set_option maxHeartbeats 4000000
namespace SK
open PySem PySem.Spec PyProof.Rows L2

theorem RoomG.u65 {k : Nat} {A : Around} (x : RoomG k A) : A.units + 65 < cLine := by have := x.r.un; omega
/-- a block's names, by a check -/
def blkB (N : List Str) (sc scope : Scope) (own : List (Str × Nat)) : Bool :=
  decide (scope.kind = .function) && (scope.names.all fun y => decide (scope.names.lookup y.1 = some y.2)) && (own.all fun p => decide (N[p.2]? = some p.1)) &&
    (scope.names.all fun y => decide (y.2 = .free → sc.names.lookup y.1 = some .cell ∨ sc.names.lookup y.1 = some .free)) && scope.names.all fun y => decide (y.2 = .local ∨ y.2 = .cell → y.1 ∈ own.map (·.1) ∨ y.1 ∉ N)
theorem blk_ok {N : List Str} {sc scope : Scope} {own : List (Str × Nat)} (h : blkB N sc scope own = true) : BlkOk N sc scope own := by
  unfold blkB at h
  simp only [Bool.and_eq_true, List.all_eq_true, decide_eq_true_eq] at h
  obtain ⟨⟨⟨⟨h1, h2⟩, h3⟩, h4⟩, h5⟩ := h
  exact ⟨h1, h2, h3, h4, h5⟩
section
variable {P : Program} {w : World} {K : PySem.W.Frag} {mg : Str → Option Value} {base : Heap}
theorem kn_mk {k : Nat} {x : Str} {params : Arguments} {body : List Stmt} {scope : Scope} {N ps : List Str} {sp : Sp'} (F : ∃ fd, FunD K x x params body scope [] [] (He.ga K x) fd) (hm : mg x = some (.ref (He.ga K x))) (S : FnScope N ps scope)
    (hb : ∀ (kV doc pm : Value) (an : Option Addr) (cdv ct : Value) (us : List Value), us.length = ps.length → bindArgs (PySem.W.fnOf x x params body scope .none kV doc pm an cdv ct) ⟨us, []⟩ = pure (ps.zip us))
    (len : ∀ ds g Q E, sp ds g Q E → ds.length = ps.length)
    (hbody : ∀ (f : Addr) (cdv : Value) (A : Around) (outer : List Env) (s : Shared) (H : Hp) (g : G) (ds : List D) (Q : DK) (E : ExK) (E' : XK), RoomG k (A.deeper (envOfC x scope s.heap.objs.size f cdv)) → sp ds g Q E →
      TkD (yOf P w K mg base N x scope f cdv A outer s H g E') (fgX E) →
      ∃ t, QSs (yOf P w K mg base N x scope f cdv A outer s H g E') body t ∧ t (fgEn Q) (startE N ds) g) : Kn P w K mg base (k + 1) x sp := by
  obtain ⟨fd, F⟩ := F
  exact ⟨_, fd, ps, fng_of F S len (fun cdv A outer s H g ds Q E E' => hbody _ cdv A outer s H g ds Q E E'), hm, F.kp, F.bindsN hb⟩
theorem Kn.conv {k : Nat} {x : Str} {sp sp1 : Sp'} (F : Kn P w K mg base k x sp1) (len : ∀ ds g Q E, sp ds g Q E → ∃ ds' g1 Q1 E1, ds'.length = ds.length ∧ sp1 ds' g1 Q1 E1)
    (h : ∀ ds g Q E, sp ds g Q E → ∀ H, RepG K H g → ∃ g1 Q1, RepG K H g1 ∧ (∀ b, g1.dom b ↔ g.dom b) ∧ sp1 ds g1 Q1 (fun _ _ _ => False) ∧ ∀ d g' H', RepG K H' g' → Q1 d g' → ∃ g2, Q d g2 ∧ RepG K H' g2 ∧ ∀ b, g2.dom b → g'.dom b) : Kn P w K mg base k x sp := by
  obtain ⟨f, fd, ps, F, a, b, c⟩ := F
  exact ⟨f, fd, ps, F.conv (fun ds g Q E q => let ⟨ds', g1, Q1, E1, hl, z⟩ := len ds g Q E q; hl.symm.trans (F.len ds' g1 Q1 E1 z)) h, a, b, c⟩
end

theorem names_of {X : Cx} {x : Str} {C : Addr} (hg : Gl X x) (hm : X.mg x = some (.ref C)) (hdb : (x == ("__debug__" : Str)) = false := by decide) : Names X x (.ref C) := ⟨hg, hdb, .inl hm⟩
theorem exc_of {K : PySem.W.Frag} {h : Heap} {mg : Str → Option Value} {x : Str} (X : K.In h) (G : h.Ns mainGlobals mg) (c1 : (He.Fa.glo x).ok K = true) (c2 : (He.Fa.exc x).ok K = true) : ExcC K mg x (He.ga K x) := by
  obtain ⟨a, b, c, d⟩ := He.exc_ok c2
  exact ⟨a, He.glo_ok X G c1, b, c, d⟩

/-! ### loops by what they keep -/
section
variable {ok : G → Prop} {gd : TG'} {tb : TS'} {Z : En}
theorem loop_ind (J : List D → Ev → G → Prop)
    (step : ∀ (d : D) (r : List D) (e : Ev) (g : G) (L : Ev → G → Prop), (∀ e g, J r e g → L e g) → J (d :: r) e g → gd d e g fun e1 g1 => tb { Z with nx := fun e2 g2 => ok g2 ∧ L e2 g2, ct := fun e2 g2 => ok g2 ∧ L e2 g2, bk := Z.nx } e1 g1)
    (fin : ∀ e g, J [] e g → Z.nx e g) : ∀ (ds : List D) (e : Ev) (g : G), J ds e g → loopD ok gd tb Z ds e g
  | [], e, g, h => fin e g h
  | d :: r, e, g, h => step d r e g _ (fun e g j => loop_ind J step fin r e g j) h
theorem comp_ind {tt : TB'} {te : TE'} {e0 : Ev} {Q : List D → G → Prop} (J : List D → List D → G → Prop)
    (step : ∀ (d : D) (r acc : List D) (g : G) (L : List D → G → Prop), (∀ acc g, J r acc g → L acc g) → J (d :: r) acc g →
      gd d e0 g fun e2 g2 => tt e2 g2 fun b g3 => if b = true then te e2 g3 fun y g4 => ok g4 ∧ L (acc ++ [y]) g4 else ok g3 ∧ L acc g3)
    (fin : ∀ acc g, J [] acc g → Q acc g) : ∀ (ds acc : List D) (g : G), J ds acc g → compD ok gd tt te e0 ds acc g Q
  | [], acc, g, h => fin acc g h
  | d :: r, acc, g, h => step d r acc g _ (fun acc g j => comp_ind J step fin r acc g j) h
/-- a comprehension that changes nothing -/
theorem comp_pure {tt : TB'} {te : TE'} {e0 : Ev} {Q : List D → G → Prop} {g : G} (f : D → Bool) (h : D → D) (hok : ok g) : ∀ (ds acc : List D),
    (∀ d ∈ ds, ∀ (R : DK) (R0 : G → Prop), (if f d = true then R (h d) g else R0 g) → gd d e0 g fun e2 g2 => tt e2 g2 fun b g3 => if b = true then te e2 g3 R else R0 g3) → Q (acc ++ (ds.filter f).map h) g → compD ok gd tt te e0 ds acc g Q
  | [], acc, _, q => by
    show Q acc g
    simpa using q
  | d :: r, acc, step, q => by
    refine step d (by simp) _ _ ?_
    have step' : ∀ d ∈ r, ∀ (R : DK) (R0 : G → Prop), (if f d = true then R (h d) g else R0 g) → gd d e0 g fun e2 g2 => tt e2 g2 fun b g3 => if b = true then te e2 g3 R else R0 g3 := fun d hd => step d (by simp [hd])
    by_cases hf : f d = true
    · rw [if_pos hf]
      exact ⟨hok, comp_pure f h hok r _ step' (by simpa [hf] using q)⟩
    · rw [if_neg hf]
      exact ⟨hok, comp_pure f h hok r _ step' (by simpa [hf] using q)⟩
end
end SK
end
section
set_option maxHeartbeats 4000000
namespace SK
open PySem PySem.Spec PyProof.Rows L2
def tyP : PyData → String
  | .none => "NoneType"
  | .bool _ => "bool"
  | .int _ => "int"
  | .str _ => "str"
  | .tuple _ => "tuple"
  | .list _ => "list"
  | .dict _ => "dict"
theorem tyD_px {k : Bool} {g : G} {d : D} : ∀ (p : PyData), PX k g d p → tyD g d = some (tyP p)
  | .none, h => by cases h; rfl
  | .bool _, h => by cases h; rfl
  | .int _, h => by cases h; rfl
  | .str _, h => by cases h; rfl
  | .tuple _, h => by cases h <;> rfl
  | .list _, h => by
    cases h with
    | lst e _ => simp [tyD, e, tyP]
  | .dict _, h => by cases h
theorem PF.tuple {g : G} {d : D} {ps : List PyData} (h : PF g d (.tuple ps)) : ∃ ds, d = .t ds ∧ PFL g ds ps := by
  cases h with
  | tup h => exact ⟨_, rfl, h⟩
  | kup e _ => cases e
theorem PX.list {k : Bool} {g : G} {d : D} {ps : List PyData} (h : PX k g d (.list ps)) : ∃ a ds, d = .v (.ref a) ∧ g.o a = some (.lst ds) ∧ PXL k g ds ps := by
  cases h with
  | lst e h => exact ⟨_, _, rfl, e, h⟩
theorem PX.int_ {k : Bool} {g : G} {d : D} {i : Int} (h : PX k g d (.int i)) : d = .v (.int i) := by cases h; rfl
theorem PX.none_ {k : Bool} {g : G} {d : D} (h : PX k g d .none) : d = .v .non := by cases h; rfl
theorem PX.str_ {k : Bool} {g : G} {d : D} {i : Str} (h : PX k g d (.str i)) : d = .v (.str i) := by cases h; rfl
theorem PX.bool_ {k : Bool} {g : G} {d : D} {i : Bool} (h : PX k g d (.bool i)) : d = .v (.bl i) := by cases h; rfl
theorem PXL.length {k : Bool} {g : G} : ∀ {ds : List D} {ps : List PyData}, PXL k g ds ps → ds.length = ps.length
  | _, [], h => by cases h; rfl
  | _, _ :: _, h => by
    cases h with
    | cons h1 h2 => simp [PXL.length h2]
theorem PXL.ints {k : Bool} {g : G} : ∀ {ds : List D} {ns : List Int}, PXL k g ds (ns.map .int) → ds = isD ns
  | _, [], h => by cases h; rfl
  | _, n :: ns, h => by
    cases h with
    | cons h1 h2 => rw [PXL.ints h2, h1.int_]; rfl
theorem PXL.of_ints {k : Bool} {g : G} : ∀ (ns : List Int), PXL k g (isD ns) (ns.map .int)
  | [] => .nil
  | _ :: ns => .cons (.int _) (PXL.of_ints ns)
theorem PXL.get {k : Bool} {g : G} : ∀ {ds : List D} {ps : List PyData} {i : Nat} {p : PyData}, PXL k g ds ps → ps[i]? = some p → ∃ d, ds[i]? = some d ∧ PX k g d p
  | _, [], i, p, h, e => by simp at e
  | _, q :: ps, 0, p, h, e => by
    cases h with
    | cons h1 h2 => simp at e; subst e; exact ⟨_, rfl, h1⟩
  | _, q :: ps, i + 1, p, h, e => by
    cases h with
    | cons h1 h2 =>
      obtain ⟨d, e1, r⟩ := PXL.get (i := i) h2 (by simpa using e)
      exact ⟨d, by simpa using e1, r⟩
theorem PXL.append {k : Bool} {g : G} : ∀ {ds es : List D} {ps qs : List PyData}, PXL k g ds ps → PXL k g es qs → PXL k g (ds ++ es) (ps ++ qs)
  | _, _, [], _, h, h' => by cases h; exact h'
  | _, _, _ :: _, _, h, h' => by
    cases h with
    | cons h1 h2 => exact .cons h1 (PXL.append h2 h')
/-- a comprehension over data that tests or maps -/
theorem comp_bools {ok : G → Prop} {gd : TG'} {te : TE'} {e0 : Ev} {Q : List D → G → Prop} {g : G} {k : Bool} (b : PyData → Bool) (hok : ok g) : ∀ (ds : List D) (ps : List PyData) (acc : List Bool), PXL k g ds ps →
    (∀ d p, p ∈ ps → PX k g d p → ∀ R : DK, R (.v (.bl (b p))) g → gd d e0 g fun e2 g2 => te e2 g2 R) → Q ((acc ++ ps.map b).map fun b => .v (.bl b)) g → compD ok gd (fun _ g Q => Q true g) te e0 ds (acc.map fun b => .v (.bl b)) g Q
  | _, [], acc, h, step, q => by
    cases h
    show Q _ g
    simpa using q
  | _, p :: ps, acc, h, step, q => by
    cases h with
    | cons h1 h2 =>
      refine step _ p (by simp) h1 _ ⟨hok, ?_⟩
      have := comp_bools b hok _ ps (acc ++ [b p]) h2 (fun d p hp => step d p (by simp [hp])) (by simpa using q)
      simpa using this
/-! ### ints as data -/
def intsP (ns : List Int) : List PyData := ns.map .int
def toI : PyData → Int
  | .int i => i
  | _ => 0
theorem eqv_ints : ∀ ns ms : List Int, PyData.eqvAll (intsP ns) (intsP ms) = decide (ns = ms)
  | [], [] => by simp [intsP, PyData.eqvAll]
  | [], _ :: _ => by simp [intsP, PyData.eqvAll]
  | _ :: _, [] => by simp [intsP, PyData.eqvAll]
  | a :: r, b :: s => by
    have ih := eqv_ints r s
    unfold intsP at ih ⊢
    simp only [List.map_cons, PyData.eqvAll, PyData.eqv, ih, List.cons.injEq]
    by_cases h : a = b <;> simp [h]
theorem canLay_ints : ∀ ns : List Int, PyData.canLayAll0 (intsP ns) = true
  | [] => rfl
  | a :: r => by
    have ih := canLay_ints r
    unfold intsP at ih ⊢
    simpa [PyData.canLayAll0, PyData.canLay0] using ih
theorem depth_ints : ∀ ns : List Int, PyData.depthAll (intsP ns) = 0
  | [] => rfl
  | a :: r => by
    have ih := depth_ints r
    unfold intsP at ih ⊢
    simpa [PyData.depthAll, PyData.depth] using ih
theorem shaped_ints (ns : List Int) : SeqAt.shaped (.list (intsP ns)) = true := by
  simp [SeqAt.shaped, PyData.canLay0, PyData.depth, canLay_ints, depth_ints]
theorem inc_ext : ∀ {ns ms : List Int}, ns.Pairwise (· < ·) → ms.Pairwise (· < ·) → (∀ k, k ∈ ms ↔ k ∈ ns) → ns = ms
  | [], [], _, _, _ => rfl
  | [], b :: s, _, _, h => absurd ((h b).mp (by simp)) (by simp)
  | a :: r, [], _, _, h => absurd ((h a).mpr (by simp)) (by simp)
  | a :: r, b :: s, h1, h2, h => by
    obtain ⟨a1, r1⟩ := List.pairwise_cons.mp h1
    obtain ⟨b1, s1⟩ := List.pairwise_cons.mp h2
    have ab : a = b := by
      rcases List.mem_cons.mp ((h a).mpr (by simp)) with e | e
      · exact e
      · rcases List.mem_cons.mp ((h b).mp (by simp)) with e' | e'
        · exact e'.symm
        · have := a1 _ e'
          have := b1 _ e
          omega
    subst ab
    have : r = s := inc_ext r1 s1 fun k => by
      have hk := h k
      constructor
      · intro m
        rcases List.mem_cons.mp (hk.mp (by simp [m])) with e | e
        · have := b1 _ m; omega
        · exact e
      · intro m
        rcases List.mem_cons.mp (hk.mpr (by simp [m])) with e | e
        · have := a1 _ m; omega
        · exact e
    rw [this]
theorem eq_inc {ns ms : List Int} (h2 : ms.Pairwise (· < ·)) (h : ∀ k, k ∈ ms ↔ k ∈ ns) : decide (ns = ms) = decide (ns.Pairwise (· < ·)) := by
  by_cases e : ns = ms
  · subst e; simp [h2]
  · rw [decide_eq_false e]
    exact (decide_eq_false fun h1 => e (inc_ext h1 h2 h)).symm
theorem eqL_ints {ns ms : List Int} {g : G} {Q : DK} (q : Q (.v (.bl (decide (ns = ms)))) g) : eqL false (isD ns) (isD ms) g Q :=
  ⟨intsP ns, intsP ms, PXL.of_ints ns, PXL.of_ints ms, shaped_ints ns, shaped_ints ms, by rw [eqv_ints]; simpa using q⟩
/-- list(t) == sorted(set(t)) -/
theorem list_ss {i : Nat} {e : Ev} {g : G} {ns : List Int} {Q : DK} (he : e[i]? = some (some (.t (isD ns)))) (hz : ns.length < 63) (q : Q (.v (.bl (decide (ns.Pairwise (· < ·))))) g) : uEqFF false (uList (tV i)) (uSS (tV i)) e g Q :=
  ⟨_, he, _, rfl, _, he, ns, rfl, hz, fun ms h1 h2 => eqL_ints (by rw [eq_inc h1 h2]; exact q)⟩
/-! ### comprehensions over what stands for something -/
inductive All2 {α β : Type} (R : α → β → Prop) : List α → List β → Prop
  | nil : All2 R [] []
  | cons {a : α} {b : β} {l : List α} {m : List β} : R a b → All2 R l m → All2 R (a :: l) (b :: m)
theorem All2.length {α β : Type} {R : α → β → Prop} : ∀ {l : List α} {m : List β}, All2 R l m → l.length = m.length
  | _, _, .nil => rfl
  | _, _, .cons _ h => by rw [List.length_cons, List.length_cons, All2.length h]
theorem All2.imp {α β : Type} {R R' : α → β → Prop} (f : ∀ a b, R a b → R' a b) : ∀ {l : List α} {m : List β}, All2 R l m → All2 R' l m
  | _, _, .nil => .nil
  | _, _, .cons h t => .cons (f _ _ h) (All2.imp f t)
theorem All2.get {α β : Type} {R : α → β → Prop} : ∀ {l : List α} {m : List β} {i : Nat} {b : β}, All2 R l m → m[i]? = some b → ∃ a, l[i]? = some a ∧ R a b
  | _, _, i, b, .nil, e => by simp at e
  | _, _, 0, b, .cons h _, e => by simp at e; subst e; exact ⟨_, rfl, h⟩
  | _, _, i + 1, b, .cons _ t, e => by
    obtain ⟨a, e1, r⟩ := All2.get (i := i) t (by simpa using e)
    exact ⟨a, by simpa using e1, r⟩
theorem All2.append {α β : Type} {R : α → β → Prop} : ∀ {l l' : List α} {m m' : List β}, All2 R l m → All2 R l' m' → All2 R (l ++ l') (m ++ m')
  | _, _, _, _, .nil, h => h
  | _, _, _, _, .cons h t, h' => .cons h (All2.append t h')
theorem PXL.all2 {k : Bool} {g : G} : ∀ {ds : List D} {ps : List PyData}, PXL k g ds ps → All2 (PX k g) ds ps
  | _, [], h => by cases h; exact .nil
  | _, _ :: _, h => by
    cases h with
    | cons h1 h2 => exact .cons h1 (PXL.all2 h2)
theorem all2_self {α β : Type} (f : β → α) : ∀ m : List β, All2 (fun a b => a = f b) (m.map f) m
  | [] => .nil
  | b :: m => .cons rfl (all2_self f m)
section
variable {α : Type} {ok : G → Prop} {gd : TG'} {tt : TB'} {te : TE'} {e0 : Ev} {Q : List D → G → Prop} {g : G}
theorem comp_R (R : D → α → Prop) (f : α → Bool) (h : α → D) (hok : ok g) : ∀ (ds : List D) (as : List α) (acc : List D), All2 R ds as →
    (∀ d a, a ∈ as → R d a → ∀ (Rk : DK) (R0 : G → Prop), (f a = true → Rk (h a) g) → (f a = false → R0 g) → gd d e0 g fun e2 g2 => tt e2 g2 fun b g3 => if b = true then te e2 g3 Rk else R0 g3) → Q (acc ++ (as.filter f).map h) g → compD ok gd tt te e0 ds acc g Q
  | _, _, acc, .nil, _, q => by
    show Q acc g
    simpa using q
  | _, a :: as, acc, .cons r t, step, q => by
    have rest : ∀ acc', Q (acc' ++ (as.filter f).map h) g → compD ok gd tt te e0 _ acc' g Q := fun acc' q' => comp_R R f h hok _ as acc' t (fun d a hm => step d a (by simp [hm])) q'
    refine step _ a (by simp) r _ _ (fun e => ⟨hok, rest _ ?_⟩) fun e => ⟨hok, rest _ ?_⟩
    · simpa [e] using q
    · simpa [e] using q
theorem comp_R1 (R : D → α → Prop) (h : α → D) (hok : ok g) : ∀ (ds : List D) (as : List α) (acc : List D), All2 R ds as →
    (∀ d a, a ∈ as → R d a → ∀ Rk : DK, Rk (h a) g → gd d e0 g fun e2 g2 => te e2 g2 Rk) → Q (acc ++ as.map h) g → compD ok gd (fun _ g Q => Q true g) te e0 ds acc g Q
  | _, _, acc, .nil, _, q => by
    show Q acc g
    simpa using q
  | _, a :: as, acc, .cons r t, step, q =>
    step _ a (by simp) r _ ⟨hok, comp_R1 R h hok _ as _ t (fun d a hm => step d a (by simp [hm])) (by simpa using q)⟩
theorem rall_bools {f : List Bool → Bool} {Q : D → Prop} {bs : List Bool} (q : Q (.v (.bl (f bs)))) : rAllL f (bs.map fun b => .v (.bl b)) Q := ⟨bs, rfl, q⟩
end
section
variable {α : Type} {gd : TG'} {te : TE'} {e : Ev} {g : G} {Q : DK} {vs : List Nat}
/-- all([f(one) for one in x]), x what slot i holds -/
theorem all_seq {i : Nat} {d : D} {ds : List D} {as : List α} (R : D → α → Prop) (b : α → Bool) (he : e[i]? = some (some d)) (hi : items g d = some ds) (hz : ds.length ≤ sizeLine) (h : All2 R ds as)
    (step : ∀ d a, a ∈ as → R d a → ∀ Rk : DK, Rk (.v (.bl (b a))) g → gd d (wipeE e vs) g fun e2 g2 => te e2 g2 Rk) (q : Q (.v (.bl (as.all b))) g) :
    uF1 (rAllL fun bs => bs.all fun b => b) (uComp (iSeq (tV i)) gd (fun _ g Q => Q true g) te vs) e g Q := by
  refine ⟨_, he, ds, hi, hz, comp_R1 (ok := fun g => items g d = some ds) R (fun a => .v (.bl (b a))) hi ds as [] h step ?_⟩
  have e : ([] ++ as.map fun a => D.v (.bl (b a))) = (as.map b).map fun b => D.v (.bl b) := by simp
  rw [e]
  refine rall_bools ?_
  have e2 : (as.map b).all (fun b => b) = as.all b := by rw [List.all_map]; rfl
  rw [e2]
  exact q
theorem all_zip {i j : Nat} {d1 d2 : D} {xs ys : List D} {as : List α} (R : D → α → Prop) (b : α → Bool) (he : e[i]? = some (some d1)) (he2 : e[j]? = some (some d2)) (hi : items g d1 = some xs) (hj : items g d2 = some ys) (hz : (zipD xs ys).length ≤ sizeLine) (h : All2 R (zipD xs ys) as)
    (step : ∀ d a, a ∈ as → R d a → ∀ Rk : DK, Rk (.v (.bl (b a))) g → gd d (wipeE e vs) g fun e2 g2 => te e2 g2 Rk) (q : Q (.v (.bl (as.all b))) g) :
    uF1 (rAllL fun bs => bs.all fun b => b) (uComp (iZipD (uCons (tV i) (uCons (tV j) uNil))) gd (fun _ g Q => Q true g) te vs) e g Q := by
  refine ⟨_, he, _, he2, d1, d2, xs, ys, rfl, hi, hj, hz, comp_R1 (ok := fun g => items g d1 = some xs ∧ items g d2 = some ys) R (fun a => .v (.bl (b a))) ⟨hi, hj⟩ _ as [] h step ?_⟩
  have e : ([] ++ as.map fun a => D.v (.bl (b a))) = (as.map b).map fun b => D.v (.bl b) := by simp
  rw [e]
  refine rall_bools ?_
  have e2 : (as.map b).all (fun b => b) = as.all b := by rw [List.all_map]; rfl
  rw [e2]
  exact q
end
theorem all2_zip {α β : Type} {R : D → α → Prop} {S : D → β → Prop} : ∀ {xs ys : List D} {as : List α} {bs : List β}, All2 R xs as → All2 S ys bs → All2 (fun d q => ∃ x y, d = .k [x, y] ∧ R x q.1 ∧ S y q.2) (zipD xs ys) (as.zip bs)
  | _, _, _, _, .nil, _ => by simp [zipD]; exact .nil
  | _, _, _, _, .cons r t, .nil => by simp [zipD]; exact .nil
  | _, _, _, _, .cons r t, .cons r' t' => .cons ⟨_, _, rfl, r, r'⟩ (all2_zip t t')
theorem fgX.here {E : ExK} {c : Value} {dx : Option Addr} {e : Ev} {g : G} (h : E c dx g) : fgX E c dx e g := ⟨g, .refl, h⟩
theorem small {n : Nat} (h : n ≤ 1000000) : n ≤ sizeLine := by rw [sizeLine_eq]; omega
section
variable {α : Type} {gd : TG'} {te : TE'} {e : Ev} {g : G} {Q : DK} {vs : List Nat}
/-- f([h(one) for one in x]), x what slot i holds -/
theorem f1_seq {rl : RL1} {i : Nat} {d : D} {ds : List D} {as : List α} (R : D → α → Prop) (h : α → D) (he : e[i]? = some (some d)) (hi : items g d = some ds) (hz : ds.length ≤ sizeLine) (h2 : All2 R ds as)
    (step : ∀ d a, a ∈ as → R d a → ∀ Rk : DK, Rk (h a) g → gd d (wipeE e vs) g fun e2 g2 => te e2 g2 Rk) (q : rl (as.map h) fun d => Q d g) :
    uF1 rl (uComp (iSeq (tV i)) gd (fun _ g Q => Q true g) te vs) e g Q :=
  ⟨_, he, ds, hi, hz, comp_R1 (ok := fun g => items g d = some ds) R h hi ds as [] h2 step q⟩
end
theorem rsum_ints {ns : List Int} {Q : D → Prop} (q : Q (.v (.int ns.sum))) : rSumL (ns.map fun b => .v (.int b)) Q := ⟨ns, rfl, q⟩
/-! ### one statement at a time -/
section
variable {te : TE'} {tl : TL'} {i : Nat} {u : TS'} {Z : En} {e : Ev} {g : G} {d : D} {ds : List D}
theorem seq_ev (h : ∀ Q : DK, Q d g → te e g Q) (k : u Z (e.set i (some d)) g) : sSeq (sAsg te (vName i)) u Z e g := h _ k
theorem seq_new (h : ∀ Q : List D → G → Prop, Q ds g → tl e g Q) (k : ∀ p, g.new p → u Z (e.set i (some (.v (.ref p)))) (g.put p (.lst ds))) : sSeq (sAsg (tF tl) (vName i)) u Z e g := h _ k
end
theorem Le.news {g : G} {p : Addr} {m : MO} {g0 : G} (h : Le g0 g) (n : g.new p) : Le g0 (g.put p m) := h.trans (Le.put n)
theorem fg.le {Q : DK} {d : D} {g g0 : G} (l : Le g0 g) (h : Q d g0) : fg Q d g := ⟨g0, l, h⟩
/-- a value that changes nothing -/
def Vl (te : TE') (e : Ev) (g : G) (d : D) : Prop := ∀ Q : DK, Q d g → te e g Q
section
variable {ta tb : TE'} {e : Ev} {g : G} {x y : Int} {d d' : D} {i : Nat} {ds : List D}
theorem vl_v (h : e[i]? = some (some d)) : Vl (tV i) e g d := fun Q q => ⟨d, h, q⟩
theorem vl_k : Vl (tK d) e g d := fun Q q => q
theorem vl_add (a : Vl ta e g (iD x)) (b : Vl tb e g (iD y)) : Vl (tO dAdd ta tb) e g (iD (x + y)) := fun Q q => a _ (b _ q)
theorem vl_sub (a : Vl ta e g (iD x)) (b : Vl tb e g (iD y)) : Vl (tO dSub ta tb) e g (iD (x - y)) := fun Q q => a _ (b _ q)
theorem vl_mul (a : Vl ta e g (iD x)) (b : Vl tb e g (iD y)) (c : CMul x y) : Vl (tO dMul ta tb) e g (iD (x * y)) := fun Q q => a _ (b _ ⟨c, q⟩)
theorem vl_mod (a : Vl ta e g (iD x)) (b : Vl tb e g (iD y)) (c : y ≠ 0) : Vl (tO dMod ta tb) e g (iD (x.fmod y)) := fun Q q => a _ (b _ ⟨c, q⟩)
theorem vl_fdiv (a : Vl ta e g (iD x)) (b : Vl tb e g (iD y)) (c : CDivN x y) : Vl (tO dFdiv ta tb) e g (iD (x.fdiv y)) := fun Q q => a _ (b _ ⟨c, q⟩)
theorem vl_pow (a : Vl ta e g (iD x)) (b : Vl tb e g (iD y)) (c : CPow x y) : Vl (tO dPow ta tb) e g (iD (x ^ y.toNat)) := fun Q q => a _ (b _ ⟨c, q⟩)
theorem vl_int (a : Vl ta e g (iD x)) : Vl (uCall rInt (uCons ta uNil)) e g (iD x) := fun Q q => a _ q
theorem vl_ix (a : Vl ta e g d) (b : Vl tb e g (iD x)) (h : items g d = some ds) (h2 : atD ds x = some d') : Vl (tO dIx ta tb) e g d' := fun Q q => a _ (b _ ⟨ds, d', h, h2, q⟩)
theorem vl_len (a : Vl ta e g d) (h : items g d = some ds) : Vl (uCall rLenS (uCons ta uNil)) e g (iD (ds.length : Nat)) := fun Q q => a _ ⟨ds, h, q⟩
def Tl (t : TB') (e : Ev) (g : G) (b : Bool) : Prop := ∀ Q : Bool → G → Prop, Q b g → t e g Q
theorem tl_lt (a : Vl ta e g (iD x)) (b : Vl tb e g (iD y)) : Tl (SK.tB (tO dLt ta tb)) e g (decide (x < y)) := fun Q q => a _ (b _ ⟨_, rfl, q⟩)
theorem tl_le (a : Vl ta e g (iD x)) (b : Vl tb e g (iD y)) : Tl (SK.tB (tO dLe ta tb)) e g (decide (x ≤ y)) := fun Q q => a _ (b _ ⟨_, rfl, q⟩)
theorem tl_gt (a : Vl ta e g (iD x)) (b : Vl tb e g (iD y)) : Tl (SK.tB (tO dGt ta tb)) e g (decide (y < x)) := fun Q q => a _ (b _ ⟨_, rfl, q⟩)
theorem tl_ge (a : Vl ta e g (iD x)) (b : Vl tb e g (iD y)) : Tl (SK.tB (tO dGe ta tb)) e g (decide (y ≤ x)) := fun Q q => a _ (b _ ⟨_, rfl, q⟩)
theorem tl_eq (a : Vl ta e g (iD x)) (b : Vl tb e g (iD y)) : Tl (SK.tB (tO (dEq false) ta tb)) e g (decide (x = y)) := fun Q q => a _ (b _ (show SK.dEq false (iD x) (iD y) g _ from ⟨_, by simp, q⟩))
theorem tl_is (a : Vl ta e g d) : Tl (SK.tB (tO dIs ta (tK (.v .non)))) e g (nonD d) := fun Q q => a _ ⟨_, rfl, q⟩
theorem tl_isnot (a : Vl ta e g d) : Tl (SK.tB (tO dIsNot ta (tK (.v .non)))) e g (!nonD d) := fun Q q => a _ ⟨_, rfl, q⟩
theorem tl_not {t : TB'} {b : Bool} (a : Tl t e g b) : Tl (uNot t) e g (!b) := fun Q q => a _ q
variable {t u : TS'} {Z : En} {te : TE'} {b : Bool} {c : TB'}
theorem if_tl (h : Tl c e g b) (h1 : b = true → t Z e g) (h2 : b = false → u Z e g) : sIf c t u Z e g := h _ (by
  cases b with
  | true => exact h1 rfl
  | false => exact h2 rfl)
theorem seq_int (P : Int → Prop) (h : Vl te e g (iD x)) (hp : P x) (k : ∀ x, P x → u Z (e.set i (some (iD x))) g) : sSeq (sAsg te (vName i)) u Z e g := h _ (k x hp)
theorem ret_vl (h : Vl te e g d) (k : Z.rt d g) : sRet te Z e g := h _ k
end
section
variable {tl : TL'} {i j : Nat} {u : TS'} {Z : En} {e : Ev} {g : G} {ds xs ys : List D} {p : Addr}
theorem seq_lst (h : ∀ Q : List D → G → Prop, Q ds g → tl e g Q) (k : ∀ g' p, Le g g' → g.o p = none → g'.o p = some (.lst ds) → u Z (e.set i (some (.v (.ref p)))) g') : sSeq (sAsg (tF tl) (vName i)) u Z e g :=
  h _ fun p n => k _ p (Le.put n) n.1 G.put_same
theorem cat_put (hp : g.o p = some (.lst xs)) {p2 q : Addr} (n2 : g.new p2) (nq : (g.put p2 (.lst ys)).new q) : Le g ((g.put p2 (.lst ys)).put q (.lst (xs ++ ys))) ∧ g.o q = none := by
  refine ⟨(Le.put n2).news nq, ?_⟩
  by_cases h : q = p2
  · rw [h]; exact n2.1
  · have := nq.1
    rwa [G.put_ne h] at this
theorem seq_cat (he : e[j]? = some (some (.v (.ref p)))) (hp : g.o p = some (.lst xs)) (h : ∀ Q : List D → G → Prop, Q ys g → tl e g Q) (hz : xs.length + ys.length ≤ sizeLine)
    (k : ∀ g' q, Le g g' → g.o q = none → g'.o q = some (.lst (xs ++ ys)) → u Z (e.set i (some (.v (.ref q)))) g') : sSeq (sAsg (tO dAdd (tV j) (tF tl)) (vName i)) u Z e g := by
  refine ⟨_, he, h _ fun p2 n2 => ⟨xs, ys, ?_, G.put_same, hz, fun q nq => ?_⟩⟩
  · rw [G.put_ne (fun z => by subst z; rw [n2.1] at hp; cases hp)]
    exact hp
  · obtain ⟨l, n⟩ := cat_put hp n2 nq
    exact k _ q l n G.put_same
theorem lst_items (h : g.o p = some (.lst ds)) : items g (.v (.ref p)) = some ds := by simp only [items, h]
end
theorem seq_intE {te : TE'} {e : Ev} {g : G} {i : Nat} {u : TS'} {Z : En} (P : Int → Prop) (h : ∃ x, Vl te e g (iD x) ∧ P x) (k : ∀ x, P x → u Z (e.set i (some (iD x))) g) : sSeq (sAsg te (vName i)) u Z e g :=
  let ⟨_, h1, h2⟩ := h
  seq_int P h1 h2 k
theorem Le.write {g0 g : G} {a : Addr} {m : MO} (h : Le g0 g) (n : g0.o a = none) : Le g0 (g.put a m) :=
  ⟨fun b m' e => (G.put_ne (fun z => by subst z; rw [n] at e; cases e)).trans (h.o b m' e), h.p, h.s⟩
theorem ixN_nat {n : Nat} {i : Int} (h0 : 0 ≤ i) (h1 : i < (n : Nat)) : ixN n i = some i.toNat := by
  unfold ixN
  rw [if_pos h0, if_pos h1]
theorem atD_nat {ds : List D} {i : Int} {d : D} (h0 : 0 ≤ i) (h : ds[i.toNat]? = some d) : atD ds i = some d := by
  unfold atD
  have hl : i.toNat < ds.length := (List.getElem?_eq_some_iff.mp h).1
  rw [ixN_nat h0 (by omega)]
  exact h
theorem isD_get {ns : List Int} {i : Nat} {x : Int} (h : ns[i]? = some x) : (isD ns)[i]? = some (iD x) := by
  unfold isD
  rw [List.getElem?_map, h]
  rfl
theorem isD_set {ns : List Int} {i : Nat} {x : Int} : (isD ns).set i (iD x) = isD (ns.set i x) := by
  unfold isD
  rw [List.map_set]
theorem isD_len {ns : List Int} : (isD ns).length = ns.length := by unfold isD; rw [List.length_map]
theorem cutD_ints {ns : List Int} {i j : Option Int} : cutD (isD ns) i j = isD ((ns.drop (HT.sIx ns.length 0 i)).take (HT.sIx ns.length ns.length j - HT.sIx ns.length 0 i)) := by
  unfold cutD
  rw [isD_len]
  unfold isD
  rw [List.map_take, List.map_drop]
theorem fmod_bd {a b : Int} (h : 0 < b) : 0 ≤ a.fmod b ∧ a.fmod b < b := ⟨Int.fmod_nonneg_of_pos _ h, Int.fmod_lt_of_pos _ h⟩
def penG : G := ⟨fun b => if b = 0 then some (.lst [.v (.ref 1), iD 0, iD 0]) else if b = 1 then some (.lst []) else none, none, 0, none⟩
theorem penG_pen : Pen penG 0 1 [] 0 0 := ⟨rfl, rfl, by decide, rfl⟩
/-! ### the pen's place -/
def G.tick (g : G) (k : Nat) : G := { g with n := g.n + k }
theorem tick_tick {g : G} {a b : Nat} : (g.tick a).tick b = g.tick (a + b) := by unfold G.tick; simp [Nat.add_assoc]
theorem tick_le {g : G} {a b : Nat} (h : a ≤ b) : Le (g.tick b) (g.tick a) := ⟨fun _ _ e => e, .inr ⟨rfl, Nat.add_le_add_left h _⟩, .inr rfl⟩
theorem tick_items {g : G} {a : Nat} {d : D} : items (g.tick a) d = items g d := by
  cases d with
  | v x => cases x <;> rfl
  | _ => rfl
theorem Le.tick {g g' : G} {a : Nat} (h : Le g g') : Le (g.tick a) (g'.tick a) := ⟨h.o, h.p.imp id fun q => ⟨q.1, Nat.add_le_add_right q.2 _⟩, h.s⟩
theorem Le.items {g g' : G} {d : D} {ds : List D} (h : Le g g') (i : items g d = some ds) : items g' d = some ds := by
  cases d with
  | v x =>
    cases x with
    | ref a =>
      have i : (match g.o a with
        | some (.lst ds) => some ds
        | _ => none) = some ds := i
      cases q : g.o a with
      | none => rw [q] at i; cases i
      | some m =>
        rw [q] at i
        cases m <;> cases i
        exact lst_items (h.o _ _ q)
    | _ => cases i
  | _ => exact i
/-- what fits the pen's calls: the place may only grow by what is told -/
theorem Le.trans_tick {g0 g1 g2 : G} {a b : Nat} (h1 : Le (g0.tick a) g1) (h2 : Le (g1.tick b) g2) : Le (g0.tick (a + b)) g2 := by
  rw [← tick_tick]
  exact h1.tick.trans h2
theorem Le.pen {g0 g : G} {q : Addr × Addr} (l : Le g0 g) (h : g0.p = some q) : g.p = some q ∧ g.n ≤ g0.n := by
  rcases l.p with e | ⟨e, n⟩
  · rw [h] at e; cases e
  · exact ⟨e ▸ h, n⟩
theorem rng_drop {lo : Int} {n i : Nat} (h : i < n) : (rng lo n).drop i = .v (.int (lo + (i : Nat))) :: (rng lo n).drop (i + 1) := by
  have hl : i < (rng lo n).length := by simp [rng, h]
  rw [List.drop_eq_getElem_cons hl]
  simp [rng]
theorem rng_nil {lo : Int} {n i : Nat} (h : n ≤ i) : (rng lo n).drop i = [] := List.drop_of_length_le (by simp [rng]; exact h)
theorem rng_len {lo : Int} {n : Nat} : (rng lo n).length = n := by simp [rng]
/-- a comprehension over a range: J i acc g -/
theorem comp_rng {gd : TG'} {tt : TB'} {te : TE'} {e0 : Ev} {Q : List D → G → Prop} {ok : G → Prop} {lo : Int} {n : Nat} (J : Nat → List D → G → Prop)
    (step : ∀ (i : Nat) (acc : List D) (g : G) (L : List D → G → Prop), i < n → (∀ acc g, J (i + 1) acc g → L acc g) → J i acc g →
      gd (.v (.int (lo + (i : Nat)))) e0 g fun e2 g2 => tt e2 g2 fun b g3 => if b = true then te e2 g3 fun y g4 => ok g4 ∧ L (acc ++ [y]) g4 else ok g3 ∧ L acc g3)
    (fin : ∀ acc g, J n acc g → Q acc g) (acc : List D) (g : G) (h : J 0 acc g) : compD ok gd tt te e0 (rng lo n) acc g Q := by
  refine comp_ind (fun r acc g => ∃ i, i ≤ n ∧ r = (rng lo n).drop i ∧ J i acc g) (fun d r acc g L hL ⟨i, hi, er, j⟩ => ?_) (fun acc g ⟨i, hi, er, j⟩ => ?_) _ _ _ ⟨0, Nat.zero_le _, rfl, h⟩
  · have hlt : i < n := by
      refine Nat.lt_of_not_le fun h => ?_
      rw [rng_nil h] at er
      cases er
    rw [rng_drop hlt] at er
    obtain ⟨e1, e2⟩ := List.cons.inj er
    subst e1
    exact step i acc g L hlt (fun acc g j => hL acc g ⟨i + 1, hlt, e2, j⟩) j
  · have : n ≤ i := Nat.le_of_not_lt fun h => by
      rw [rng_drop h] at er
      cases er
    have e : i = n := Nat.le_antisymm hi this
    subst e
    exact fin acc g j
/-- a loop over a range: J i e g -/
theorem loop_rng {ok : G → Prop} {gd : TG'} {tb : TS'} {Z : En} {lo : Int} {n : Nat} (J : Nat → Ev → G → Prop)
    (step : ∀ (i : Nat) (e : Ev) (g : G) (L : Ev → G → Prop), i < n → (∀ e g, J (i + 1) e g → L e g) → J i e g →
      gd (.v (.int (lo + (i : Nat)))) e g fun e1 g1 => tb { Z with nx := fun e2 g2 => ok g2 ∧ L e2 g2, ct := fun e2 g2 => ok g2 ∧ L e2 g2, bk := Z.nx } e1 g1)
    (fin : ∀ e g, J n e g → Z.nx e g) (e : Ev) (g : G) (h : J 0 e g) : loopD ok gd tb Z (rng lo n) e g := by
  refine loop_ind (fun r e g => ∃ i, i ≤ n ∧ r = (rng lo n).drop i ∧ J i e g) ?st ?fi _ _ _ ⟨0, Nat.zero_le _, rfl, h⟩
  case st =>
    intro d r e g L hL ⟨i, hi, er, j⟩
    have hlt : i < n := by
      refine Nat.lt_of_not_le fun h => ?_
      rw [rng_nil h] at er
      cases er
    rw [rng_drop hlt] at er
    obtain ⟨e1, e2⟩ := List.cons.inj er
    subst e1
    exact step i e g L hlt (fun e g j => hL e g ⟨i + 1, hlt, e2, j⟩) j
  case fi =>
    intro e g ⟨i, hi, er, j⟩
    have : n ≤ i := Nat.le_of_not_lt fun h => by
      rw [rng_drop h] at er
      cases er
    have e : i = n := Nat.le_antisymm hi this
    subst e
    exact fin _ g j
end SK
end
section
set_option maxHeartbeats 4000000
set_option exponentiation.threshold 2000
namespace SK
open PySem PySem.Spec PyProof.Rows L2

/-! ### expressions by the data that they give; what is tracked only grows -/
def Lt (te : TE') (e : Ev) (g0 : G) (p : PyData) : Prop := ∀ g, Le g0 g → ∀ Q : DK, (∀ g' d, Le g g' → PF g' d p → Q d g') → te e g Q
def LtL (t : TL') (e : Ev) (g0 : G) (ps : List PyData) : Prop := ∀ g, Le g0 g → ∀ Q : List D → G → Prop, (∀ g' ds, Le g g' → PFL g' ds ps → Q ds g') → t e g Q
def LtP (t : TP') (e : Ev) (g0 : G) (i : Option Int) : Prop := ∀ g, Le g0 g → ∀ Q : Option Int → G → Prop, (∀ g', Le g g' → Q i g') → t e g Q
def cutP (ps : List PyData) (lo hi : Option Int) : List PyData := (ps.drop (HT.sIx ps.length 0 lo)).take (HT.sIx ps.length ps.length hi - HT.sIx ps.length 0 lo)
theorem PXL.drop {k : Bool} {g : G} : ∀ (n : Nat) {ds : List D} {ps : List PyData}, PXL k g ds ps → PXL k g (ds.drop n) (ps.drop n)
  | 0, _, _, h => h
  | _ + 1, _, [], h => by cases h; exact .nil
  | n + 1, _, _ :: _, h => by
    cases h with
    | cons h1 h2 => exact PXL.drop n h2
theorem PXL.take {k : Bool} {g : G} : ∀ (n : Nat) {ds : List D} {ps : List PyData}, PXL k g ds ps → PXL k g (ds.take n) (ps.take n)
  | 0, _, _, h => by simp; exact .nil
  | _ + 1, _, [], h => by cases h; exact .nil
  | n + 1, _, _ :: _, h => by
    cases h with
    | cons h1 h2 => exact .cons h1 (PXL.take n h2)
theorem PXL.cut {k : Bool} {g : G} {ds : List D} {ps : List PyData} {lo hi : Option Int} (h : PXL k g ds ps) : PXL k g (cutD ds lo hi) (cutP ps lo hi) := by
  unfold cutD cutP
  rw [h.length]
  exact (h.drop _).take _
theorem PXL.rep {k : Bool} {g : G} {ds : List D} {ps : List PyData} (h : PXL k g ds ps) : ∀ n : Nat, PXL k g (List.replicate n ds).flatten (List.replicate n ps).flatten
  | 0 => .nil
  | n + 1 => by
    rw [List.replicate_succ, List.replicate_succ, List.flatten_cons, List.flatten_cons]
    exact h.append (PXL.rep h n)
section
variable {e : Ev} {g : G} {ta tb : TE'} {tr tl : TL'} {p : PyData} {ps qs : List PyData} {i : Int} {d : D} {tp th : TP'} {lo hi : Option Int} {c : TB'} {b : Bool}
theorem lt_none : Lt (tK (.v .non)) e g .none := fun _ _ _ k => k _ _ .refl .non
theorem lt_bool : Lt (tK (.v (.bl b))) e g (.bool b) := fun _ _ _ k => k _ _ .refl (.bl b)
theorem lt_int : Lt (tK (.v (.int i))) e g (.int i) := fun _ _ _ k => k _ _ .refl (.int i)
theorem lt_str {x : Str} : Lt (tK (.v (.str x))) e g (.str x) := fun _ _ _ k => k _ _ .refl (.str x)
theorem lt_vl (h : ∀ g', Le g g' → Vl ta e g' (iD i)) : Lt ta e g (.int i) := fun g' l _ k => h g' l _ (k _ _ .refl (.int i))
theorem lt_neg (a : Lt ta e g (.int i)) : Lt (fun e g Q => ta e g fun d g1 => ∃ i, d = .v (.int i) ∧ Q (.v (.int (-i))) g1) e g (.int (-i)) := fun g' l Q k => a g' l _ fun g2 d l2 h => by
  cases h
  exact ⟨i, rfl, k _ _ l2 (.int _)⟩
theorem lt_v {j : Nat} (h : e[j]? = some (some d)) (r : PF g d p) : Lt (tV j) e g p := fun g' l Q k => ⟨d, h, k _ _ .refl (PX.le l _ r)⟩
theorem ltl_nil : LtL uNil e g [] := fun _ _ _ k => k _ _ .refl .nil
theorem ltl_cons (a : Lt ta e g p) (r : LtL tr e g ps) : LtL (uCons ta tr) e g (p :: ps) := fun g' l Q k => a g' l _ fun g2 d l2 h => r g2 (l.trans l2) _ fun g3 ds l3 hs => k _ _ (l2.trans l3) (.cons (PX.le l3 _ h) hs)
theorem lt_tup (a : LtL tr e g ps) (z : ps.length ≤ sizeLine) : Lt (uTup tr) e g (.tuple ps) := fun g' l Q k => a g' l _ fun g2 ds l2 h => ⟨by rw [h.length]; exact z, k _ _ l2 (.tup h)⟩
theorem lt_lst (a : LtL tr e g ps) (z : ps.length ≤ sizeLine) : Lt (tF (uLst tr)) e g (.list ps) := fun g' l Q k => a g' l _ fun g2 ds l2 h => ⟨by rw [h.length]; exact z, fun q n => k _ _ (l2.news n) (.lst G.put_same (PXL.le (Le.put n) _ h))⟩
theorem lt_add_t (a : Lt ta e g (.tuple ps)) (b : Lt tb e g (.tuple qs)) (z : ps.length + qs.length ≤ sizeLine) : Lt (tO dAdd ta tb) e g (.tuple (ps ++ qs)) := fun g' l Q k => a g' l _ fun g2 d l2 h => b g2 (l.trans l2) _ fun g3 d' l3 h' => by
  obtain ⟨ds, rfl, hl⟩ := h.tuple
  obtain ⟨es, rfl, hl'⟩ := h'.tuple
  exact ⟨by rw [hl.length, hl'.length]; exact z, k _ _ (l2.trans l3) (.tup ((PXL.le l3 _ hl).append hl'))⟩
theorem lt_add_l (a : Lt ta e g (.list ps)) (b : Lt tb e g (.list qs)) (z : ps.length + qs.length ≤ sizeLine) : Lt (tO dAdd ta tb) e g (.list (ps ++ qs)) := fun g' l Q k => a g' l _ fun g2 d l2 h => b g2 (l.trans l2) _ fun g3 d' l3 h' => by
  obtain ⟨x, ds, rfl, hx, hl⟩ := h.list
  obtain ⟨y, es, rfl, hy, hl'⟩ := h'.list
  exact ⟨ds, es, l3.o _ _ hx, hy, by rw [hl.length, hl'.length]; exact z, fun q n => k _ _ ((l2.trans l3).news n) (.lst G.put_same (PXL.le (Le.put n) _ ((PXL.le l3 _ hl).append hl')))⟩
theorem lt_mul_t {m : Int} (a : Lt ta e g (.tuple ps)) (b : Lt tb e g (.int m)) (z : 0 ≤ m ∧ m ≤ 1000 ∧ ps.length ≤ 1000) : Lt (tO dMul ta tb) e g (.tuple (List.replicate m.toNat ps).flatten) := fun g' l Q k => a g' l _ fun g2 d l2 h => b g2 (l.trans l2) _ fun g3 d' l3 h' => by
  obtain ⟨ds, rfl, hl⟩ := h.tuple
  cases h'
  exact ⟨by omega, z.2.1, by rw [hl.length]; exact z.2.2, k _ _ (l2.trans l3) (.tup ((PXL.le l3 _ hl).rep _))⟩
theorem lt_mul_l {m : Int} (a : Lt ta e g (.list ps)) (b : Lt tb e g (.int m)) (z : 0 ≤ m ∧ m ≤ 1000 ∧ ps.length ≤ 1000) : Lt (tO dMul ta tb) e g (.list (List.replicate m.toNat ps).flatten) := fun g' l Q k => a g' l _ fun g2 d l2 h => b g2 (l.trans l2) _ fun g3 d' l3 h' => by
  obtain ⟨x, ds, rfl, hx, hl⟩ := h.list
  cases h'
  have hz := hl.length
  have h1 : ds.length * m.toNat ≤ 1000 * 1000 := Nat.mul_le_mul (by omega) (by omega)
  exact ⟨ds, l3.o _ _ hx, by omega, by omega, Nat.le_trans h1 (by decide), fun q n => k _ _ ((l2.trans l3).news n) (.lst G.put_same (PXL.le (Le.put n) _ ((PXL.le l3 _ hl).rep _)))⟩
theorem lt_list_t (a : Lt ta e g (.tuple ps)) : Lt (tF (uList ta)) e g (.list ps) := fun g' l Q k => a g' l _ fun g2 d l2 h => by
  obtain ⟨ds, rfl, hl⟩ := h.tuple
  exact ⟨ds, rfl, fun q n => k _ _ (l2.news n) (.lst G.put_same (PXL.le (Le.put n) _ hl))⟩
theorem ltp_none : LtP (fun e g Q => Q none g) e g none := fun _ _ _ k => k _ .refl
theorem ltp_some (a : Lt ta e g (.int i)) : LtP (fun e g Q => ta e g fun d g1 => ∃ i, d = .v (.int i) ∧ Q (some i) g1) e g (some i) := fun g' l Q k => a g' l _ fun g2 d l2 h => by
  cases h
  exact ⟨i, rfl, k _ l2⟩
theorem lt_sl (a : Lt ta e g (.tuple ps)) (x : LtP tp e g lo) (y : LtP th e g hi) : Lt (fun e g Q => ta e g fun d g1 => tp e g1 fun i g2 => th e g2 fun j g3 => match d with
      | .t ds => Q (.t (cutD ds i j)) g3
      | .v (.ref b) => ∃ ds, g3.o b = some (.lst ds) ∧ ∀ p, g3.new p → Q (.v (.ref p)) (g3.put p (.lst (cutD ds i j)))
      | _ => False) e g (.tuple (cutP ps lo hi)) := fun g' l Q k => a g' l _ fun g2 d l2 h => x g2 (l.trans l2) _ fun g3 l3 => y g3 ((l.trans l2).trans l3) _ fun g4 l4 => by
  obtain ⟨ds, rfl, hl⟩ := h.tuple
  exact k _ _ ((l2.trans l3).trans l4) (.tup (PXL.le (l3.trans l4) _ hl).cut)
theorem lt_if (h : ∀ g', Le g g' → Tl c e g' b) (h1 : b = true → Lt ta e g p) (h2 : b = false → Lt tb e g p) : Lt (uIf c ta tb) e g p := fun g' l Q k => h g' l _ (by
  cases b with
  | true => exact h1 rfl g' l Q k
  | false => exact h2 rfl g' l Q k)
/-- a name is set to data -/
theorem seq_lt {te : TE'} {j : Nat} {u : TS'} {Z : En} (h : Lt te e g p) (k : ∀ g' d, Le g g' → PF g' d p → u Z (e.set j (some d)) g') : sSeq (sAsg te (vName j)) u Z e g := h g .refl _ k
end

/-! ### how long a text of it is -/
mutual
def wt : PyData → Nat
  | .none => 6
  | .bool _ => 6
  | .int _ => 60
  | .str x => 12 * x.length + 4
  | .list ps => wtAll ps + 4
  | .tuple ps => wtAll ps + 4
  | .dict _ => 0
def wtAll : List PyData → Nat
  | [] => 0
  | p :: ps => wt p + 2 + wtAll ps
end
mutual
/-- data that may be written and compared; its ints have at most 45 figures -/
def okB : PyData → Bool
  | .none => true
  | .bool _ => true
  | .int i => decide (i.natAbs < 10 ^ 45)
  | .str x => decide (x.length ≤ 40) && PyData.strOk x
  | .list ps => okAll ps
  | .tuple ps => okAll ps
  | .dict _ => false
def okAll : List PyData → Bool
  | [] => true
  | p :: ps => okB p && okAll ps
end
theorem textFrom_le : ∀ (ts : List Str) (k : Nat) (acc : Str), (textFrom k acc ts).length ≤ acc.length + piled ts
  | [], k, acc => by show acc.length ≤ acc.length + 0; omega
  | t :: r, k, acc => by
    have h := textFrom_le r (k + 1) (acc ++ (if k > 0 then ", " else "" : String) ++ t)
    have e : (acc ++ (if k > 0 then ", " else "" : String) ++ t).length = acc.length + (if k > 0 then 2 else 0) + t.length := by
      rw [strLen_append, strLen_append]
      split <;> rfl
    rw [e] at h
    rw [piled_cons]
    have h' : (textFrom k acc (t :: r)).length ≤ acc.length + (if k > 0 then 2 else 0) + t.length + piled r := h
    split at h' <;> omega
theorem listText_le (ts : List Str) : (listText ts).length ≤ piled ts + 4 := by
  have h := textFrom_le ts 0 "["
  have e : (listText ts).length = (textFrom 0 "[" ts).length + 1 := by
    unfold listText
    rw [strLen_append] <;> rfl
  have e1 : (("[" : String) : Str).length = 1 := rfl
  rw [e1] at h
  omega
theorem tupleText_le (ts : List Str) : (tupleText ts).length ≤ piled ts + 4 := by
  have e : (tupleText ts).length ≤ 1 + (Str.join ", " ts).length + 2 := by
    unfold tupleText
    rw [strLen_append, strLen_append]
    have e1 : (("(" : String) : Str).length = 1 := rfl
    have e2 : ((if ts.length == 1 then ",)" else ")" : String) : Str).length ≤ 2 := by split <;> decide
    have e1' : ("(" : Str).length = 1 := rfl
    omega
  by_cases h : ts = []
  · subst h
    have : (Str.join ", " ([] : List Str)).length = 0 := rfl
    omega
  · have := join_length_add ts h
    omega
mutual
theorem shown_wt : ∀ p : PyData, okB p = true → p.shown.length ≤ wt p
  | .none, _ => by simp only [PyData.shown]; decide
  | .bool b, _ => by cases b <;> simp only [PyData.shown] <;> decide
  | .int i, h => by
    have h1 : i.natAbs < 10 ^ 45 := of_decide_eq_true h
    have := int_text_length_le10 (k := 45) (by decide) h1
    simp only [PyData.shown, wt]
    show (Str.ofString (toString i)).length ≤ 60
    rw [PySem.ofString_length]
    omega
  | .str x, h => by
    have h1 := (Bool.and_eq_true_iff.mp (show (decide (x.length ≤ 40) && PyData.strOk x) = true from h)).2
    simp only [PyData.shown, wt]
    have h2 : ∀ c ∈ x.cps.toList, c < 16 ^ 8 := fun c hc => by
      have := Array.all_eq_true.mp h1
      obtain ⟨i, hi, e⟩ := List.mem_iff_getElem.mp hc
      have hi' : i < x.cps.size := by simpa using hi
      have := this i hi'
      rw [← Array.getElem_toList, e] at this
      have := of_decide_eq_true this
      omega
    have := StrLaws.reprText_len x h2
    omega
  | .list ps, h => by
    have := shown_wtAll ps h
    have h2 := listText_le (PyData.shownAll ps)
    simp only [PyData.shown, wt]
    omega
  | .tuple ps, h => by
    have := shown_wtAll ps h
    have h2 := tupleText_le (PyData.shownAll ps)
    simp only [PyData.shown, wt]
    omega
  | .dict _, h => by cases h
theorem shown_wtAll : ∀ ps : List PyData, okAll ps = true → piled (PyData.shownAll ps) ≤ wtAll ps
  | [], _ => by simp [PyData.shownAll, piled]
  | p :: ps, h => by
    obtain ⟨h1, h2⟩ := Bool.and_eq_true_iff.mp (show (okB p && okAll ps) = true from h)
    have a := shown_wt p h1
    have b := shown_wtAll ps h2
    simp only [PyData.shownAll, wtAll, piled_cons]
    omega
end
mutual
theorem okB_show : ∀ p : PyData, okB p = true → p.showable = true ∧ p.canLay0 = true ∧ p.hasDict = false
  | .none, _ => ⟨rfl, rfl, rfl⟩
  | .bool _, _ => ⟨rfl, rfl, rfl⟩
  | .int i, h => by
    have h1 : i.natAbs < 10 ^ 45 := of_decide_eq_true h
    refine ⟨decide_eq_true ?_, rfl, rfl⟩
    by_cases h0 : i.natAbs = 0
    · rw [h0]; decide
    · refine (Nat.log2_lt h0).mpr (Nat.lt_of_lt_of_le h1 ?_)
      exact Nat.le_trans (show 10 ^ 45 ≤ 2 ^ 150 by decide) (Nat.pow_le_pow_right (by decide) (by decide))
  | .str x, h => by
    have h1 := (Bool.and_eq_true_iff.mp (show (decide (x.length ≤ 40) && PyData.strOk x) = true from h)).2
    exact ⟨rfl, h1, rfl⟩
  | .list ps, h => okAll_show ps h
  | .tuple ps, h => okAll_show ps h
  | .dict _, h => by cases h
theorem okAll_show : ∀ ps : List PyData, okAll ps = true → PyData.showableAll ps = true ∧ PyData.canLayAll0 ps = true ∧ PyData.hasDictAll ps = false
  | [], _ => ⟨rfl, rfl, rfl⟩
  | p :: ps, h => by
    obtain ⟨h1, h2⟩ := Bool.and_eq_true_iff.mp (show (okB p && okAll ps) = true from h)
    obtain ⟨a1, a2, a3⟩ := okB_show p h1
    obtain ⟨b1, b2, b3⟩ := okAll_show ps h2
    simp [PyData.showableAll, PyData.canLayAll0, PyData.hasDictAll, a1, a2, a3, b1, b2, b3]
end
def niceB (d w : Nat) (p : PyData) : Bool := okB p && decide (p.depth ≤ d) && decide (wt p ≤ w)
theorem nice_iff {d w : Nat} {p : PyData} : niceB d w p = true ↔ okB p = true ∧ p.depth ≤ d ∧ wt p ≤ w := by
  unfold niceB
  simp only [Bool.and_eq_true, decide_eq_true_eq, and_assoc]
def niceAll (d w : Nat) (ps : List PyData) : Prop := ∀ p ∈ ps, niceB d w p = true
theorem niceAll.parts {d w : Nat} : ∀ {ps : List PyData}, niceAll d w ps → okAll ps = true ∧ PyData.depthAll ps ≤ d ∧ wtAll ps ≤ (w + 2) * ps.length
  | [], _ => ⟨rfl, Nat.zero_le _, Nat.le_refl _⟩
  | p :: ps, h => by
    obtain ⟨a1, a2, a3⟩ := nice_iff.mp (h p (by simp))
    obtain ⟨b1, b2, b3⟩ := niceAll.parts (ps := ps) fun q hq => h q (by simp [hq])
    refine ⟨?_, ?_, ?_⟩
    · show (okB p && okAll ps) = true
      rw [a1, b1] <;> rfl
    · show max p.depth (PyData.depthAll ps) ≤ d
      exact Nat.max_le.mpr ⟨a2, b2⟩
    · show wt p + 2 + wtAll ps ≤ _
      rw [List.length_cons, Nat.mul_succ]
      omega
theorem nice_tuple {d w n : Nat} {ps : List PyData} (h : niceAll d w ps) (hn : ps.length ≤ n) : niceB (d + 1) ((w + 2) * n + 4) (.tuple ps) = true := by
  obtain ⟨a, b, c⟩ := h.parts
  have : (w + 2) * ps.length ≤ (w + 2) * n := Nat.mul_le_mul_left _ hn
  refine nice_iff.mpr ⟨a, ?_, ?_⟩
  · show PyData.depthAll ps + 1 ≤ d + 1
    omega
  · show wtAll ps + 4 ≤ _
    omega
theorem nice_list {d w n : Nat} {ps : List PyData} (h : niceAll d w ps) (hn : ps.length ≤ n) : niceB (d + 1) ((w + 2) * n + 4) (.list ps) = true := by
  obtain ⟨a, b, c⟩ := h.parts
  have : (w + 2) * ps.length ≤ (w + 2) * n := Nat.mul_le_mul_left _ hn
  refine nice_iff.mpr ⟨a, ?_, ?_⟩
  · show PyData.depthAll ps + 1 ≤ d + 1
    omega
  · show wtAll ps + 4 ≤ _
    omega
theorem nice_mono {d d' w w' : Nat} {p : PyData} (h : niceB d w p = true) (hd : d ≤ d') (hw : w ≤ w') : niceB d' w' p = true := by
  obtain ⟨a, b, c⟩ := nice_iff.mp h
  exact nice_iff.mpr ⟨a, Nat.le_trans b hd, Nat.le_trans c hw⟩
theorem nice_repr {p : PyData} (h1 : okB p = true) (h2 : p.depth ≤ 60) (h3 : wt p ≤ 10000000) : p.showable = true ∧ p.hasDict = false ∧ p.depth ≤ 60 ∧ p.shown.length ≤ sizeLine := by
  obtain ⟨a, _, b⟩ := okB_show p h1
  exact ⟨a, b, h2, Nat.le_trans (shown_wt p h1) (Nat.le_trans h3 (by decide))⟩
theorem PX.tick {k : Bool} {g : G} {a : Nat} {d : D} {p : PyData} (h : PX k g d p) : PX k (g.tick a) d p := PX.leo (g := g) (g' := g.tick a) (fun _ _ e => e) p h
/-- increasing ints between 0 and m are m at most -/
theorem inc_bd : ∀ {ns : List Int} {a : Int} {m : Nat}, ns.Pairwise (· < ·) → (∀ k ∈ ns, a ≤ k ∧ k < a + (m : Nat)) → ns.length ≤ m
  | [], _, _, _, _ => Nat.zero_le _
  | x :: ns, a, m, h, b => by
    obtain ⟨h1, h2⟩ := List.pairwise_cons.mp h
    obtain ⟨x1, x2⟩ := b x (by simp)
    cases m with
    | zero => omega
    | succ m =>
      have := inc_bd (ns := ns) (a := a + 1) (m := m) h2 fun k hk => by
        have := h1 k hk
        have := b k (by simp [hk])
        omega
      rw [List.length_cons]
      omega
theorem inc_len {ns : List Int} {m : Nat} (h : ns.Pairwise (· < ·)) (b : ∀ k ∈ ns, 0 ≤ k ∧ k < (m : Nat)) : ns.length ≤ m := inc_bd (a := 0) h fun k hk => by have := b k hk; omega
theorem cutP_len {ps : List PyData} {lo hi : Option Int} : (cutP ps lo hi).length ≤ ps.length := by
  unfold cutP
  rw [List.length_take, List.length_drop]
  omega
/-! ### data without a list of n items is not touched where such a list is written -/
mutual
def noLen (n : Nat) : PyData → Bool
  | .list ps => decide (ps.length ≠ n) && noLenAll n ps
  | .tuple ps => noLenAll n ps
  | _ => true
def noLenAll (n : Nat) : List PyData → Bool
  | [] => true
  | p :: ps => noLen n p && noLenAll n ps
end
mutual
theorem PX.put {k : Bool} {g : G} {q : Addr} {m : MO} {ds : List D} (hq : g.o q = some (.lst ds)) : ∀ {d : D} (p : PyData), noLen ds.length p = true → PX k g d p → PX k (g.put q m) d p
  | _, .none, _, h => by cases h; exact .non
  | _, .bool b, _, h => by cases h; exact .bl b
  | _, .int i, _, h => by cases h; exact .int i
  | _, .str i, _, h => by cases h; exact .str i
  | _, .tuple ps, n, h => by
    cases h with
    | tup hl => exact .tup (PXL.put hq ps n hl)
    | kup e hl => exact .kup e (PXL.put hq ps n hl)
  | _, .list ps, n, h => by
    obtain ⟨n1, n2⟩ := Bool.and_eq_true_iff.mp (show (decide (ps.length ≠ ds.length) && noLenAll ds.length ps) = true from n)
    cases h with
    | @lst a es _ e hl =>
      have ne : a ≠ q := fun z => by
        subst z
        rw [hq] at e
        cases e
        exact of_decide_eq_true n1 hl.length.symm
      exact .lst ((G.put_ne ne).trans e) (PXL.put hq ps n2 hl)
  | _, .dict _, _, h => by cases h
theorem PXL.put {k : Bool} {g : G} {q : Addr} {m : MO} {ds : List D} (hq : g.o q = some (.lst ds)) : ∀ {es : List D} (ps : List PyData), noLenAll ds.length ps = true → PXL k g es ps → PXL k (g.put q m) es ps
  | _, [], _, h => by cases h; exact .nil
  | _, p :: ps, n, h => by
    obtain ⟨n1, n2⟩ := Bool.and_eq_true_iff.mp (show (noLen ds.length p && noLenAll ds.length ps) = true from n)
    cases h with
    | cons h1 h2 => exact .cons (PX.put hq p n1 h1) (PXL.put hq ps n2 h2)
end
section
variable {te ta tb : TE'} {e : Ev} {g gX : G} {j : Nat} {u : TS'} {Z : En} {ps qs : List PyData} {p : PyData} {q : Addr} {ds : List D}
/-- x = l + m, the new list's address known as new -/
theorem seq_addput (a : Lt ta e g (.list ps)) (b : Lt tb e g (.list qs)) (z : ps.length + qs.length ≤ sizeLine) (k : ∀ gX q ds, Le g gX → gX.new q → PFL gX ds (ps ++ qs) → u Z (e.set j (some (.v (.ref q)))) (gX.put q (.lst ds))) : sSeq (sAsg (tO dAdd ta tb) (vName j)) u Z e g :=
  a g .refl _ fun g2 d l2 h => b g2 l2 _ fun g3 d' l3 h' => by
    obtain ⟨x, ds, rfl, hx, hl⟩ := h.list
    obtain ⟨y, es, rfl, hy, hl'⟩ := h'.list
    exact ⟨ds, es, l3.o _ _ hx, hy, by rw [hl.length, hl'.length]; exact z, fun q n => k _ q _ (l2.trans l3) n ((PXL.le l3 _ hl).append hl')⟩
theorem seq_lstput {tr : TL'} (a : LtL tr e g ps) (z : ps.length ≤ sizeLine) (k : ∀ gX q ds, Le g gX → gX.new q → PFL gX ds ps → u Z (e.set j (some (.v (.ref q)))) (gX.put q (.lst ds))) : sSeq (sAsg (tF (uLst tr)) (vName j)) u Z e g :=
  a g .refl _ fun g2 ds l2 h => ⟨by rw [h.length]; exact z, fun q n => k _ q _ l2 n h⟩
/-- x.append(v) of such a list -/
theorem seq_append (hX : gX.new q) (hP : PFL gX ds ps) (he : e[j]? = some (some (.v (.ref q)))) (a : Lt te e (gX.put q (.lst ds)) p) (hf : noLen ps.length p = true) (z : ps.length < sizeLine)
    (k : ∀ g', Le gX g' → PF g' (.v (.ref q)) (.list (ps ++ [p])) → u Z e g') : sSeq (sDrop (uBm "list" rdApp (tV j) (uCons te uNil))) u Z e (gX.put q (.lst ds)) :=
  ⟨_, he, .lst G.put_same, a _ .refl _ fun g2 d l2 h => by
    have o2 := l2.o _ _ (G.put_same (g := gX) (a := q) (m := .lst ds))
    have lX : Le gX (g2.put q (.lst (ds ++ [d]))) := ((Le.put hX).trans l2).write hX.1
    refine ⟨ds, o2, by rw [hP.length]; exact z, k _ lX (.lst G.put_same ((PXL.le lX _ hP).append (.cons (PX.put o2 _ (by rw [hP.length]; exact hf) h) .nil)))⟩⟩
end
theorem okAll_ints : ∀ {ns : List Int}, (∀ k ∈ ns, k.natAbs < 10 ^ 45) → niceAll 0 60 (ns.map .int) := fun h q hq => by
  obtain ⟨x, hx, rfl⟩ := List.mem_map.mp hq
  exact nice_iff.mpr ⟨decide_eq_true (h x hx), Nat.le_refl _, Nat.le_refl _⟩
theorem noLenAll_ints {n : Nat} : ∀ ns : List Int, noLenAll n (intsP ns) = true
  | [] => rfl
  | x :: ns => noLenAll_ints ns
theorem noLen_ints {n : Nat} (ns : List Int) : noLen n (.tuple (intsP ns)) = true := noLenAll_ints ns
theorem small_lt {n : Nat} (h : n ≤ 1000000) : n < sizeLine := by rw [sizeLine_eq]; omega
/-! ### enumerate, from the front -/
def enumF : Nat → List D → List D
  | _, [] => []
  | i, d :: ds => .k [iD (i : Nat), d] :: enumF (i + 1) ds
theorem enumF_len : ∀ (i : Nat) (ds : List D), (enumF i ds).length = ds.length
  | _, [] => rfl
  | i, d :: ds => by simp [enumF, enumF_len (i + 1) ds]
theorem enumF_get : ∀ (i : Nat) (ds : List D) (j : Nat), (enumF i ds)[j]? = (ds[j]?).map fun d => .k [iD ((i + j : Nat) : Int), d]
  | i, [], j => by simp [enumF]
  | i, d :: ds, 0 => by simp [enumF]
  | i, d :: ds, j + 1 => by
    have h := enumF_get (i + 1) ds j
    have e : i + 1 + j = i + (j + 1) := by omega
    rw [e] at h
    simpa [enumF] using h
theorem enumD_F (ds : List D) : enumD ds = enumF 0 ds := by
  apply List.ext_getElem?
  intro j
  rw [enumF_get]
  unfold enumD
  rw [List.getElem?_map]
  by_cases h : j < ds.length
  · rw [List.getElem?_range h, List.getElem?_eq_getElem h]
    simp [List.getD_eq_getElem?_getD, List.getElem?_eq_getElem h, iD]
  · rw [List.getElem?_eq_none (by simpa using h), List.getElem?_eq_none (by omega)]
    rfl
section
variable {te ta tb : TE'} {a b : TB'} {e : Ev} {g : G} {x y : Bool} {i j : Int} {d : D}
theorem tl_val (h : Vl te e g (.v (.bl x))) : Tl (SK.tB te) e g x := fun Q q => h _ ⟨x, rfl, q⟩
theorem tl_or (h : Tl a e g x) (h' : x = false → Tl b e g y) : Tl (uOr a b) e g (x || y) := fun Q q => h _ (by
  cases x with
  | true => exact q
  | false => exact h' rfl _ q)
theorem tl_and (h : Tl a e g x) (h' : x = true → Tl b e g y) : Tl (uAnd a b) e g (x && y) := fun Q q => h _ (by
  cases x with
  | true => exact h' rfl _ q
  | false => exact q)
theorem tl_ne (a : Vl ta e g (iD i)) (b : Vl tb e g (iD j)) : Tl (SK.tB (tO (dEq true) ta tb)) e g (decide (i ≠ j)) := fun Q q => a _ (b _ (show SK.dEq true (iD i) (iD j) g _ from ⟨_, rfl, by simpa using q⟩))
theorem vl_is (a : Vl ta e g d) : Vl (tO dIs ta (tK (.v .non))) e g (.v (.bl (nonD d))) := fun Q q => a _ q
theorem vl_lenN {n : Nat} {ds : List D} (a : Vl ta e g d) (h : items g d = some ds) (hn : ds.length = n) : Vl (uCall rLenS (uCons ta uNil)) e g (iD (n : Nat)) := hn ▸ vl_len a h
end
end SK
end
section
set_option maxHeartbeats 4000000
namespace SK
open PySem PySem.Spec PyProof.Rows L2

/-! ### what a mirror gives: a value or nothing, with draws or without -/
/-- the draws to come, and how many there were -/
structure Pn where
  w : Nat → Nat
  n : Nat
abbrev Mk : Bool → Type → Type
  | false, α => Option α
  | true, α => Pn → Option (α × Pn)
def bk : (κ : Bool) → {α β : Type} → Mk κ α → (α → Mk κ β) → Mk κ β
  | false, _, _, o, f => Option.bind o f
  | true, _, _, o, f => fun p => Option.bind (o p) fun x => f x.1 x.2
def lk : (κ : Bool) → {α : Type} → Option α → Mk κ α
  | false, _, o => o
  | true, _, o => fun p => Option.bind o fun a => some (a, p)
abbrev pk (κ : Bool) {α : Type} (a : α) : Mk κ α := lk κ (some a)
def Gd : (κ : Bool) → {α : Type} → Mk κ α → Pn → (α → Pn → Prop) → Prop
  | false, _, o, p, K => ∃ v, o = some v ∧ K v p
  | true, _, o, p, K => ∃ v p', o p = some (v, p') ∧ K v p'
def Good (κ : Bool) (n : Nat) {α : Type} (o : Mk κ α) (K : α → Pn → Prop) : Prop := ∀ p, p.n = n → Gd κ o p K
def pn0 (n : Nat) : Pn := ⟨fun _ => 0, n⟩
section
variable {κ : Bool} {n : Nat} {α β : Type} {K : β → Pn → Prop}
theorem Gd.bind {o : Mk κ α} {f : α → Mk κ β} {p : Pn} (h : Gd κ (bk κ o f) p K) : Gd κ o p fun v p' => Gd κ (f v) p' K := by
  cases κ with
  | false =>
    obtain ⟨w, e, k⟩ := h
    have e : Option.bind o f = some w := e
    match o, e with
    | some v, e => exact ⟨v, rfl, w, e, k⟩
  | true =>
    obtain ⟨w, p', e, k⟩ := h
    have e : Option.bind (o p) (fun x => f x.1 x.2) = some (w, p') := e
    match ho : o p, e with
    | some (v, p1), e => exact ⟨v, p1, ho, w, p', e, k⟩
    | none, e => cases e
theorem Good.bind {o : Mk κ α} {f : α → Mk κ β} (h : Good κ n (bk κ o f) K) : Good κ n o fun v p' => Gd κ (f v) p' K := fun p hp => (h p hp).bind
theorem Good.lk {o : Option β} (h : Good κ n (lk κ o) K) : ∃ v, o = some v ∧ ∀ p, p.n = n → K v p := by
  cases κ with
  | false =>
    obtain ⟨v, e, _⟩ := h (pn0 n) rfl
    refine ⟨v, e, fun p hp => ?_⟩
    obtain ⟨v', e', k⟩ := h p hp
    have e' : o = some v' := e'
    have e : o = some v := e
    rw [e] at e'; cases e'
    exact k
  | true =>
    cases o with
    | none => obtain ⟨v, p', e, _⟩ := h (pn0 n) rfl; cases e
    | some v =>
      refine ⟨v, rfl, fun p hp => ?_⟩
      obtain ⟨v', p', e', k⟩ := h p hp
      cases e'
      exact k
theorem Good.pk {v : β} (h : Good κ n (pk κ v) K) : ∀ p, p.n = n → K v p := by
  obtain ⟨w, e, k⟩ := h.lk
  cases e
  exact k
theorem Good.of {o : Mk κ β} (h : ∀ p, p.n = n → Gd κ o p K) : Good κ n o K := h
theorem Gd.imp {o : Mk κ β} {p : Pn} {K' : β → Pn → Prop} (h : Gd κ o p K) (f : ∀ v p, K v p → K' v p) : Gd κ o p K' := by
  cases κ with
  | false => obtain ⟨v, e, k⟩ := h; exact ⟨v, e, f _ _ k⟩
  | true => obtain ⟨v, p', e, k⟩ := h; exact ⟨v, p', e, f _ _ k⟩
theorem Gd.to_bind {o : Mk κ α} {f : α → Mk κ β} {p : Pn} (h : Gd κ o p fun v p' => Gd κ (f v) p' K) : Gd κ (bk κ o f) p K := by
  cases κ with
  | false =>
    obtain ⟨v, e, w, e2, k⟩ := h
    exact ⟨w, by show Option.bind o f = some w; have e : o = some v := e; rw [e]; exact e2, k⟩
  | true =>
    obtain ⟨v, p1, e, w, p2, e2, k⟩ := h
    exact ⟨w, p2, by show Option.bind (o p) _ = _; have e : o p = some (v, p1) := e; rw [e]; exact e2, k⟩
theorem Gd.to_lk {o : Option β} {p : Pn} {v : β} (e : o = some v) (h : K v p) : Gd κ (SK.lk κ o) p K := by
  subst e
  cases κ with
  | false => exact ⟨v, rfl, h⟩
  | true => exact ⟨v, p, rfl, h⟩
theorem Good.imp {o : Mk κ β} {K' : β → Pn → Prop} (h : Good κ n o K) (f : ∀ v p, K v p → K' v p) : Good κ n o K' := fun p hp => (h p hp).imp f
theorem Good.to_bind {o : Mk κ α} {f : α → Mk κ β} (h : Good κ n o fun v p' => Gd κ (f v) p' K) : Good κ n (bk κ o f) K := fun p hp => (h p hp).to_bind
end

/-! ### values that stand still, values that are owned -/
inductive FV where
  | p (x : PyData)
  | dk (kvs : List (Key × PyData))
  | dt (kvs : List (List Key × PyData))
inductive OV where
  | z (x : FV)
  | l (xs : List OV)
  | dk (ks : List Key) (xs : List OV)
  | dt (ks : List (List Key)) (xs : List OV)
  | i (C : Addr) (ns : List Str) (xs : List OV)

def RelPF {κ : Type} (g : G) : List (κ × D) → List (κ × PyData) → Prop := fun ws kvs => ws.map (·.1) = kvs.map (·.1) ∧ PFL g (ws.map (·.2)) (kvs.map (·.2))
def RepF (g : G) (d : D) : FV → Prop
  | .p x => PF g d x
  | .dk kvs => ∃ a ws, d = .v (.ref a) ∧ g.o a = some (.dk ws) ∧ RelPF g ws kvs
  | .dt kvs => ∃ a ws, d = .v (.ref a) ∧ g.o a = some (.dt ws) ∧ RelPF g ws kvs
theorem RepF.leo {g g' : G} (l : ∀ b m, g.o b = some m → g'.o b = some m) {d : D} {x : FV} (h : RepF g d x) : RepF g' d x := by
  cases x with
  | p x => exact PX.leo l x h
  | dk kvs => obtain ⟨a, ws, e, h1, h2, h3⟩ := h; exact ⟨a, ws, e, l _ _ h1, h2, PXL.leo l _ h3⟩
  | dt kvs => obtain ⟨a, ws, e, h1, h2, h3⟩ := h; exact ⟨a, ws, e, l _ _ h1, h2, PXL.leo l _ h3⟩

mutual
inductive Ow (gF g : G) : OV → D → List Addr → Prop
  | z {x : FV} {d : D} : RepF gF d x → Ow gF g (.z x) d []
  | l {a : Addr} {ds : List D} {xs : List OV} {fp : List Addr} : g.o a = some (.lst ds) → OwL gF g xs ds fp → Ow gF g (.l xs) (.v (.ref a)) (a :: fp)
  | dk {a : Addr} {ws : List (Key × D)} {ks : List Key} {xs : List OV} {fp : List Addr} : g.o a = some (.dk ws) → ws.map (·.1) = ks → OwL gF g xs (ws.map (·.2)) fp → Ow gF g (.dk ks xs) (.v (.ref a)) (a :: fp)
  | dt {a : Addr} {ws : List (List Key × D)} {ks : List (List Key)} {xs : List OV} {fp : List Addr} : g.o a = some (.dt ws) → ws.map (·.1) = ks → OwL gF g xs (ws.map (·.2)) fp → Ow gF g (.dt ks xs) (.v (.ref a)) (a :: fp)
  | i {a C : Addr} {ws : List (Str × D)} {ns : List Str} {xs : List OV} {fp : List Addr} : g.o a = some (.ins C ws) → ws.map (·.1) = ns → OwL gF g xs (ws.map (·.2)) fp → Ow gF g (.i C ns xs) (.v (.ref a)) (a :: fp)
inductive OwL (gF g : G) : List OV → List D → List Addr → Prop
  | nil : OwL gF g [] [] []
  | cons {x : OV} {xs : List OV} {d : D} {ds : List D} {f1 f2 : List Addr} : Ow gF g x d f1 → OwL gF g xs ds f2 → OwL gF g (x :: xs) (d :: ds) (f1 ++ f2)
end
mutual
theorem Ow.keep {gF g gF' g' : G} (lF : ∀ b m, gF.o b = some m → gF'.o b = some m) : ∀ (x : OV) {d : D} {fp : List Addr}, (∀ a ∈ fp, ∀ m, g.o a = some m → g'.o a = some m) → Ow gF g x d fp → Ow gF' g' x d fp
  | .z x, _, _, l, h => by cases h with | z h => exact .z (h.leo lF)
  | .l xs, _, _, l, h => by cases h with | l h1 h2 => exact .l (l _ (by simp) _ h1) (OwL.keep lF xs (fun a ha => l a (by simp [ha])) h2)
  | .dk ks xs, _, _, l, h => by cases h with | dk h1 h2 h3 => exact .dk (l _ (by simp) _ h1) h2 (OwL.keep lF xs (fun a ha => l a (by simp [ha])) h3)
  | .dt ks xs, _, _, l, h => by cases h with | dt h1 h2 h3 => exact .dt (l _ (by simp) _ h1) h2 (OwL.keep lF xs (fun a ha => l a (by simp [ha])) h3)
  | .i C ns xs, _, _, l, h => by cases h with | i h1 h2 h3 => exact .i (l _ (by simp) _ h1) h2 (OwL.keep lF xs (fun a ha => l a (by simp [ha])) h3)
theorem OwL.keep {gF g gF' g' : G} (lF : ∀ b m, gF.o b = some m → gF'.o b = some m) : ∀ (xs : List OV) {ds : List D} {fp : List Addr}, (∀ a ∈ fp, ∀ m, g.o a = some m → g'.o a = some m) → OwL gF g xs ds fp → OwL gF' g' xs ds fp
  | [], _, _, l, h => by cases h; exact .nil
  | x :: xs, _, _, l, h => by
    cases h with
    | cons h1 h2 => exact .cons (Ow.keep lF x (fun a ha => l a (by simp [ha])) h1) (OwL.keep lF xs (fun a ha => l a (by simp [ha])) h2)
end
mutual
theorem Ow.there {gF g : G} : ∀ (x : OV) {d : D} {fp : List Addr}, Ow gF g x d fp → ∀ a ∈ fp, g.o a ≠ none
  | .z x, _, _, h => by cases h with | z h => intro a ha; cases ha
  | .l xs, _, _, h => by
    cases h with
    | l h1 h2 =>
      intro a ha
      rcases List.mem_cons.mp ha with e | e
      · rw [e, h1]; simp
      · exact OwL.there xs h2 a e
  | .dk ks xs, _, _, h => by
    cases h with
    | dk h1 h2 h3 =>
      intro a ha
      rcases List.mem_cons.mp ha with e | e
      · rw [e, h1]; simp
      · exact OwL.there xs h3 a e
  | .dt ks xs, _, _, h => by
    cases h with
    | dt h1 h2 h3 =>
      intro a ha
      rcases List.mem_cons.mp ha with e | e
      · rw [e, h1]; simp
      · exact OwL.there xs h3 a e
  | .i C ns xs, _, _, h => by
    cases h with
    | i h1 h2 h3 =>
      intro a ha
      rcases List.mem_cons.mp ha with e | e
      · rw [e, h1]; simp
      · exact OwL.there xs h3 a e
theorem OwL.there {gF g : G} : ∀ (xs : List OV) {ds : List D} {fp : List Addr}, OwL gF g xs ds fp → ∀ a ∈ fp, g.o a ≠ none
  | [], _, _, h => by cases h; intro a ha; cases ha
  | x :: xs, _, _, h => by
    cases h with
    | cons h1 h2 =>
      intro a ha
      rcases List.mem_append.mp ha with e | e
      · exact Ow.there x h1 a e
      · exact OwL.there xs h2 a e
end
/-! ### where one stands -/
structure Bs where
  F : G
  g : G
  M : List Addr
inductive OwE (B : Bs) (gF g : G) (ev : Ev) : List (Nat × Bool × OV) → List Addr → Prop
  | nil : OwE B gF g ev [] []
  | cons {i : Nat} {fl : Bool} {x : OV} {O : List (Nat × Bool × OV)} {d : D} {f1 f2 : List Addr} : ev[i]? = some (some d) → Ow gF g x d f1 → (∀ a ∈ f1, gF.o a = none ∧ (B.g.o a = none ∨ fl = true ∧ a ∈ B.M)) → OwE B gF g ev O f2 → OwE B gF g ev ((i, fl, x) :: O) (f1 ++ f2)
theorem OwE.keep {B : Bs} {gF g gF' g' : G} {ev : Ev} (lF : ∀ b m, gF.o b = some m → gF'.o b = some m) {O : List (Nat × Bool × OV)} {fp : List Addr} (l : ∀ a ∈ fp, (∀ m, g.o a = some m → g'.o a = some m) ∧ (gF.o a = none → g.o a ≠ none → gF'.o a = none)) (h : OwE B gF g ev O fp) : OwE B gF' g' ev O fp := by
  induction h with
  | nil => exact .nil
  | cons h1 h2 hc h3 ih => exact .cons h1 (Ow.keep lF _ (fun a ha => (l a (by simp [ha])).1) h2) (fun a ha => ⟨(l a (by simp [ha])).2 (hc a ha).1 (Ow.there _ h2 a ha), (hc a ha).2⟩) (ih fun a ha => l a (by simp [ha]))
theorem OwE.there {B : Bs} {gF g : G} {ev : Ev} {O : List (Nat × Bool × OV)} {fp : List Addr} (h : OwE B gF g ev O fp) : ∀ a ∈ fp, g.o a ≠ none := by
  induction h with
  | nil => intro a ha; cases ha
  | cons h1 h2 hc h3 ih =>
    intro a ha
    rcases List.mem_append.mp ha with e | e
    · exact Ow.there _ h2 a e
    · exact ih a e
theorem OwE.out {B : Bs} {gF g : G} {ev : Ev} {O : List (Nat × Bool × OV)} {fp : List Addr} (h : OwE B gF g ev O fp) : ∀ a ∈ fp, gF.o a = none := by
  induction h with
  | nil => intro a ha; cases ha
  | cons h1 h2 hc h3 ih =>
    intro a ha
    rcases List.mem_append.mp ha with e | e
    · exact (hc a e).1
    · exact ih a e
theorem OwE.env {B : Bs} {gF g : G} {ev ev' : Ev} {O : List (Nat × Bool × OV)} {fp : List Addr} (h : OwE B gF g ev O fp) (he : ∀ i x, (i, x) ∈ O → ev'[i]? = ev[i]?) : OwE B gF g ev' O fp := by
  induction h with
  | nil => exact .nil
  | cons h1 h2 hc h3 ih => exact .cons (by rw [he _ _ (List.mem_cons_self ..)]; exact h1) h2 hc (ih fun i x hm => he i x (List.mem_cons_of_mem _ hm))
structure Ct where
  F : List (Nat × FV)
  O : List (Nat × Bool × OV)
  X : List (Nat × D)
  p : Option (Addr × Addr)
  N : Nat
  B : Bs
/-- from the entry to here: what stood stands, but the objects M -/
structure Ext (M : List Addr) (gF g gF' g' : G) (n : Nat) : Prop where
  lF : ∀ b m, gF.o b = some m → gF'.o b = some m
  lg : ∀ b m, gF'.o b = some m → g'.o b = some m
  keep : ∀ b m, g.o b = some m → b ∉ M → g'.o b = some m
  there : ∀ b, g.o b ≠ none → g'.o b ≠ none
  disj : ∀ b, gF.o b = none → g.o b ≠ none → gF'.o b = none
  p : g'.p = g.p
  n : g'.p ≠ none → g'.n ≤ n
  s : g'.s = g.s
structure Sx (C : Ct) (n : Nat) (ev : Ev) (gF g : G) : Prop where
  fr : ∀ i x, C.F.lookup i = some x → ∃ d, ev[i]? = some (some d) ∧ RepF gF d x
  ow : ∃ fp, OwE C.B gF g ev C.O fp ∧ fp.Nodup
  ex : ∀ i d, C.X.lookup i = some d → ev[i]? = some (some d)
  bs : Ext C.B.M C.B.F C.B.g gF g n
  p : g.p = C.p
  len : ev.length = C.N
/-- a step that writes nothing that stood -/
theorem Ext.keep0 {gF g gF' g' : G} {n : Nat} (x : Ext [] gF g gF' g' n) : ∀ b m, g.o b = some m → g'.o b = some m := fun b m e => x.keep b m e (by simp)
theorem Ext.trans0 {M : List Addr} {gF g gF1 g1 gF2 g2 : G} {n n' : Nat} (x : Ext M gF g gF1 g1 n) (y : Ext [] gF1 g1 gF2 g2 n') : Ext M gF g gF2 g2 n' :=
  ⟨fun b m e => y.lF b m (x.lF b m e), y.lg, fun b m e h => y.keep0 b m (x.keep b m e h), fun b h => y.there b (x.there b h), fun b h1 h2 => y.disj b (x.disj b h1 h2) (x.there b h2), y.p.trans x.p, y.n, y.s.trans x.s⟩
theorem Ext.refl {M : List Addr} {gF g : G} {n : Nat} (h : ∀ b m, gF.o b = some m → g.o b = some m) (hn : g.p ≠ none → g.n ≤ n) : Ext M gF g gF g n :=
  ⟨fun _ _ e => e, h, fun _ _ e _ => e, fun _ e => e, fun _ e _ => e, rfl, hn, rfl⟩
theorem Sx.ext {C : Ct} {n n' : Nat} {ev : Ev} {gF g gF' g' : G} (S : Sx C n ev gF g) (x : Ext [] gF g gF' g' n') : Sx C n' ev gF' g' := by
  refine ⟨fun i y h => ?_, ?_, S.ex, S.bs.trans0 x, x.p.trans S.p, S.len⟩
  · obtain ⟨d, h1, h2⟩ := S.fr i y h
    exact ⟨d, h1, h2.leo x.lF⟩
  · obtain ⟨fp, h1, h2⟩ := S.ow
    exact ⟨fp, h1.keep x.lF fun a _ => ⟨fun m => x.keep0 a m, fun e1 e2 => x.disj a e1 e2⟩, h2⟩
/-- a new object that stands still from here on -/
theorem Ext.put {gF g : G} {p : Addr} {m : MO} {n : Nat} (hg : ∀ b m, gF.o b = some m → g.o b = some m) (hn : g.p ≠ none → g.n ≤ n) (h : g.o p = none) : Ext [] gF g (gF.put p m) (g.put p m) n := by
  have hF : gF.o p = none := by
    cases e : gF.o p with
    | none => rfl
    | some m => rw [hg _ _ e] at h; cases h
  refine ⟨fun b u e => (G.put_ne (fun z => by rw [z, hF] at e; cases e)).trans e, fun b u e => ?_, fun b u e _ => (G.put_ne (fun z => by rw [z, h] at e; cases e)).trans e, fun b e => ?_, fun b e1 e2 => (G.put_ne (fun z => by rw [z] at e2; exact e2 h)).trans e1, rfl, hn, rfl⟩
  · by_cases hb : b = p
    · rw [hb, G.put_same] at e ⊢; exact e
    · rw [G.put_ne hb] at e ⊢; exact hg _ _ e
  · by_cases hb : b = p
    · rw [hb, G.put_same]; simp
    · rw [G.put_ne hb]; exact e
/-- .. that is only followed -/
theorem Ext.putg {gF g : G} {p : Addr} {m : MO} {n : Nat} (hg : ∀ b m, gF.o b = some m → g.o b = some m) (hn : g.p ≠ none → g.n ≤ n) (h : g.o p = none) : Ext [] gF g gF (g.put p m) n :=
  ⟨fun _ _ e => e, fun b u e => (G.put_ne (fun z => by rw [z] at e; rw [hg _ _ e] at h; cases h)).trans (hg b u e), fun b u e _ => (G.put_ne (fun z => by rw [z, h] at e; cases e)).trans e, fun b e => by
    by_cases hb : b = p
    · rw [hb, G.put_same]; simp
    · rw [G.put_ne hb]; exact e, fun b e1 _ => e1, rfl, hn, rfl⟩
theorem Sx.lg {C : Ct} {n : Nat} {ev : Ev} {gF g : G} (S : Sx C n ev gF g) : ∀ b m, gF.o b = some m → g.o b = some m := S.bs.lg
theorem Sx.nn {C : Ct} {n : Nat} {ev : Ev} {gF g : G} (S : Sx C n ev gF g) : g.p ≠ none → g.n ≤ n := S.bs.n

/-! ### slots -/
theorem Sx.setF {C : Ct} {n : Nat} {ev : Ev} {gF g : G} (S : Sx C n ev gF g) {i : Nat} {x : FV} {d : D} (r : RepF gF d x) (hi : i < C.N) (hO : C.O.lookup i = none) (hX : C.X.lookup i = none) : Sx { C with F := (i, x) :: C.F } n (ev.set i (some d)) gF g := by
  have other : ∀ j, j ≠ i → (ev.set i (some d))[j]? = ev[j]? := fun j h => List.getElem?_set_ne (Ne.symm h)
  refine ⟨fun j y h => ?_, ?_, fun j y h => ?_, S.bs, S.p, by rw [List.length_set]; exact S.len⟩
  · have h : (if j == i then some x else C.F.lookup j) = some y := by
      have : List.lookup j ((i, x) :: C.F) = some y := h
      rw [List.lookup_cons] at this
      split at this <;> simp_all
    by_cases e : j = i
    · subst e
      simp at h; subst h
      exact ⟨d, List.getElem?_set_self (by rw [S.len]; exact hi), r⟩
    · have : (j == i) = false := by simpa using e
      rw [this] at h
      rw [other j e]
      exact S.fr j y (by simpa using h)
  · obtain ⟨fp, h1, h2⟩ := S.ow
    refine ⟨fp, h1.env fun j y hm => other j fun e => ?_, h2⟩
    subst e
    have := List.lookup_eq_none_iff.mp hO (j, y) hm
    simp at this
  · have e : j ≠ i := fun e => by subst e; rw [hX] at h; cases h
    rw [other j e]
    exact S.ex j y h
/-- fewer facts -/
structure Sub (C C' : Ct) : Prop where
  F : ∀ i x, C.F.lookup i = some x → C'.F.lookup i = some x
  O : ∀ B gF g ev fp, OwE B gF g ev C'.O fp → ∃ fp', OwE B gF g ev C.O fp' ∧ fp'.Sublist fp
  X : ∀ i x, C.X.lookup i = some x → C'.X.lookup i = some x
  p : C.p = C'.p
  B : C.B = C'.B
  N : C.N = C'.N
theorem Sx.sub {C C' : Ct} {n : Nat} {ev : Ev} {gF g : G} (S : Sx C' n ev gF g) (h : Sub C C') : Sx C n ev gF g := by
  obtain ⟨fp, h1, h2⟩ := S.ow
  obtain ⟨fp', h4, h5⟩ := h.O _ _ _ _ _ h1
  exact ⟨fun i x e => S.fr i x (h.F i x e), ⟨fp', by rw [h.B]; exact h4, h2.sublist h5⟩, fun i x e => S.ex i x (h.X i x e), by rw [h.B]; exact S.bs, S.p.trans h.p.symm, S.len.trans h.N.symm⟩
inductive SubF (F' : List (Nat × FV)) : List (Nat × FV) → Prop
  | nil : SubF F' []
  | cons {i : Nat} {x : FV} {F : List (Nat × FV)} : F'.lookup i = some x → SubF F' F → SubF F' ((i, x) :: F)
theorem SubF.at {F' F : List (Nat × FV)} (h : SubF F' F) : ∀ i x, F.lookup i = some x → F'.lookup i = some x := by
  induction h with
  | nil => intro i x e; cases e
  | @cons j y F h1 h2 ih =>
    intro i x e
    rw [List.lookup_cons] at e
    split at e
    · rename_i hb
      cases e
      have : i = j := by simpa using hb
      subst this
      exact h1
    · exact ih i x e
/-- what is left where the slots vs are wiped -/
def outF {α : Type} (vs : List Nat) (l : List (Nat × α)) : List (Nat × α) := l.filter fun q => !vs.contains q.1
theorem lookup_outF {α : Type} {vs : List Nat} : ∀ {l : List (Nat × α)} {i : Nat} {x : α}, (outF vs l).lookup i = some x → l.lookup i = some x ∧ i ∉ vs
  | [], i, x, h => by cases h
  | (j, y) :: l, i, x, h => by
    unfold outF at h
    rw [List.filter_cons] at h
    split at h
    · rename_i hj
      rw [List.lookup_cons] at h ⊢
      split at h
      · rename_i hb
        cases h
        have e : i = j := by simpa using hb
        subst e
        simp at hj
        simp [hj]
      · rename_i hb
        exact lookup_outF (l := l) h
    · rename_i hj
      have h2 := lookup_outF (l := l) h
      refine ⟨?_, h2.2⟩
      rw [List.lookup_cons]
      have ne : i ≠ j := fun e => by subst e; simp at hj; exact h2.2 hj
      have : (i == j) = false := by simpa using ne
      rw [this]
      exact h2.1
theorem OwE.outF {B : Bs} {gF g : G} {ev : Ev} {vs : List Nat} {O : List (Nat × Bool × OV)} {fp : List Addr} (h : OwE B gF g ev O fp) : ∃ fp', OwE B gF g ev (SK.outF vs O) fp' ∧ fp'.Sublist fp := by
  induction h with
  | nil => exact ⟨[], .nil, List.Sublist.refl _⟩
  | @cons i fl x O d f1 f2 h1 h2 hc h3 ih =>
    obtain ⟨fp', a, b⟩ := ih
    unfold SK.outF
    rw [List.filter_cons]
    split
    · exact ⟨f1 ++ fp', .cons h1 h2 hc a, b.append_left _⟩
    · exact ⟨fp', a, b.trans (List.sublist_append_right _ _)⟩
def Ct.out (C : Ct) (vs : List Nat) : Ct := { C with F := outF vs C.F, O := outF vs C.O, X := outF vs C.X }
theorem wipeE_get : ∀ (vs : List Nat) (e : Ev) (i : Nat), i ∉ vs → (wipeE e vs)[i]? = e[i]?
  | [], _, _, _ => rfl
  | v :: vs, e, i, h => by
    show ((wipeE e vs).set v none)[i]? = _
    rw [List.getElem?_set_ne (fun z => h (by simp [z]))]
    exact wipeE_get vs e i fun z => h (by simp [z])
theorem wipeE_len : ∀ (vs : List Nat) (e : Ev), (wipeE e vs).length = e.length
  | [], _ => rfl
  | v :: vs, e => by
    show ((wipeE e vs).set v none).length = _
    rw [List.length_set]
    exact wipeE_len vs e
theorem Sx.wipe {C : Ct} {n : Nat} {ev : Ev} {gF g : G} (S : Sx C n ev gF g) (vs : List Nat) : Sx (C.out vs) n (wipeE ev vs) gF g := by
  refine ⟨fun i x h => ?_, ?_, fun i d h => ?_, S.bs, S.p, by rw [wipeE_len]; exact S.len⟩
  · obtain ⟨h1, h2⟩ := lookup_outF h
    rw [wipeE_get _ _ _ h2]
    exact S.fr i x h1
  · obtain ⟨fp, h1, h2⟩ := S.ow
    obtain ⟨fp', h4, h5⟩ := h1.outF (vs := vs)
    refine ⟨fp', h4.env fun i x hm => wipeE_get _ _ _ ?_, h2.sublist h5⟩
    have := (List.mem_filter.mp hm).2
    simpa using this
  · obtain ⟨h1, h2⟩ := lookup_outF h
    rw [wipeE_get _ _ _ h2]
    exact S.ex i d h1
end SK
end
section
set_option maxHeartbeats 4000000
namespace SK
open PySem PySem.Spec PyProof.Rows L2

/-! ### the best readings of a piece of syntax, over a family of contexts -/
section
variable {ι : Type} {𝒴 : ι → Yx} {e : Expr} {es : List Expr}
def BE (𝒴 : ι → Yx) (e : Expr) : TE' := fun ev g Q => ∃ t, (∀ i, QE (𝒴 i) e t) ∧ t ev g Q
def BT (𝒴 : ι → Yx) (e : Expr) : TB' := fun ev g Q => ∃ t, (∀ i, QT (𝒴 i) e t) ∧ t ev g Q
def BW (𝒴 : ι → Yx) (e : Expr) : TB' := fun ev g Q => ∃ t, (∀ i, QW (𝒴 i) e t) ∧ t ev g Q
def BA (𝒴 : ι → Yx) (es : List Expr) : TL' := fun ev g Q => ∃ t, (∀ i, QA (𝒴 i) es t) ∧ t ev g Q
def BF (𝒴 : ι → Yx) (e : Expr) : TL' := fun ev g Q => ∃ t, (∀ i, QF (𝒴 i) e t) ∧ t ev g Q
def BP (𝒴 : ι → Yx) (o : Option Expr) : TP' := fun ev g Q => ∃ t, (∀ i, QP (𝒴 i) o t) ∧ t ev g Q
def BI (𝒴 : ι → Yx) (tg it : Expr) : TI' := fun ev g Q => ∃ t, (∀ i, QI (𝒴 i) tg it t) ∧ t ev g Q
def BTs (𝒴 : ι → Yx) (es : List Expr) : TB' := fun ev g Q => ∃ t, (∀ i, QTs (𝒴 i) es t) ∧ t ev g Q
def BS (𝒴 : ι → Yx) (s : Stmt) : TS' := fun D ev g => ∃ t, (∀ i, QS (𝒴 i) s t) ∧ t D ev g
def BSs (𝒴 : ι → Yx) (s : List Stmt) : TS' := fun D ev g => ∃ t, (∀ i, QSs (𝒴 i) s t) ∧ t D ev g
theorem BE.q (i : ι) : QE (𝒴 i) e (BE 𝒴 e) := ⟨⟨fun p s σ H Q' I ⟨ev, g, Q, S, ⟨t, h, w⟩, k⟩ => (h i).pe.run p s σ H Q' I ⟨ev, g, Q, S, w, k⟩⟩⟩
theorem BT.q (i : ι) : QT (𝒴 i) e (BT 𝒴 e) := ⟨⟨fun p s σ H Q' I ⟨ev, g, Q, S, ⟨t, h, w⟩, k⟩ => (h i).pt.run p s σ H Q' I ⟨ev, g, Q, S, w, k⟩⟩⟩
theorem BW.q (i : ι) : QW (𝒴 i) e (BW 𝒴 e) := ⟨⟨fun wh p s σ H Q' I ⟨ev, g, Q, S, ⟨t, h, w⟩, k⟩ => (h i).pw.run wh p s σ H Q' I ⟨ev, g, Q, S, w, k⟩⟩⟩
theorem BA.q (i : ι) : QA (𝒴 i) es (BA 𝒴 es) := ⟨⟨fun wh p s σ H Q' I ⟨ev, g, Q, S, ⟨t, h, w⟩, k⟩ => (h i).pa.run wh p s σ H Q' I ⟨ev, g, Q, S, w, k⟩⟩⟩
theorem BF.q (i : ι) : QF (𝒴 i) e (BF 𝒴 e) := ⟨⟨fun p s σ H Q' I ⟨ev, g, Q, S, ⟨t, h, w⟩, k⟩ => (h i).pe.run p s σ H Q' I ⟨ev, g, Q, S, w, k⟩⟩⟩
theorem BP.q {o : Option Expr} (i : ι) : QP (𝒴 i) o (BP 𝒴 o) := ⟨⟨fun p s σ H Q' I ⟨ev, g, Q, S, ⟨t, h, w⟩, k⟩ => (h i).po.run p s σ H Q' I ⟨ev, g, Q, S, w, k⟩⟩⟩
theorem BI.q {tg it : Expr} (i : ι) : QI (𝒴 i) tg it (BI 𝒴 tg it) := ⟨⟨fun p s σ H Q' I ⟨ev, g, Q, S, ⟨t, h, w⟩, k⟩ => (h i).pi.run p s σ H Q' I ⟨ev, g, Q, S, w, k⟩⟩⟩
theorem BTs.q (i : ι) : QTs (𝒴 i) es (BTs 𝒴 es) := ⟨⟨fun p s σ H Q' I ⟨ev, g, Q, S, ⟨t, h, w⟩, k⟩ => (h i).pt.run p s σ H Q' I ⟨ev, g, Q, S, w, k⟩⟩⟩
theorem BS.q {st : Stmt} (i : ι) : QS (𝒴 i) st (BS 𝒴 st) := ⟨⟨fun p s σ H D I ⟨ev, g, Q, S, ⟨t, h, w⟩, k⟩ => (h i).ps.run p s σ H D I ⟨ev, g, Q, S, w, k⟩⟩⟩
theorem BSs.q {sts : List Stmt} (i : ι) : QSs (𝒴 i) sts (BSs 𝒴 sts) := ⟨⟨fun p s σ H D I ⟨ev, g, Q, S, ⟨t, h, w⟩, k⟩ => (h i).pss.run p s σ H D I ⟨ev, g, Q, S, w, k⟩⟩⟩
end

/-! ### what a mirror says of a reading -/
structure RE (κ : Bool) (C : Ct) (t : TE') {α : Type} (enc : α → PyData) (o : Mk κ α) : Prop where
  run : ∀ n ev gF g, Sx C n ev gF g → ∀ K, Good κ n o K → ∀ Q : DK, (∀ v n' d gF' g', Ext [] gF g gF' g' n' → Sx C n' ev gF' g' → PF gF' d (enc v) → (∀ p, p.n = n' → K v p) → Q d g') → t ev g Q
structure RT (κ : Bool) (C : Ct) (t : TB') (o : Mk κ Bool) : Prop where
  run : ∀ n ev gF g, Sx C n ev gF g → ∀ K, Good κ n o K → ∀ Q : Bool → G → Prop, (∀ v n' gF' g', Ext [] gF g gF' g' n' → Sx C n' ev gF' g' → (∀ p, p.n = n' → K v p) → Q v g') → t ev g Q
/-- a list of values, by its data -/
structure RA (κ : Bool) (C : Ct) (t : TL') {α : Type} (enc : α → List PyData) (o : Mk κ α) : Prop where
  run : ∀ n ev gF g, Sx C n ev gF g → ∀ K, Good κ n o K → ∀ Q : List D → G → Prop, (∀ v n' ds gF' g', Ext [] gF g gF' g' n' → Sx C n' ev gF' g' → PFL gF' ds (enc v) → (∀ p, p.n = n' → K v p) → Q ds g') → t ev g Q
abbrev ME {ι : Type} (κ : Bool) (𝒴 : ι → Yx) (C : Ct) (e : Expr) {α : Type} (enc : α → PyData) (o : Mk κ α) : Prop := RE κ C (BE 𝒴 e) enc o
abbrev MT {ι : Type} (κ : Bool) (𝒴 : ι → Yx) (C : Ct) (e : Expr) (o : Mk κ Bool) : Prop := RT κ C (BT 𝒴 e) o
abbrev MW {ι : Type} (κ : Bool) (𝒴 : ι → Yx) (C : Ct) (e : Expr) (o : Mk κ Bool) : Prop := RT κ C (BW 𝒴 e) o
abbrev MA {ι : Type} (κ : Bool) (𝒴 : ι → Yx) (C : Ct) (es : List Expr) {α : Type} (enc : α → List PyData) (o : Mk κ α) : Prop := RA κ C (BA 𝒴 es) enc o
abbrev MF {ι : Type} (κ : Bool) (𝒴 : ι → Yx) (C : Ct) (e : Expr) {α : Type} (enc : α → List PyData) (o : Mk κ α) : Prop := RA κ C (BF 𝒴 e) enc o
/-- encodings -/
def eI : Int → PyData := .int
def eB : Bool → PyData := .bool
def eS : Str → PyData := .str
def eN : Unit → PyData := fun _ => .none
def eA : PyData → PyData := id
def eT {α : Type} (e : α → PyData) : List α → PyData := fun l => .tuple (l.map e)
def eL {α : Type} (e : α → PyData) : List α → PyData := fun l => .list (l.map e)
def eO {α : Type} (e : α → PyData) : Option α → PyData
  | none => .none
  | some a => e a
def eP2 {α β : Type} (e : α → PyData) (f : β → PyData) : α × β → PyData := fun x => .tuple [e x.1, f x.2]
def eP3 {α β γ : Type} (e : α → PyData) (f : β → PyData) (h : γ → PyData) : α × β × γ → PyData := fun x => .tuple [e x.1, f x.2.1, h x.2.2]
def eP4 {α β γ δ : Type} (e : α → PyData) (f : β → PyData) (h : γ → PyData) (k : δ → PyData) : α × β × γ × δ → PyData := fun x => .tuple [e x.1, f x.2.1, h x.2.2.1, k x.2.2.2]

section
variable {ι : Type} {𝒴 : ι → Yx} {κ : Bool} {C : Ct} {e a b : Expr} {α β γ : Type} {ea : α → PyData} {eb : β → PyData} {ec : γ → PyData} {t ta tb : TE'} {o : Mk κ α} {pos : Pos}
theorem ME.mk (h : ∀ i, QE (𝒴 i) e t) (r : RE κ C t ea o) : ME κ 𝒴 C e ea o := ⟨fun n ev gF g S K hK Q hQ => ⟨t, h, r.run n ev gF g S K hK Q hQ⟩⟩
theorem MT.mk {t : TB'} {o : Mk κ Bool} (h : ∀ i, QT (𝒴 i) e t) (r : RT κ C t o) : MT κ 𝒴 C e o := ⟨fun n ev gF g S K hK Q hQ => ⟨t, h, r.run n ev gF g S K hK Q hQ⟩⟩
theorem MW.mk {t : TB'} {o : Mk κ Bool} (h : ∀ i, QW (𝒴 i) e t) (r : RT κ C t o) : MW κ 𝒴 C e o := ⟨fun n ev gF g S K hK Q hQ => ⟨t, h, r.run n ev gF g S K hK Q hQ⟩⟩
theorem MA.mk {es : List Expr} {t : TL'} {er : α → List PyData} (h : ∀ i, QA (𝒴 i) es t) (r : RA κ C t er o) : MA κ 𝒴 C es er o := ⟨fun n ev gF g S K hK Q hQ => ⟨t, h, r.run n ev gF g S K hK Q hQ⟩⟩

theorem MF.mk {t : TL'} {er : α → List PyData} (h : ∀ i, QF (𝒴 i) e t) (r : RA κ C t er o) : MF κ 𝒴 C e er o := ⟨fun n ev gF g S K hK Q hQ => ⟨t, h, r.run n ev gF g S K hK Q hQ⟩⟩
/-! names, constants -/
theorem re_const {d : D} {v : α} (h : ∀ g, PF g d (ea v)) : RE κ C (tK d) ea (pk κ v) := ⟨fun n ev gF g S K hK Q hQ => hQ v n d gF g (Ext.refl S.lg S.nn) S (h _) hK.pk⟩
theorem me_int {i : Int} {j} : ME κ 𝒴 C (.Constant (.int i) j pos) eI (pk κ i) := ME.mk (fun _ => qc_int) (re_const fun _ => .int i)
theorem me_bl {i : Bool} {j} : ME κ 𝒴 C (.Constant (.bool i) j pos) eB (pk κ i) := ME.mk (fun _ => qc_bl) (re_const fun _ => .bl i)
theorem me_str {i : Str} {j} : ME κ 𝒴 C (.Constant (.str i) j pos) eS (pk κ i) := ME.mk (fun _ => qc_str) (re_const fun _ => .str i)
theorem me_non {j} : ME κ 𝒴 C (.Constant .none j pos) eN (pk κ ()) := ME.mk (fun _ => qc_non) (re_const fun _ => .non)
theorem re_v {i : Nat} {v : α} (h : C.F.lookup i = some (.p (ea v))) : RE κ C (tV i) ea (pk κ v) := ⟨fun n ev gF g S K hK Q hQ => by
  obtain ⟨d, h1, h2⟩ := S.fr i _ h
  exact ⟨d, h1, hQ v n d gF g (Ext.refl S.lg S.nn) S h2 hK.pk⟩⟩
theorem me_v (i : Nat) (v : α) {x : Str} (h : C.F.lookup i = some (.p (ea v)) := by rfl) (hN : ∀ j, (𝒴 j).X.N[i]? = some x := by exact fun _ => rfl) (hv : ∀ j, Vis (𝒴 j).X.env.scope x := by first | exact fun _ => Or.inl rfl | exact fun _ => Or.inr (Or.inl rfl) | exact fun _ => Or.inr (Or.inr rfl))
    (hd : (x == ("__debug__" : Str)) = false := by decide) (hcd : (x == ("__classdict__" : Str)) = false := by decide) : ME κ 𝒴 C (.Name x pos) ea (pk κ v) := ME.mk (fun j => qv i (hN j) (hv j) hd hcd) (re_v h)
theorem me_globI {x : Str} {i : Int} (hg : ∀ j, Gl (𝒴 j).X x := by exact fun _ => rfl) (hm : ∀ j, ∃ t, (𝒴 j).X.mg x = some (.int i t)) (hd : (x == ("__debug__" : Str)) = false := by decide) : ME κ 𝒴 C (.Name x pos) eI (pk κ i) :=
  ME.mk (fun j => let ⟨t, h⟩ := hm j; q_glob (v := .int i) (hg j) h ⟨t, rfl⟩ hd) (re_const fun _ => .int i)
/-- the same data, told otherwise -/
theorem me_as {f : α → β} {eb : β → PyData} (h : ME κ 𝒴 C e ea o) (hf : ∀ v, ea v = eb (f v)) : ME κ 𝒴 C e eb (bk κ o fun v => pk κ (f v)) := ⟨fun n ev gF g S K hK Q hQ =>
  h.run n ev gF g S _ hK.bind Q fun v n' d gF' g' l S' r k => hQ (f v) n' d gF' g' l S' (hf v ▸ r) fun p hp => (Good.pk (κ := κ) (n := n') (K := K) (fun p hp => k p hp)) p hp⟩
theorem me_any (h : ME κ 𝒴 C e ea o) : ME κ 𝒴 C e eA (bk κ o fun v => pk κ (ea v)) := me_as h fun _ => rfl
theorem me_some (h : ME κ 𝒴 C e ea o) : ME κ 𝒴 C e (eO ea) (bk κ o fun v => pk κ (some v)) := me_as h fun _ => rfl
theorem me_none {o : Mk κ Unit} (h : ME κ 𝒴 C e eN o) : ME κ 𝒴 C e (eO ea) (bk κ o fun _ => pk κ none) := me_as h fun _ => rfl
/-- .. as far as it is such data -/
theorem me_dec {f : PyData → Option β} {eb : β → PyData} {o : Mk κ PyData} (h : ME κ 𝒴 C e eA o) (hf : ∀ p v, f p = some v → p = eb v) : ME κ 𝒴 C e eb (bk κ o fun v => lk κ (f v)) := ⟨fun n ev gF g S K hK Q hQ =>
  h.run n ev gF g S _ hK.bind Q fun v n' d gF' g' l S' r k => by
    obtain ⟨w, ew, kw⟩ := Good.lk (κ := κ) (n := n') (K := K) (o := f v) (fun p hp => k p hp)
    have r : PF gF' d v := r
    exact hQ w n' d gF' g' l S' (hf v w ew ▸ r) kw⟩

/-! two operands -/
theorem re_two {rd : RD2} {oa : Mk κ α} {ob : Mk κ β} {f : α → β → Option γ} (ha : RE κ C ta ea oa) (hb : RE κ C tb eb ob)
    (h : ∀ x y z, f x y = some z → ∀ n ev gF g d1 d2, Sx C n ev gF g → PF gF d1 (ea x) → PF gF d2 (eb y) → ∀ Q : DK, (∀ d gF' g', Ext [] gF g gF' g' n → Sx C n ev gF' g' → PF gF' d (ec z) → Q d g') → rd d1 d2 g Q) :
    RE κ C (tO rd ta tb) ec (bk κ oa fun x => bk κ ob fun y => lk κ (f x y)) := ⟨fun n ev gF g S K hK Q hQ =>
  ha.run n ev gF g S _ hK.bind _ fun x n1 d1 gF1 g1 l1 S1 r1 k1 =>
    hb.run n1 ev gF1 g1 S1 _ (Good.bind (κ := κ) (n := n1) (fun p hp => k1 p hp)) _ fun y n2 d2 gF2 g2 l2 S2 r2 k2 => by
      obtain ⟨z, ez, kz⟩ := Good.lk (κ := κ) (n := n2) (K := K) (o := f x y) (fun p hp => k2 p hp)
      exact h x y z ez n2 ev gF2 g2 d1 d2 S2 (PX.leo l2.lF _ r1) r2 Q fun d gF3 g3 l3 S3 r3 => hQ z n2 d gF3 g3 (Ext.trans0 l1 (Ext.trans0 l2 l3)) S3 r3 kz⟩
/-- .. of ints -/
theorem re_ints {rd : RD2} {f : Int → Int → Option γ} {oa ob : Mk κ Int} (ha : RE κ C ta eI oa) (hb : RE κ C tb eI ob)
    (h : ∀ x y z, f x y = some z → ∀ (g : G) (Q : DK), (∀ d, (∀ gF, PF gF d (ec z)) → Q d g) → rd (iD x) (iD y) g Q) : RE κ C (tO rd ta tb) ec (bk κ oa fun x => bk κ ob fun y => lk κ (f x y)) :=
  re_two ha hb fun x y z e n ev gF g d1 d2 S r1 r2 Q hQ => by
    cases r1; cases r2
    exact h x y z e g Q fun d r => hQ d gF g (Ext.refl S.lg S.nn) S (r gF)
variable {oa ob : Mk κ Int}
theorem me_sub (ha : ME κ 𝒴 C a eI oa) (hb : ME κ 𝒴 C b eI ob) : ME κ 𝒴 C (.BinOp a .Sub b pos) eI (bk κ oa fun x => bk κ ob fun y => pk κ (x - y)) :=
  ME.mk (fun i => q_op d_sub (BE.q i) (BE.q i)) (re_ints ha hb fun x y z e g Q h => by cases e; exact h _ fun _ => .int _)
theorem me_addI (ha : ME κ 𝒴 C a eI oa) (hb : ME κ 𝒴 C b eI ob) : ME κ 𝒴 C (.BinOp a .Add b pos) eI (bk κ oa fun x => bk κ ob fun y => pk κ (x + y)) :=
  ME.mk (fun i => q_op d_add (BE.q i) (BE.q i)) (re_ints ha hb fun x y z e g Q h => by cases e; exact h _ fun _ => .int _)
def oMul (x y : Int) : Option Int := if (-(2 ^ 64) < x ∧ x < 2 ^ 64) ∨ (-(2 ^ 64) < y ∧ y < 2 ^ 64) then some (x * y) else none
theorem me_mulI (ha : ME κ 𝒴 C a eI oa) (hb : ME κ 𝒴 C b eI ob) : ME κ 𝒴 C (.BinOp a .Mult b pos) eI (bk κ oa fun x => bk κ ob fun y => lk κ (oMul x y)) :=
  ME.mk (fun i => q_op d_mul (BE.q i) (BE.q i)) (re_ints ha hb fun x y z e g Q h => by
    unfold oMul at e
    split at e <;> cases e
    rename_i c
    exact ⟨c, h _ fun _ => .int _⟩)
def oMod (x y : Int) : Option Int := if y ≠ 0 then some (x.fmod y) else none
theorem me_mod (ha : ME κ 𝒴 C a eI oa) (hb : ME κ 𝒴 C b eI ob) : ME κ 𝒴 C (.BinOp a .Mod b pos) eI (bk κ oa fun x => bk κ ob fun y => lk κ (oMod x y)) :=
  ME.mk (fun i => q_op d_mod (BE.q i) (BE.q i)) (re_ints ha hb fun x y z e g Q h => by
    unfold oMod at e
    split at e <;> cases e
    rename_i c
    exact ⟨c, h _ fun _ => .int _⟩)
def oDiv (x y : Int) : Option Int := if y ≠ 0 ∧ y.natAbs < 1073741824 then some (x.fdiv y) else none
theorem me_fdiv (ha : ME κ 𝒴 C a eI oa) (hb : ME κ 𝒴 C b eI ob) : ME κ 𝒴 C (.BinOp a .FloorDiv b pos) eI (bk κ oa fun x => bk κ ob fun y => lk κ (oDiv x y)) :=
  ME.mk (fun i => q_op d_fdiv (BE.q i) (BE.q i)) (re_ints ha hb fun x y z e g Q h => by
    unfold oDiv at e
    split at e <;> cases e
    rename_i c
    exact ⟨c, h _ fun _ => .int _⟩)
def oPow (x y : Int) : Option Int := if 0 ≤ y ∧ y ≤ 1000000 ∧ x.natAbs < 2 ^ 64 then some (x ^ y.toNat) else none
theorem me_pow (ha : ME κ 𝒴 C a eI oa) (hb : ME κ 𝒴 C b eI ob) : ME κ 𝒴 C (.BinOp a .Pow b pos) eI (bk κ oa fun x => bk κ ob fun y => lk κ (oPow x y)) :=
  ME.mk (fun i => q_op d_pow (BE.q i) (BE.q i)) (re_ints ha hb fun x y z e g Q h => by
    unfold oPow at e
    split at e <;> cases e
    rename_i c
    exact ⟨c, h _ fun _ => .int _⟩)
theorem me_neg (ha : ME κ 𝒴 C a eI oa) : ME κ 𝒴 C (.UnaryOp .USub a pos) eI (bk κ oa fun x => pk κ (-x)) :=
  ME.mk (fun i => q_neg (BE.q i)) ⟨fun n ev gF g S K hK Q hQ => ha.run n ev gF g S _ hK.bind _ fun x n1 d gF1 g1 l1 S1 r1 k1 => by
    cases r1
    exact ⟨x, rfl, hQ (-x) n1 _ gF1 g1 l1 S1 (.int _) ((Good.pk (κ := κ) (n := n1) (K := K) (fun p hp => k1 p hp)))⟩⟩
/-- comparisons: their readings, as values and as tests -/
inductive CmpI | lt | le | gt | ge
def CmpI.op : CmpI → CmpOp
  | .lt => .Lt
  | .le => .LtE
  | .gt => .Gt
  | .ge => .GtE
def CmpI.rd : CmpI → RD2
  | .lt => dLt
  | .le => dLe
  | .gt => dGt
  | .ge => dGe
def CmpI.f : CmpI → Int → Int → Bool
  | .lt => fun x y => decide (x < y)
  | .le => fun x y => decide (x ≤ y)
  | .gt => fun x y => decide (y < x)
  | .ge => fun x y => decide (y ≤ x)
theorem CmpI.d (c : CmpI) {Y : Yx} : OpD Y (compareOp c.op) c.rd := by
  cases c
  · exact d_lt
  · exact d_le
  · exact d_gt
  · exact d_ge
theorem CmpI.rd_eq (c : CmpI) (x y : Int) (g : G) (Q : DK) : c.rd (iD x) (iD y) g Q = Q (.v (.bl (c.f x y))) g := by cases c <;> rfl
theorem re_cmpI (c : CmpI) (ha : RE κ C ta eI oa) (hb : RE κ C tb eI ob) : RE κ C (tO c.rd ta tb) eB (bk κ oa fun x => bk κ ob fun y => pk κ (c.f x y)) :=
  re_ints ha hb fun x y z e g Q h => by cases e; rw [CmpI.rd_eq]; exact h _ fun _ => .bl _
theorem RE.tB {t : TE'} {o : Mk κ Bool} (h : RE κ C t eB o) : RT κ C (SK.tB t) o := ⟨fun n ev gF g S K hK Q hQ => h.run n ev gF g S K hK _ fun v n' d gF' g' l S' r k => by
  cases r
  exact ⟨v, rfl, hQ v n' gF' g' l S' k⟩⟩
theorem me_cmpI (c : CmpI) {op : CmpOp} (ha : ME κ 𝒴 C a eI oa) (hb : ME κ 𝒴 C b eI ob) (ho : op = c.op := by rfl) (hm : behindInMarks op b = false := by first | exact nomark _ | rfl | with_unfolding_all rfl) :
    ME κ 𝒴 C (.Compare a [op] [b] pos) eB (bk κ oa fun x => bk κ ob fun y => pk κ (c.f x y)) := by subst ho; exact ME.mk (fun i => q_cmp c.d (BE.q i) (BE.q i) hm) (re_cmpI c ha hb)
theorem mt_cmpI (c : CmpI) {op : CmpOp} (ha : ME κ 𝒴 C a eI oa) (hb : ME κ 𝒴 C b eI ob) (ho : op = c.op := by rfl) (hm : behindInMarks op b = false := by first | exact nomark _ | rfl | with_unfolding_all rfl) :
    MT κ 𝒴 C (.Compare a [op] [b] pos) (bk κ oa fun x => bk κ ob fun y => pk κ (c.f x y)) := by subst ho; exact MT.mk (fun i => qt_cmp c.d (BE.q i) (BE.q i) hm) (re_cmpI c ha hb).tB
end
end SK
end
section
set_option maxHeartbeats 4000000
namespace SK
open PySem PySem.Spec PyProof.Rows L2

/-! ### typed data: equality -/
theorem beq_dec {α : Type} [DecidableEq α] [BEq α] [LawfulBEq α] (x y : α) : (x == y) = decide (x = y) := by
  by_cases h : x = y
  · subst h; simp
  · simp [h]
theorem dEq_of {neg : Bool} {g : G} {d e : D} {p q : PyData} {Q : DK} (h1 : PF g d p) (h2 : PF g e q) (s1 : SeqAt.shaped p = true ∨ ∃ x y, p = .str x ∧ q = .str y) (s2 : SeqAt.shaped q = true ∨ ∃ x y, p = .str x ∧ q = .str y) (k : Q (.v (.bl (neg ^^ PyData.eqv p q))) g) : dEq neg d e g Q := by
  have tail : SeqAt.shaped p = true → SeqAt.shaped q = true → eqTail neg d e g Q := fun a b => ⟨p, q, PX.up p h1, PX.up q h2, a, b, k⟩
  unfold dEq
  split
  · cases h1; cases h2
    simp only [PyData.eqv] at k
    rw [beq_dec] at k
    exact k
  · cases h1; cases h2
    simp only [PyData.eqv] at k
    rw [beq_dec] at k
    exact k
  · rename_i d' e' n1 n2
    rcases s1 with s1 | ⟨x, y, rfl, rfl⟩
    · rcases s2 with s2 | ⟨x, y, rfl, rfl⟩
      · exact tail s1 s2
      · cases h1; cases h2
        exact (n2 _ _ rfl rfl).elim
    · cases h1; cases h2
      exact (n2 _ _ rfl rfl).elim
/-- an encoding by which data are equal as the values are; of bounded depth -/
structure EqE {α : Type} [DecidableEq α] (e : α → PyData) (d : Nat) : Prop where
  lay : ∀ a, (e a).canLay0 = true ∧ (e a).depth ≤ d
  eqv : ∀ a b, PyData.eqv (e a) (e b) = decide (a = b)
def NnE {α : Type} (e : α → PyData) : Prop := ∀ a, PyData.eqv .none (e a) = false ∧ PyData.eqv (e a) .none = false
theorem EqE.shaped {α : Type} [DecidableEq α] {e : α → PyData} {d : Nat} (h : EqE e d) (hd : d ≤ 64 := by decide) (a : α) : SeqAt.shaped (e a) = true := by
  obtain ⟨h1, h2⟩ := h.lay a
  unfold SeqAt.shaped
  rw [h1, Bool.true_and]
  exact decide_eq_true (Nat.le_trans h2 hd)
theorem EqE.up {α : Type} [DecidableEq α] {e : α → PyData} {d d' : Nat} (h : EqE e d) (hd : d ≤ d' := by decide) : EqE e d' := ⟨fun a => ⟨(h.lay a).1, Nat.le_trans (h.lay a).2 hd⟩, h.eqv⟩
theorem qI : EqE eI 0 := ⟨fun a => ⟨rfl, Nat.le_refl _⟩, fun a b => by simp only [eI, PyData.eqv]; exact beq_dec a b⟩
theorem qB : EqE eB 0 := ⟨fun a => ⟨rfl, Nat.le_refl _⟩, fun a b => by simp only [eB, PyData.eqv]; exact beq_dec a b⟩
theorem qN : EqE eN 0 := ⟨fun a => ⟨rfl, Nat.le_refl _⟩, fun a b => by simp only [eN, PyData.eqv]; simp⟩
theorem nI : NnE eI := fun a => by simp [eI, PyData.eqv]
theorem nT {α : Type} {e : α → PyData} : NnE (eT e) := fun a => by simp [eT, PyData.eqv]
theorem nL {α : Type} {e : α → PyData} : NnE (eL e) := fun a => by simp [eL, PyData.eqv]
theorem nP2 {α β : Type} {e : α → PyData} {f : β → PyData} : NnE (eP2 e f) := fun a => by simp [eP2, PyData.eqv]
theorem nP3 {α β γ : Type} {e : α → PyData} {f : β → PyData} {h : γ → PyData} : NnE (eP3 e f h) := fun a => by simp [eP3, PyData.eqv]
theorem nP4 {α β γ δ : Type} {e : α → PyData} {f : β → PyData} {h : γ → PyData} {k : δ → PyData} : NnE (eP4 e f h k) := fun a => by simp [eP4, PyData.eqv]
section
variable {α β γ δ : Type} [DecidableEq α] [DecidableEq β] [DecidableEq γ] [DecidableEq δ] {e : α → PyData} {f : β → PyData} {h : γ → PyData} {k : δ → PyData} {d d1 d2 d3 : Nat}
theorem lay_all (q : EqE e d) : ∀ l : List α, PyData.canLayAll0 (l.map e) = true ∧ PyData.depthAll (l.map e) ≤ d
  | [] => ⟨rfl, Nat.zero_le _⟩
  | a :: l => by
    obtain ⟨h1, h2⟩ := lay_all q l
    obtain ⟨h3, h4⟩ := q.lay a
    simp only [List.map_cons, PyData.canLayAll0, PyData.depthAll, h1, h3, Bool.and_self, true_and]
    omega
theorem eqv_all (q : EqE e d) : ∀ l m : List α, PyData.eqvAll (l.map e) (m.map e) = decide (l = m)
  | [], [] => by simp [PyData.eqvAll]
  | [], _ :: _ => by simp [PyData.eqvAll]
  | _ :: _, [] => by simp [PyData.eqvAll]
  | a :: l, b :: m => by
    simp only [List.map_cons, PyData.eqvAll, q.eqv, eqv_all q l m, List.cons.injEq]
    by_cases h : a = b <;> simp [h]
theorem qT (q : EqE e d) : EqE (eT e) (d + 1) := ⟨fun l => by
  obtain ⟨h1, h2⟩ := lay_all q l
  exact ⟨h1, by show PyData.depth (.tuple _) ≤ _; simp only [PyData.depth]; omega⟩, fun l m => by simp only [eT, PyData.eqv]; exact eqv_all q l m⟩
theorem qL (q : EqE e d) : EqE (eL e) (d + 1) := ⟨fun l => by
  obtain ⟨h1, h2⟩ := lay_all q l
  exact ⟨h1, by show PyData.depth (.list _) ≤ _; simp only [PyData.depth]; omega⟩, fun l m => by simp only [eL, PyData.eqv]; exact eqv_all q l m⟩
theorem qO (q : EqE e d) (n : NnE e) : EqE (eO e) d := ⟨fun o => by
  cases o with
  | none => exact ⟨rfl, Nat.zero_le _⟩
  | some a => exact q.lay a, fun o o' => by
  cases o with
  | none =>
    cases o' with
    | none => simp [eO, PyData.eqv]
    | some b => simp [eO, (n b).1]
  | some a =>
    cases o' with
    | none => simp [eO, (n a).2]
    | some b => simp [eO, q.eqv]⟩
theorem qP2 (q1 : EqE e d1) (q2 : EqE f d2) : EqE (eP2 e f) (max d1 d2 + 1) := ⟨fun x => by
  obtain ⟨a1, a2⟩ := q1.lay x.1
  obtain ⟨b1, b2⟩ := q2.lay x.2
  refine ⟨by simp [eP2, PyData.canLay0, PyData.canLayAll0, a1, b1], ?_⟩
  simp only [eP2, PyData.depth, PyData.depthAll]
  omega, fun x y => by
  simp only [eP2, PyData.eqv, PyData.eqvAll, q1.eqv, q2.eqv, Bool.and_true]
  rw [← Bool.decide_and]
  exact decide_eq_decide.mpr Prod.ext_iff.symm⟩
theorem qP3 (q1 : EqE e d1) (q2 : EqE f d2) (q3 : EqE h d3) : EqE (eP3 e f h) (max (max d1 d2) d3 + 1) := ⟨fun x => by
  obtain ⟨a1, a2⟩ := q1.lay x.1
  obtain ⟨b1, b2⟩ := q2.lay x.2.1
  obtain ⟨c1, c2⟩ := q3.lay x.2.2
  refine ⟨by simp [eP3, PyData.canLay0, PyData.canLayAll0, a1, b1, c1], ?_⟩
  simp only [eP3, PyData.depth, PyData.depthAll]
  omega, fun x y => by
  simp only [eP3, PyData.eqv, PyData.eqvAll, q1.eqv, q2.eqv, q3.eqv, Bool.and_true]
  rw [← Bool.decide_and, ← Bool.decide_and]
  refine decide_eq_decide.mpr ?_
  obtain ⟨x1, x2, x3⟩ := x
  obtain ⟨y1, y2, y3⟩ := y
  simp⟩
end

section
variable {ι : Type} {𝒴 : ι → Yx} {κ : Bool} {C : Ct} {e a b c : Expr} {α β γ δ : Type} {ea : α → PyData} {eb : β → PyData} {ec : γ → PyData} {t ta tb : TE'} {pos : Pos} {oa : Mk κ α} {ob : Mk κ β}

/-! ### ==, != -/
theorem re_eqG (neg : Bool) {f : α → β → Option Bool} (hf : ∀ x y z, f x y = some z → (SeqAt.shaped (ea x) = true ∨ ∃ u v, ea x = .str u ∧ eb y = .str v) ∧ (SeqAt.shaped (eb y) = true ∨ ∃ u v, ea x = .str u ∧ eb y = .str v) ∧ z = PyData.eqv (ea x) (eb y))
    (ha : RE κ C ta ea oa) (hb : RE κ C tb eb ob) : RE κ C (tO (dEq neg) ta tb) eB (bk κ oa fun x => bk κ ob fun y => lk κ ((f x y).map fun z => neg ^^ z)) :=
  re_two ha hb fun x y z ez n ev gF g d1 d2 S r1 r2 Q hQ => by
    cases h : f x y with
    | none => rw [h] at ez; cases ez
    | some w =>
      rw [h] at ez
      obtain ⟨s1, s2, ew⟩ := hf x y w h
      cases ez
      subst ew
      exact dEq_of (PX.leo S.lg _ r1) (PX.leo S.lg _ r2) s1 s2 (hQ _ gF g (Ext.refl S.lg S.nn) S (.bl _))
theorem opEq (neg : Bool) {Y : Yx} (hu : Y.X.A.units + 64 < cLine) : OpD Y (compareOp (EqOp neg)) (dEq neg) := by
  cases neg
  · exact d_eq hu
  · exact d_ne hu
def oEq (x y : PyData) : Option Bool := if SeqAt.shaped x = true ∧ SeqAt.shaped y = true then some (PyData.eqv x y) else none
theorem oEq_ok : ∀ x y z, oEq x y = some z → (SeqAt.shaped (eA x) = true ∨ ∃ u v, eA x = .str u ∧ eA y = .str v) ∧ (SeqAt.shaped (eA y) = true ∨ ∃ u v, eA x = .str u ∧ eA y = .str v) ∧ z = PyData.eqv (eA x) (eA y) := fun x y z h => by
  unfold oEq at h
  split at h <;> cases h
  rename_i c
  exact ⟨.inl c.1, .inl c.2, rfl⟩
/-- of one type -/
theorem re_eqT (neg : Bool) [DecidableEq α] {d : Nat} {oa ob : Mk κ α} (q : EqE ea d) (hd : d ≤ 64) (ha : RE κ C ta ea oa) (hb : RE κ C tb ea ob) : RE κ C (tO (dEq neg) ta tb) eB (bk κ oa fun x => bk κ ob fun y => pk κ (neg ^^ decide (x = y))) :=
  re_eqG neg (f := fun x y => some (decide (x = y))) (fun x y z h => by cases h; exact ⟨.inl (q.shaped hd x), .inl (q.shaped hd y), (q.eqv x y).symm⟩) ha hb
theorem re_eqS (neg : Bool) {oa ob : Mk κ Str} (ha : RE κ C ta eS oa) (hb : RE κ C tb eS ob) : RE κ C (tO (dEq neg) ta tb) eB (bk κ oa fun x => bk κ ob fun y => pk κ (neg ^^ decide (x = y))) :=
  re_eqG neg (f := fun x y => some (decide (x = y))) (fun x y z h => by cases h; exact ⟨.inr ⟨x, y, rfl, rfl⟩, .inr ⟨x, y, rfl, rfl⟩, by simp only [eS, PyData.eqv]; exact (beq_dec x y).symm⟩) ha hb
/-- of any type -/
theorem re_eqA (neg : Bool) {oa ob : Mk κ PyData} (ha : RE κ C ta eA oa) (hb : RE κ C tb eA ob) : RE κ C (tO (dEq neg) ta tb) eB (bk κ oa fun x => bk κ ob fun y => lk κ ((oEq x y).map fun z => neg ^^ z)) := re_eqG neg oEq_ok ha hb
section
variable {o : Mk κ Bool} {rd : RD2} {op : CmpOp}
theorem me_cmp (hd : ∀ i, OpD (𝒴 i) (compareOp op) rd) (h : RE κ C (tO rd (BE 𝒴 a) (BE 𝒴 b)) eB o) (hm : behindInMarks op b = false := by first | exact EqOp_mark | exact nomark _ | rfl | with_unfolding_all rfl) : ME κ 𝒴 C (.Compare a [op] [b] pos) eB o := ME.mk (fun i => q_cmp (hd i) (BE.q i) (BE.q i) hm) h
theorem mt_cmp (hd : ∀ i, OpD (𝒴 i) (compareOp op) rd) (h : RE κ C (tO rd (BE 𝒴 a) (BE 𝒴 b)) eB o) (hm : behindInMarks op b = false := by first | exact EqOp_mark | exact nomark _ | rfl | with_unfolding_all rfl) : MT κ 𝒴 C (.Compare a [op] [b] pos) o := MT.mk (fun i => qt_cmp (hd i) (BE.q i) (BE.q i) hm) h.tB
end

/-! ### is None, is not None -/
def noneP : PyData → Bool
  | .none => true
  | _ => false
theorem nonD_pf {g : G} {d : D} {p : PyData} (h : PF g d p) : nonD d = noneP p := by
  cases h <;> rfl
def isNo {α : Type} : Option α → Bool
  | none => true
  | some _ => false
theorem re_is {f : α → Bool} (hf : ∀ v, f v = noneP (ea v)) (ha : RE κ C ta ea oa) : RE κ C (tO dIs ta (tK (.v .non))) eB (bk κ oa fun x => pk κ (f x)) := ⟨fun n ev gF g S K hK Q hQ =>
  ha.run n ev gF g S _ hK.bind _ fun x n1 d gF1 g1 l1 S1 r1 k1 => by
    show Q (.v (.bl (nonD d))) g1
    rw [nonD_pf r1, ← hf]
    exact hQ (f x) n1 _ gF1 g1 l1 S1 (.bl _) (Good.pk (κ := κ) (n := n1) (K := K) (fun p hp => k1 p hp))⟩
theorem re_isnot {f : α → Bool} (hf : ∀ v, f v = noneP (ea v)) (ha : RE κ C ta ea oa) : RE κ C (tO dIsNot ta (tK (.v .non))) eB (bk κ oa fun x => pk κ (!f x)) := ⟨fun n ev gF g S K hK Q hQ =>
  ha.run n ev gF g S _ hK.bind _ fun x n1 d gF1 g1 l1 S1 r1 k1 => by
    show Q (.v (.bl (!nonD d))) g1
    rw [nonD_pf r1, ← hf]
    exact hQ (!f x) n1 _ gF1 g1 l1 S1 (.bl _) (Good.pk (κ := κ) (n := n1) (K := K) (fun p hp => k1 p hp))⟩
/-- never the text's None -/
def NoN {α : Type} (e : α → PyData) : Prop := ∀ a, noneP (e a) = false
theorem isO (h : NoN ea) (v : Option α) : isNo v = noneP (eO ea v) := by
  cases v with
  | none => rfl
  | some a => exact (h a).symm
theorem isA (v : PyData) : noneP v = noneP (eA v) := rfl
theorem noI : NoN eI := fun _ => rfl
theorem noB : NoN eB := fun _ => rfl
theorem noS : NoN eS := fun _ => rfl
theorem noT : NoN (eT ea) := fun _ => rfl
theorem noL : NoN (eL ea) := fun _ => rfl
theorem noP2 : NoN (eP2 ea eb) := fun _ => rfl
theorem noP3 : NoN (eP3 ea eb ec) := fun _ => rfl
end
end SK
end
section
set_option maxHeartbeats 4000000
namespace SK
open PySem PySem.Spec PyProof.Rows L2

/-! ### what is walked, its size known -/
section
variable {Y : Yx} {tg : Expr} {pos : Pos}
theorem pi_seqZ {X : Cx} {l : Expr} {tl : TE} (hl : PE X l tl) : PI X tg l (fun σ H R => tl σ H fun x H1 => ∃ a xs, x = .ref a ∧ ((SqL X.K H1 a xs ∧ (xs.length ≤ sizeLine → R (Itl X.K a) H1)) ∨ (SqT X.K H1 a xs ∧ (xs.length ≤ sizeLine → R (Itt X.K a) H1)))) := by
  refine ⟨fun pins s σ H R I h => ?_⟩
  refine thn (hl.run pins s σ H _ I h) fun v s1 ⟨x, H1, I1, r1, a, xs, ex, q⟩ => ?_
  subst ex
  cases r1
  have fin : ∀ b ∈ [s1.heap.objs.size], FpOk X pins H1 b := fun b hb => by
    have e : b = s1.heap.objs.size := by simpa using hb
    subst e
    exact I1.fpOk (Nat.le_refl _) (I1.hok.fresh (Nat.le_refl _))
  rcases q with ⟨hq, q⟩ | ⟨hq, q⟩
  · obtain ⟨its, rv, p, hz⟩ := I1.list hq
    exact wpAny_pyIter_list p.isList ⟨s1.heap.objs.size, [s1.heap.objs.size], _, _, H1, rfl, I1.kept (t' := s1.toks) fun b o e => Heap.get?_push_of_some _ e, turn_list a _, ⟨_, Heap.get?_push_size _ rfl, rfl, rfl⟩, fin, q hz⟩
  · obtain ⟨its, rv, p, hz⟩ := I1.tuple hq
    exact wpAny_pyIter_tuple (show s1.heap.IsTuple a its.toArray from p) ⟨s1.heap.objs.size, [s1.heap.objs.size], _, _, H1, rfl, I1.kept (t' := s1.toks) fun b o e => Heap.get?_push_of_some _ e, turn_tuple a _, ⟨_, Heap.get?_push_size _ rfl, rfl, rfl⟩, fin, q hz⟩
def iSeqZ (te : TE') : TI' := fun e g Q => te e g fun d g1 => ∃ ds, items g1 d = some ds ∧ (ds.length ≤ sizeLine → Q ⟨ds, fun g => items g d = some ds⟩ g1)
theorem qi_seqZ {l : Expr} {te : TE'} (h : QE Y l te) : QI Y tg l (iSeqZ te) :=
  ⟨PI.imp (pi_seqZ h.pe) fun σ H R' ⟨e, g, Q, S, w, k⟩ => ⟨e, g, _, S, w, fun x H1 ⟨d, g1, st, R, r, ds, hi, q⟩ => by
    cases r with
    | v x =>
      obtain ⟨a, xs, rfl, hx, l⟩ := items_rep R (.v x) hi
      have hg : g1.o a = some (.lst ds) := by
        unfold items at hi
        cases q : g1.o a with
        | none => simp [q] at hi
        | some m => cases m <;> simp [q] at hi; subst hi; rfl
      obtain ⟨ys, h1, l1⟩ := R.obj a _ hg
      refine ⟨a, ys, rfl, .inl ⟨SqL.of h1, fun hz => k _ _ _ g1 st R hi (sim_seq (x := .ref a) rfl (fun _ _ _ _ => .v _) fun H2 g2 st2 R2 hi2 => ?_) (q (by rw [← l1.length]; exact hz))⟩⟩
      have hg2 : g2.o a = some (.lst ds) := by
        unfold items at hi2
        cases q : g2.o a with
        | none => simp [q] at hi2
        | some m => cases m <;> simp [q] at hi2; subst hi2; rfl
      exact R2.obj a _ hg2
    | t h1 l1 =>
      cases hi
      refine ⟨_, _, rfl, .inr ⟨h1.sq, fun hz => k _ _ ⟨ds, fun g => items g (.t ds) = some ds⟩ g1 st R rfl (fun i H2 g2 st2 R2 ok2 => ?_) (q (by rw [← l1.length]; exact hz))⟩⟩
      have h2 := ((st2.tu R).p _ _ h1).sq
      have l2 := l1.keep (st2.tu R)
      refine ⟨fun d' hd => ?_, fun hi => ⟨_, h2, by rw [l2.length]; exact Nat.le_of_eq hi.symm⟩⟩
      obtain ⟨y, ey, ry⟩ := l2.get hd
      refine ⟨⟨_, y, h2, ey⟩, fun z H' hy => ?_⟩
      obtain ⟨e, hy⟩ := hy
      subst e
      have e2 := (hy _ h2).symm.trans ey
      cases e2
      exact ⟨.refl, R2, ry⟩
    | k h1 l1 =>
      cases hi
      refine ⟨_, _, rfl, .inr ⟨SqT.of h1, fun hz => k _ _ ⟨ds, fun g => items g (.k ds) = some ds⟩ g1 st R rfl (fun i H2 g2 st2 R2 ok2 => ?_) (q (by rw [← l1.length]; exact hz))⟩⟩
      have h2 : SqT Y.X.K H2 _ _ := SqT.of ((st2.tu R).k _ _ h1)
      have l2 := l1.keep (st2.tu R)
      refine ⟨fun d' hd => ?_, fun hi => ⟨_, h2, by rw [l2.length]; exact Nat.le_of_eq hi.symm⟩⟩
      obtain ⟨y, ey, ry⟩ := l2.get hd
      refine ⟨⟨_, y, h2, ey⟩, fun z H' hy => ?_⟩
      obtain ⟨e, hy⟩ := hy
      subst e
      have e2 := (hy _ h2).symm.trans ey
      cases e2
      exact ⟨.refl, R2, ry⟩⟩⟩
theorem pi_enumZ {X : Cx} {e : Expr} {ta : TA} {p pos tpos : Pos} {elts : List Expr} {kk : Nat} (hg : Gl X "enumerate") (hm : X.mg "enumerate" = none) (ha : PA X [e] ta) (hs : starEach [e] X.env = [(false, eval e X.env)] := by rfl) :
    PI X (.Tuple elts kk tpos) (.Call (.Name "enumerate" p) [e] [] pos) (fun σ H R => ta σ H fun vs H1 => ∃ k a xs, vs = [.ref a] ∧ Sq X.K H1 k a xs ∧ (xs.length ≤ sizeLine → R (ItE X.K k a) H1)) := by
  refine ⟨fun pins s σ H R I h => ?_⟩
  refine Call_ (ld_blt I hg hm boot_enumerate (PyProof.Rows.callWith_type1 (thn (ha.run pos pins s σ H _ I h) fun us s1 ⟨vs, H1, I1, r1, q1⟩ => ?_) hs rfl))
  obtain ⟨k, a, xs, ex, hq, q⟩ := q1
  subst ex
  cases r1 with
  | cons r rr =>
    cases rr
    cases r
    obtain ⟨its, rv, p', hz⟩ := Inv.sq I1 hq
    have hal := Inv.sq_lt I1 hq
    refine enum_begins1 (sq_begins k a its.toArray) p' fun h' he hit hsz hk => wpAny_pyIter_enum he ?_
    have I2 : Inv X pins σ H1 { s1 with heap := h' } := I1.kept (t' := s1.toks) hk
    refine ⟨s1.heap.objs.size + 1, [s1.heap.objs.size + 1, s1.heap.objs.size], _, _, H1, rfl, I2, turn_enumX k a (s1.heap.objs.size + 1) s1.heap.objs.size, ⟨⟨.none, he⟩, .start hit, Nat.succ_ne_self _, Nat.ne_of_lt hal, Nat.ne_of_lt (Nat.lt_succ_of_lt hal)⟩, fun b hb => ?_, q hz⟩
    have e' : b = s1.heap.objs.size + 1 ∨ b = s1.heap.objs.size := by simpa using hb
    have hle : s1.heap.objs.size ≤ b := by
      rcases e' with z | z
      · rw [z]; exact Nat.le_add_right _ _
      · rw [z]; exact Nat.le_refl _
    exact I1.fpOk hle (I1.hok.fresh hle)
theorem pi_zipZ {X : Cx} {e e2 : Expr} {ta : TA} {p pos tpos : Pos} {elts : List Expr} {kk : Nat} (hg : Gl X "zip") (hm : X.mg "zip" = none) (ha : PA X [e, e2] ta)
    (hs : starEach [e, e2] X.env = (false, eval e X.env) :: starEach [e2] X.env := by rfl) (hpl : (backTo pos (starEach [e2] X.env)).any (·.1) = false := by rfl) :
    PI X (.Tuple elts kk tpos) (.Call (.Name "zip" p) [e, e2] [] pos) (fun σ H R => ta σ H fun vs H1 => ∃ k l a b xs ys, vs = [.ref a, .ref b] ∧ Sq X.K H1 k a xs ∧ Sq X.K H1 l b ys ∧ (xs.length ≤ sizeLine → ys.length ≤ sizeLine → R (ItZ X.K k l a b) H1)) := by
  refine ⟨fun pins s σ H R I h => ?_⟩
  refine Call_ (ld_blt I hg hm PyProof.Rows.boot_zip (PyProof.Rows.callWith_type1 (thn (ha.run pos pins s σ H _ I h) fun us s1 ⟨vs, H1, I1, r1, q1⟩ => ?_) hs hpl))
  obtain ⟨k, l, a, b, xs, ys, ex, hqx, hqy, q⟩ := q1
  subst ex
  cases r1 with
  | cons r rr =>
    cases rr with
    | cons r' rr =>
      cases rr
      cases r
      cases r'
      have fresh5 : ∀ c, c ∈ [s1.heap.objs.size + 4, s1.heap.objs.size + 2, s1.heap.objs.size + 3, s1.heap.objs.size, s1.heap.objs.size + 1] → FpOk X pins H1 c := fun c hcm => by
        have e' : c = s1.heap.objs.size + 4 ∨ c = s1.heap.objs.size + 2 ∨ c = s1.heap.objs.size + 3 ∨ c = s1.heap.objs.size ∨ c = s1.heap.objs.size + 1 := by simpa using hcm
        have hle : s1.heap.objs.size ≤ c := by
          rcases e' with z | z | z | z | z
          · rw [z]; exact Nat.le_add_right _ _
          · rw [z]; exact Nat.le_add_right _ _
          · rw [z]; exact Nat.le_add_right _ _
          · rw [z]; exact Nat.le_refl _
          · rw [z]; exact Nat.le_add_right _ _
        exact I1.fpOk hle (I1.hok.fresh hle)
      obtain ⟨its, rv, p1, hz1⟩ := Inv.sq I1 hqx
      obtain ⟨its2, rv2, p2, hz2⟩ := Inv.sq I1 hqy
      have ha' := Inv.sq_lt I1 hqx
      have hb' := Inv.sq_lt I1 hqy
      refine zip_begins2 (sq_begins k a its.toArray) (sq_begins l b its2.toArray) p1 p2 fun h' hz hTI hTO h1 h2 hsz hk => wpAny_pyIter_zip hz ?_
      have I2 : Inv X pins σ H1 { s1 with heap := h' } := I1.kept (t' := s1.toks) hk
      exact ⟨s1.heap.objs.size + 4, [s1.heap.objs.size + 4, s1.heap.objs.size + 2, s1.heap.objs.size + 3, s1.heap.objs.size, s1.heap.objs.size + 1], _, _, H1, rfl, I2,
        turn_zipX k l (zip_sep2 (fun c hc => by have e : c = a := by simpa using hc
                                                rw [e]; exact ha') (fun c hc => by have e : c = b := by simpa using hc
                                                                                   rw [e]; exact hb')) (Nat.ne_of_lt ha') (Nat.ne_of_lt (Nat.lt_succ_of_lt hb')), ⟨hz, hTI, ⟨_, _, hTO⟩, .start h1, .start h2⟩, fresh5, q hz1 hz2⟩


end
section
variable {Y : Yx} {elts : List Expr} {kk : Nat} {tpos p pos : Pos}
def iEnumZ (te : TE') : TI' := fun e g Q => te e g fun d g1 => ∃ ds, items g1 d = some ds ∧ (ds.length ≤ sizeLine → Q ⟨enumD ds, fun g => items g d = some ds⟩ g1)
theorem qi_enumZ {e : Expr} {te : TE'} (hg : Gl Y.X "enumerate") (hm : Y.X.mg "enumerate" = none) (ha : QE Y e te) (hs : starEach [e] Y.X.env = [(false, eval e Y.X.env)] := by rfl) (hs' : starEach [e] Y.X.env = (false, eval e Y.X.env) :: starEach [] Y.X.env := by rfl) : QI Y (.Tuple elts kk tpos) (.Call (.Name "enumerate" p) [e] [] pos) (iEnumZ te) :=
  ⟨PI.imp (pi_enumZ hg hm (pa_cons ha.pe pa_nil hs') hs) fun σ H R' ⟨ev, g, Q, S, w, kk⟩ => ⟨ev, g, _, S, w, fun x H1 ⟨d, g1, st, R, r, ds, hi, q⟩ => by
    obtain ⟨k, a, rfl, f⟩ := items_sq R r hi
    obtain ⟨xs, hx, l⟩ := f H1 g1 R r hi
    refine ⟨k, a, xs, rfl, hx, fun hz => kk _ _ ⟨enumD ds, fun g => items g d = some ds⟩ g1 st R hi (fun i H2 g2 st2 R2 ok2 => ?_) (q (by rw [← l.length]; exact hz))⟩
    have tu := st2.tu R
    obtain ⟨ys, h2, l2⟩ := f H2 g2 R2 (r.keep tu) ok2
    refine ⟨fun d' hd => ?_, fun hle => ⟨ys, h2, ?_⟩⟩
    · obtain ⟨e, he, rfl⟩ := enumD_get hd
      obtain ⟨y, ey, ry⟩ := l2.get he
      refine ⟨⟨ys, y, h2, ey⟩, fun z H' ⟨T, x, ez, hT, eH, hx'⟩ => ?_⟩
      subst ez eH
      have e2 := (hx' ys h2).symm.trans ey
      cases e2
      exact ⟨Step.fresh hT, R2.fresh hT, .k upd_same (.cons (.v _) (.cons (ry.keep ((Step.fresh (g := g2) hT).tu R2)) .nil))⟩
    · rw [enumD_len] at hle
      rw [l2.length, hle]⟩⟩
def iZipZ (t : TL') : TI' := fun e g Q => t e g fun ds g1 => ∃ d1 d2 xs ys, ds = [d1, d2] ∧ items g1 d1 = some xs ∧ items g1 d2 = some ys ∧ (xs.length ≤ sizeLine → Q ⟨zipD xs ys, fun g => items g d1 = some xs ∧ items g d2 = some ys⟩ g1)
theorem qi_zipZ {e e2 : Expr} {t : TL'} (hg : Gl Y.X "zip") (hm : Y.X.mg "zip" = none) (ha : QA Y [e, e2] t) (hs : starEach [e, e2] Y.X.env = (false, eval e Y.X.env) :: starEach [e2] Y.X.env := by rfl) (hpl : (backTo pos (starEach [e2] Y.X.env)).any (·.1) = false := by rfl) :
    QI Y (.Tuple elts kk tpos) (.Call (.Name "zip" p) [e, e2] [] pos) (iZipZ t) :=
  ⟨PI.imp (pi_zipZ hg hm ha.pa hs hpl) fun σ H R' ⟨ev, g, Q, S, w, kk⟩ => ⟨ev, g, _, S, w, fun vs H1 ⟨ds, g1, st, R, l, d1, d2, xs, ys, ed, hi1, hi2, q⟩ => by
    subst ed
    cases l with
    | cons r1 l =>
      cases l with
      | cons r2 l =>
        cases l
        obtain ⟨k1, a, rfl, f1⟩ := items_sq R r1 hi1
        obtain ⟨k2, b, rfl, f2⟩ := items_sq R r2 hi2
        obtain ⟨vs, hx, lx⟩ := f1 H1 g1 R r1 hi1
        obtain ⟨us, hy, ly⟩ := f2 H1 g1 R r2 hi2
        refine ⟨k1, k2, a, b, vs, us, rfl, hx, hy, fun hz _ => kk _ _ ⟨zipD xs ys, fun g => items g d1 = some xs ∧ items g d2 = some ys⟩ g1 st R ⟨hi1, hi2⟩ (fun i H2 g2 st2 R2 ok2 => ?_) (q (by rw [← lx.length]; exact hz))⟩
        have tu := st2.tu R
        obtain ⟨zs, h2, l2⟩ := f1 H2 g2 R2 (r1.keep tu) ok2.1
        obtain ⟨ws, h3, l3⟩ := f2 H2 g2 R2 (r2.keep tu) ok2.2
        refine ⟨fun d' hd => ?_, fun hle => ⟨zs, ws, h2, h3, ?_⟩⟩
        · obtain ⟨e, e', he, he', rfl⟩ := zipD_get hd
          obtain ⟨y, ey, ry⟩ := l2.get he
          obtain ⟨y', ey', ry'⟩ := l3.get he'
          refine ⟨⟨zs, ws, y, y', h2, h3, ey, ey'⟩, fun z H' ⟨T, x, x', ez, hT, eH, hx1, hx2⟩ => ?_⟩
          subst ez eH
          have e2 := (hx1 zs h2).symm.trans ey
          have e3 := (hx2 ws h3).symm.trans ey'
          cases e2
          cases e3
          have tu2 := fun o => (Step.fresh (g := g2) (o := o) hT).tu R2
          exact ⟨Step.fresh hT, R2.fresh hT, .k upd_same (.cons (ry.keep (tu2 _)) (.cons (ry'.keep (tu2 _)) .nil))⟩
        · rw [l2.length, l3.length, hle]
          simp [zipD]⟩⟩
end
end SK
end
section
set_option maxHeartbeats 4000000
namespace SK
open PySem PySem.Spec PyProof.Rows L2

theorem oLe {gF gF' : G} (h : ∀ b m, gF.o b = some m → gF'.o b = some m) {d : D} {p : PyData} (r : PF gF d p) : PF gF' d p := PX.leo h p r
abbrev Keeps (g g' : G) : Prop := ∀ b m, g.o b = some m → g'.o b = some m
theorem Keeps.trans {a b c : G} (h : Keeps a b) (h' : Keeps b c) : Keeps a c := fun x m e => h' x m (h x m e)
theorem Keeps.refl {a : G} : Keeps a a := fun _ _ e => e
/-- the items of a tuple's or list's data -/
theorem items_pf {g : G} {d : D} {p : PyData} {ps : List PyData} (h : PF g d p) (hp : p = .tuple ps ∨ p = .list ps) : ∃ ds, items g d = some ds ∧ PFL g ds ps := by
  rcases hp with rfl | rfl
  · obtain ⟨ds, rfl, hl⟩ := h.tuple
    exact ⟨ds, rfl, hl⟩
  · obtain ⟨a, ds, rfl, ha, hl⟩ := h.list
    exact ⟨ds, lst_items ha, hl⟩
theorem items_keep {g g' : G} {d : D} {ds : List D} (k : Keeps g g') (h : items g d = some ds) : items g' d = some ds := by
  cases d with
  | v x =>
    cases x with
    | ref a =>
      have i : (match g.o a with
        | some (.lst ds) => some ds
        | _ => none) = some ds := h
      cases q : g.o a with
      | none => rw [q] at i; cases i
      | some m =>
        rw [q] at i
        cases m <;> cases i
        exact lst_items (k _ _ q)
    | _ => cases h
  | _ => exact h
/-- an encoding as a sequence -/
def Sq' {α : Type} (e : α → PyData) (pa : α → List PyData) : Prop := ∀ x, e x = .tuple (pa x) ∨ e x = .list (pa x)
theorem sqT {α : Type} {e : α → PyData} : Sq' (eT e) (fun l => l.map e) := fun _ => .inl rfl
theorem sqL {α : Type} {e : α → PyData} : Sq' (eL e) (fun l => l.map e) := fun _ => .inr rfl
theorem sqP2 {α β : Type} {e : α → PyData} {f : β → PyData} : Sq' (eP2 e f) (fun x => [e x.1, f x.2]) := fun _ => .inl rfl
theorem sqP3 {α β γ : Type} {e : α → PyData} {f : β → PyData} {h : γ → PyData} : Sq' (eP3 e f h) (fun x => [e x.1, f x.2.1, h x.2.2]) := fun _ => .inl rfl
theorem sqP4 {α β γ δ : Type} {e : α → PyData} {f : β → PyData} {h : γ → PyData} {k : δ → PyData} : Sq' (eP4 e f h k) (fun x => [e x.1, f x.2.1, h x.2.2.1, k x.2.2.2]) := fun _ => .inl rfl
def pItems : PyData → Option (List PyData)
  | .tuple ps => some ps
  | .list ps => some ps
  | _ => none

section
variable {ι : Type} {𝒴 : ι → Yx} {κ : Bool} {C : Ct} {e a b c : Expr} {es : List Expr} {α β γ δ τ : Type} {ea : α → PyData} {eb : β → PyData} {ec : γ → PyData} {er : τ → List PyData} {t ta tb : TE'} {tl : TL'} {pos p1 p2 : Pos} {oa : Mk κ α} {ob : Mk κ β} {oc : Mk κ γ} {ol : Mk κ τ}
theorem good {n : Nat} {o : Mk κ α} {K : α → Pn → Prop} (h : ∀ p, p.n = n → Gd κ o p K) : Good κ n o K := h
theorem pkg {n : Nat} {v : α} {K : α → Pn → Prop} (h : ∀ p, p.n = n → Gd κ (pk κ v) p K) : ∀ p, p.n = n → K v p := Good.pk h
theorem lkg {n : Nat} {o : Option α} {K : α → Pn → Prop} (h : ∀ p, p.n = n → Gd κ (lk κ o) p K) : ∃ v, o = some v ∧ ∀ p, p.n = n → K v p := Good.lk h
theorem bkg {n : Nat} {o : Mk κ α} {f : α → Mk κ β} {K : β → Pn → Prop} (h : ∀ p, p.n = n → Gd κ (bk κ o f) p K) : Good κ n o fun v p' => Gd κ (f v) p' K := Good.bind h

/-! ### in, not in -/
theorem re_inG (neg : Bool) {f : α → γ → Option Bool} (hf : ∀ x c z, f x c = some z → ∃ ps, (ec c = .tuple ps ∨ ec c = .list ps) ∧ SeqAt.shaped (ea x) = true ∧ SeqAt.shaped (.list ps) = true ∧ z = ps.any fun z => PyData.eqv z (ea x))
    (ha : RE κ C ta ea oa) (hc : RE κ C tb ec oc) : RE κ C (tO (dIn neg) ta tb) eB (bk κ oa fun x => bk κ oc fun y => lk κ ((f x y).map fun z => neg ^^ z)) :=
  re_two ha hc fun x y z ez n ev gF g d1 d2 S r1 r2 Q hQ => by
    cases h : f x y with
    | none => rw [h] at ez; cases ez
    | some w =>
      rw [h] at ez
      obtain ⟨ps, hp, s1, s2, ew⟩ := hf x y w h
      cases ez
      subst ew
      obtain ⟨ds, hi, hl⟩ := items_pf (oLe S.lg r2) hp
      exact ⟨_, ds, ps, hi, PX.up _ (oLe S.lg r1), PXL.up _ hl, s1, s2, hQ _ gF g (Ext.refl S.lg S.nn) S (.bl _)⟩
theorem any_mem [DecidableEq α] {d : Nat} (q : EqE ea d) (x : α) : ∀ l : List α, (l.map ea).any (fun z => PyData.eqv z (ea x)) = decide (x ∈ l)
  | [] => by simp
  | y :: l => by
    rw [List.map_cons, List.any_cons, any_mem q x l, q.eqv]
    by_cases h : y = x
    · subst h; simp
    · have : x ≠ y := Ne.symm h
      simp [h, this]
/-- membership, by decided equality -/
def oMem {α : Type} [DecidableEq α] (x : α) (l : List α) : Bool := decide (x ∈ l)
theorem oMem_iff {α : Type} [DecidableEq α] {x : α} {l : List α} : oMem x l = true ↔ x ∈ l := decide_eq_true_iff
theorem re_inT (neg : Bool) [DecidableEq α] {d : Nat} {ec : List α → PyData} {oc : Mk κ (List α)} (q : EqE ea d) (hd : d + 1 ≤ 64) (hs : Sq' ec (fun l => l.map ea)) (ha : RE κ C ta ea oa) (hc : RE κ C tb ec oc) :
    RE κ C (tO (dIn neg) ta tb) eB (bk κ oa fun x => bk κ oc fun l => pk κ (neg ^^ oMem x l)) :=
  re_inG neg (f := fun x l => some (decide (x ∈ l))) (fun x l z h => by
    cases h
    exact ⟨l.map ea, hs l, q.shaped (by omega) x, (qL q).shaped hd l, (any_mem q x l).symm⟩) ha hc
def oIn (x c : PyData) : Option Bool := (pItems c).bind fun ps => if SeqAt.shaped x = true ∧ SeqAt.shaped (.list ps) = true then some (ps.any fun z => PyData.eqv z x) else none
theorem re_inA (neg : Bool) {oa oc : Mk κ PyData} (ha : RE κ C ta eA oa) (hc : RE κ C tb eA oc) : RE κ C (tO (dIn neg) ta tb) eB (bk κ oa fun x => bk κ oc fun y => lk κ ((oIn x y).map fun z => neg ^^ z)) :=
  re_inG neg (f := oIn) (fun x c z h => by
    unfold oIn at h
    cases hp : pItems c with
    | none => rw [hp] at h; cases h
    | some ps =>
      rw [hp] at h
      have h : (if SeqAt.shaped x = true ∧ SeqAt.shaped (.list ps) = true then some (ps.any fun z => PyData.eqv z x) else none) = some z := h
      split at h <;> cases h
      rename_i cc
      refine ⟨ps, ?_, cc.1, cc.2, rfl⟩
      cases c <;> simp [pItems] at hp <;> subst hp
      · exact .inr rfl
      · exact .inl rfl) ha hc
theorem opIn (neg : Bool) {Y : Yx} {op : CmpOp} (ho : op = if neg then .NotIn else .In) (hu : Y.X.A.units + 65 < cLine) : OpD Y (compareOp op) (dIn neg) := by
  subst ho
  cases neg
  · exact d_in hu
  · exact d_notin hu

/-! ### and, or, not, if -/
variable {tA tB' : TB'} {o1 o2 : Mk κ Bool} {rest : List Expr}
theorem mw_and1 (h : MT κ 𝒴 C a o1) : MW κ 𝒴 C (.BoolOp .And [a] pos) o1 := MW.mk (fun i => qw_and1 (BT.q i)) h
theorem mw_or1 (h : MT κ 𝒴 C a o1) : MW κ 𝒴 C (.BoolOp .Or [a] pos) o1 := MW.mk (fun i => qw_or1 (BT.q i)) h
theorem mw_and (h : MT κ 𝒴 C a o1) (h2 : MW κ 𝒴 C (.BoolOp .And (b :: rest) pos) o2) : MW κ 𝒴 C (.BoolOp .And (a :: b :: rest) pos) (bk κ o1 fun x => if x = true then o2 else pk κ false) :=
  MW.mk (fun i => qw_and (BT.q i) (BW.q i)) ⟨fun n ev gF g S K hK Q hQ => h.run n ev gF g S _ hK.bind _ fun x n1 gF1 g1 l1 S1 k1 => by
    cases x with
    | true => exact h2.run n1 ev gF1 g1 S1 K (good k1) Q fun v n2 gF2 g2 l2 S2 k2 => hQ v n2 gF2 g2 (Ext.trans0 l1 l2) S2 k2
    | false => exact hQ false n1 gF1 g1 l1 S1 (pkg k1)⟩
theorem mw_or (h : MT κ 𝒴 C a o1) (h2 : MW κ 𝒴 C (.BoolOp .Or (b :: rest) pos) o2) : MW κ 𝒴 C (.BoolOp .Or (a :: b :: rest) pos) (bk κ o1 fun x => if x = true then pk κ true else o2) :=
  MW.mk (fun i => qw_or (BT.q i) (BW.q i)) ⟨fun n ev gF g S K hK Q hQ => h.run n ev gF g S _ hK.bind _ fun x n1 gF1 g1 l1 S1 k1 => by
    cases x with
    | false => exact h2.run n1 ev gF1 g1 S1 K (good k1) Q fun v n2 gF2 g2 l2 S2 k2 => hQ v n2 gF2 g2 (Ext.trans0 l1 l2) S2 k2
    | true => exact hQ true n1 gF1 g1 l1 S1 (pkg k1)⟩
theorem mt_w (h : MW κ 𝒴 C a o1) : MT κ 𝒴 C a o1 := MT.mk (fun i => QW.qt (BW.q i)) h
theorem mt_not (h : MT κ 𝒴 C a o1) : MT κ 𝒴 C (.UnaryOp .Not a pos) (bk κ o1 fun x => pk κ (!x)) :=
  MT.mk (fun i => q_not (BT.q i)) ⟨fun n ev gF g S K hK Q hQ => h.run n ev gF g S _ hK.bind _ fun x n1 gF1 g1 l1 S1 k1 => hQ (!x) n1 gF1 g1 l1 S1 (pkg k1)⟩
theorem mt_e (h : ME κ 𝒴 C a eB o1) (he : ∀ i whole, isTrue a (𝒴 i).X.env whole = (do let v ← whole; standAt a.pos; holding [v] (truthy v)) := by intro _ _; rfl) : MT κ 𝒴 C a o1 := MT.mk (fun i => q_val (BE.q i) (he i)) h.tB
theorem me_notV (h : ME κ 𝒴 C a eB o1) : ME κ 𝒴 C (.UnaryOp .Not a pos) eB (bk κ o1 fun x => pk κ (!x)) :=
  ME.mk (fun i => qv_not (BE.q i)) ⟨fun n ev gF g S K hK Q hQ => h.run n ev gF g S _ hK.bind _ fun x n1 d gF1 g1 l1 S1 r1 k1 => by
    cases r1
    exact ⟨x, rfl, hQ (!x) n1 _ gF1 g1 l1 S1 (.bl _) (pkg k1)⟩⟩
theorem me_bo1 {op} (h : ME κ 𝒴 C a eB o1) : ME κ 𝒴 C (.BoolOp op [a] pos) eB o1 := ME.mk (fun i => qv_one (BE.q i)) h
theorem me_and (h : ME κ 𝒴 C a eB o1) (h2 : ME κ 𝒴 C (.BoolOp .And (b :: rest) pos) eB o2) : ME κ 𝒴 C (.BoolOp .And (a :: b :: rest) pos) eB (bk κ o1 fun x => if x = true then o2 else pk κ false) :=
  ME.mk (fun i => qv_and (BE.q i) (BE.q i)) ⟨fun n ev gF g S K hK Q hQ => h.run n ev gF g S _ hK.bind _ fun x n1 d gF1 g1 l1 S1 r1 k1 => by
    cases r1
    refine ⟨x, rfl, ?_⟩
    cases x with
    | true => exact h2.run n1 ev gF1 g1 S1 K (good k1) Q fun v n2 d gF2 g2 l2 S2 r2 k2 => hQ v n2 d gF2 g2 (Ext.trans0 l1 l2) S2 r2 k2
    | false => exact hQ false n1 _ gF1 g1 l1 S1 (.bl _) (pkg k1)⟩
theorem me_or (h : ME κ 𝒴 C a eB o1) (h2 : ME κ 𝒴 C (.BoolOp .Or (b :: rest) pos) eB o2) : ME κ 𝒴 C (.BoolOp .Or (a :: b :: rest) pos) eB (bk κ o1 fun x => if x = true then pk κ true else o2) :=
  ME.mk (fun i => qv_or (BE.q i) (BE.q i)) ⟨fun n ev gF g S K hK Q hQ => h.run n ev gF g S _ hK.bind _ fun x n1 d gF1 g1 l1 S1 r1 k1 => by
    cases r1
    refine ⟨x, rfl, ?_⟩
    cases x with
    | false => exact h2.run n1 ev gF1 g1 S1 K (good k1) Q fun v n2 d gF2 g2 l2 S2 r2 k2 => hQ v n2 d gF2 g2 (Ext.trans0 l1 l2) S2 r2 k2
    | true => exact hQ true n1 _ gF1 g1 l1 S1 (.bl _) (pkg k1)⟩
theorem me_if {oa ob : Mk κ α} (hc : MT κ 𝒴 C c o1) (ha : ME κ 𝒴 C a ea oa) (hb : ME κ 𝒴 C b ea ob) : ME κ 𝒴 C (.IfExp c a b pos) ea (bk κ o1 fun x => if x = true then oa else ob) :=
  ME.mk (fun i => q_if (BT.q i) (BE.q i) (BE.q i)) ⟨fun n ev gF g S K hK Q hQ => hc.run n ev gF g S _ hK.bind _ fun x n1 gF1 g1 l1 S1 k1 => by
    cases x with
    | true => exact ha.run n1 ev gF1 g1 S1 K (good k1) Q fun v n2 d gF2 g2 l2 S2 r2 k2 => hQ v n2 d gF2 g2 (Ext.trans0 l1 l2) S2 r2 k2
    | false => exact hb.run n1 ev gF1 g1 S1 K (good k1) Q fun v n2 d gF2 g2 l2 S2 r2 k2 => hQ v n2 d gF2 g2 (Ext.trans0 l1 l2) S2 r2 k2⟩

/-! ### lists of expressions, displays -/
theorem ma_nil : MA κ 𝒴 C [] (fun _ : Unit => []) (pk κ ()) := MA.mk (fun _ => qa_nil) ⟨fun n ev gF g S K hK Q hQ => hQ () n [] gF g (Ext.refl S.lg S.nn) S .nil hK.pk⟩
theorem ma_cons {or : Mk κ τ} (ha : ME κ 𝒴 C e ea oa) (hr : MA κ 𝒴 C es er or) (hs : ∀ i, starEach (e :: es) (𝒴 i).X.env = (false, eval e (𝒴 i).X.env) :: starEach es (𝒴 i).X.env := by exact fun _ => rfl) :
    MA κ 𝒴 C (e :: es) (fun v : α × τ => ea v.1 :: er v.2) (bk κ oa fun x => bk κ or fun r => pk κ (x, r)) :=
  MA.mk (fun i => qa_cons (BE.q i) (BA.q i) (hs i)) ⟨fun n ev gF g S K hK Q hQ => ha.run n ev gF g S _ hK.bind _ fun x n1 d gF1 g1 l1 S1 r1 k1 =>
    hr.run n1 ev gF1 g1 S1 _ (bkg k1) _ fun r n2 ds gF2 g2 l2 S2 r2 k2 => hQ (x, r) n2 _ gF2 g2 (Ext.trans0 l1 l2) S2 (.cons (oLe l2.lF r1) r2) (pkg k2)⟩
theorem ma_one (ha : ME κ 𝒴 C e ea oa) (hs : ∀ i, starEach [e] (𝒴 i).X.env = (false, eval e (𝒴 i).X.env) :: starEach [] (𝒴 i).X.env := by exact fun _ => rfl) : MA κ 𝒴 C [e] (fun v => [ea v]) oa :=
  MA.mk (fun i => qa_cons (BE.q i) (qa_nil) (hs i)) ⟨fun n ev gF g S K hK Q hQ => ha.run n ev gF g S K hK _ fun x n1 d gF1 g1 l1 S1 r1 k1 => hQ x n1 [d] gF1 g1 l1 S1 (.cons r1 .nil) k1⟩
theorem ma_star {pa : α → List PyData} {or : Mk κ τ} (hp : Sq' ea pa) (ha : ME κ 𝒴 C e ea oa) (hr : MA κ 𝒴 C es er or) (hs : ∀ i, starEach (.Starred e p1 :: es) (𝒴 i).X.env = (true, eval e (𝒴 i).X.env) :: starEach es (𝒴 i).X.env := by exact fun _ => rfl) :
    MA κ 𝒴 C (.Starred e p1 :: es) (fun v : α × τ => pa v.1 ++ er v.2) (bk κ oa fun x => bk κ or fun r => pk κ (x, r)) :=
  MA.mk (fun i => qa_star (BE.q i) (BA.q i) (hs i)) ⟨fun n ev gF g S K hK Q hQ => ha.run n ev gF g S _ hK.bind _ fun x n1 d gF1 g1 l1 S1 r1 k1 => by
    obtain ⟨ds, hi, hl⟩ := items_pf (oLe S1.lg r1) (hp x)
    obtain ⟨ds', hi', hl'⟩ := items_pf r1 (hp x)
    have e := items_keep S1.lg hi'
    rw [hi] at e; cases e
    exact ⟨ds, hi, hr.run n1 ev gF1 g1 S1 _ (bkg k1) _ fun r n2 es gF2 g2 l2 S2 r2 k2 => hQ (x, r) n2 _ gF2 g2 (Ext.trans0 l1 l2) S2 ((PXL.leo l2.lF _ hl').append r2) (pkg k2)⟩⟩
/-- a tuple of few -/
theorem me_tup {x1} (h : MA κ 𝒴 C es er ol) (hz : ∀ v, (er v).length ≤ 1000 := by intro v; exact Nat.le_of_ble_eq_true rfl) : ME κ 𝒴 C (.Tuple es x1 pos) (fun v => .tuple (er v)) ol :=
  ME.mk (fun i => q_tup (BA.q i)) ⟨fun n ev gF g S K hK Q hQ => h.run n ev gF g S K hK _ fun v n1 ds gF1 g1 l1 S1 r1 k1 => ⟨by rw [r1.length]; exact small (Nat.le_trans (hz v) (by decide)), hQ v n1 _ gF1 g1 l1 S1 (.tup r1) k1⟩⟩
def gL {α : Type} (l : List α) : Option (List α) := if l.length ≤ 1000000 then some l else none
/-- a tuple with stars -/
theorem me_tupG {x1} (f : τ → List α) (h : MA κ 𝒴 C es er ol) (hf : ∀ v, er v = (f v).map ea) : ME κ 𝒴 C (.Tuple es x1 pos) (eT ea) (bk κ ol fun v => lk κ (gL (f v))) :=
  ME.mk (fun i => q_tup (BA.q i)) ⟨fun n ev gF g S K hK Q hQ => h.run n ev gF g S _ hK.bind _ fun v n1 ds gF1 g1 l1 S1 r1 k1 => by
    obtain ⟨w, ew, kw⟩ := lkg k1
    unfold gL at ew
    split at ew <;> cases ew
    rename_i hl
    rw [hf] at r1
    exact ⟨by rw [r1.length, List.length_map]; exact small hl, hQ _ n1 _ gF1 g1 l1 S1 (.tup r1) kw⟩⟩
/-- a fresh list of few; with stars -/
theorem mf_lst (h : MA κ 𝒴 C es er ol) (hz : ∀ v, (er v).length ≤ 1000 := by intro v; exact Nat.le_of_ble_eq_true rfl) : MF κ 𝒴 C (.List es pos) er ol :=
  MF.mk (fun i => q_lst (BA.q i)) ⟨fun n ev gF g S K hK Q hQ => h.run n ev gF g S K hK _ fun v n1 ds gF1 g1 l1 S1 r1 k1 => ⟨by rw [r1.length]; exact small (Nat.le_trans (hz v) (by decide)), hQ v n1 _ gF1 g1 l1 S1 r1 k1⟩⟩
theorem mf_lstG (f : τ → List α) (h : MA κ 𝒴 C es er ol) (hf : ∀ v, er v = (f v).map ea) : MF κ 𝒴 C (.List es pos) (fun l => l.map ea) (bk κ ol fun v => lk κ (gL (f v))) :=
  MF.mk (fun i => q_lst (BA.q i)) ⟨fun n ev gF g S K hK Q hQ => h.run n ev gF g S _ hK.bind _ fun v n1 ds gF1 g1 l1 S1 r1 k1 => by
    obtain ⟨w, ew, kw⟩ := lkg k1
    unfold gL at ew
    split at ew <;> cases ew
    rename_i hl
    rw [hf] at r1
    exact ⟨by rw [r1.length, List.length_map]; exact small hl, hQ _ n1 _ gF1 g1 l1 S1 r1 kw⟩⟩
theorem mf_as {f : τ → β} {er' : β → List PyData} (h : MF κ 𝒴 C e er ol) (hf : ∀ v, er v = er' (f v)) : MF κ 𝒴 C e er' (bk κ ol fun v => pk κ (f v)) := ⟨fun n ev gF g S K hK Q hQ =>
  h.run n ev gF g S _ hK.bind Q fun v n1 ds gF1 g1 l1 S1 r1 k1 => hQ (f v) n1 ds gF1 g1 l1 S1 (hf v ▸ r1) (pkg k1)⟩
/-- it stands still from here on -/
theorem new_keeps {gF : G} {p : Addr} {m : MO} (h : gF.o p = none) : Keeps gF (gF.put p m) := fun b u e => (G.put_ne (fun z => by rw [z, h] at e; cases e)).trans e
theorem Sx.out {C : Ct} {n : Nat} {ev : Ev} {gF g : G} (S : Sx C n ev gF g) {p : Addr} (h : g.o p = none) : gF.o p = none := by
  cases e : gF.o p with
  | none => rfl
  | some m => rw [S.lg _ _ e] at h; cases h
theorem me_F (h : MF κ 𝒴 C e er ol) : ME κ 𝒴 C e (fun v => .list (er v)) ol :=
  ME.mk (fun i => QF.qe (BF.q i)) ⟨fun n ev gF g S K hK Q hQ => h.run n ev gF g S K hK _ fun v n1 ds gF1 g1 l1 S1 r1 k1 p hp =>
    hQ v n1 _ (gF1.put p (.lst ds)) (g1.put p (.lst ds)) (Ext.trans0 l1 (Ext.put S1.lg S1.nn hp.1)) (S1.ext (Ext.put S1.lg S1.nn hp.1)) (.lst G.put_same (PXL.leo (new_keeps (S1.out hp.1)) _ r1)) k1⟩
end
end SK
end
section
set_option maxHeartbeats 4000000
namespace SK
open PySem PySem.Spec PyProof.Rows L2

/-! ### subscripts -/
def oAt {α : Type} (l : List α) (i : Int) : Option α := (ixN l.length i).bind fun j => l[j]?
theorem atD_pf {g : G} {ds : List D} {ps : List PyData} {i : Int} {p : PyData} (h : PFL g ds ps) (e : oAt ps i = some p) : ∃ d, atD ds i = some d ∧ PF g d p := by
  unfold oAt at e
  unfold atD
  rw [h.length]
  cases q : ixN ps.length i with
  | none => rw [q] at e; cases e
  | some j =>
    rw [q] at e
    exact h.get e
theorem oAt_map {α β : Type} (f : α → β) (l : List α) (i : Int) : oAt (l.map f) i = (oAt l i).map f := by
  unfold oAt
  rw [List.length_map]
  cases ixN l.length i with
  | none => rfl
  | some j => simp
def cutG {α : Type} (ps : List α) (lo hi : Option Int) : List α := (ps.drop (HT.sIx ps.length 0 lo)).take (HT.sIx ps.length ps.length hi - HT.sIx ps.length 0 lo)
theorem cutG_map {α β : Type} (f : α → β) (l : List α) (lo hi : Option Int) : cutG (l.map f) lo hi = (cutG l lo hi).map f := by
  unfold cutG
  rw [List.length_map, List.map_take, List.map_drop]
theorem cut_pf {g : G} {ds : List D} {ps : List PyData} {lo hi : Option Int} (h : PFL g ds ps) : PFL g (cutD ds lo hi) (cutG ps lo hi) := by
  unfold cutD cutG
  rw [h.length]
  exact (h.drop _).take _
def pAt (p : PyData) (i : Int) : Option PyData := (pItems p).bind fun ps => oAt ps i
def pLen (p : PyData) : Option Int := (pItems p).map fun ps => (ps.length : Int)
theorem pItems_sq {p : PyData} {ps : List PyData} (h : pItems p = some ps) : p = .tuple ps ∨ p = .list ps := by
  cases p <;> simp [pItems] at h <;> subst h
  · exact .inr rfl
  · exact .inl rfl
def pCut (p : PyData) (lo hi : Option Int) : Option PyData := match p with
  | .tuple ps => some (.tuple (cutG ps lo hi))
  | _ => none

/-! ### a slice's part -/
structure RP (κ : Bool) (C : Ct) (t : TP') (o : Mk κ (Option Int)) : Prop where
  run : ∀ n ev gF g, Sx C n ev gF g → ∀ K, Good κ n o K → ∀ Q : Option Int → G → Prop, (∀ v n' gF' g', Ext [] gF g gF' g' n' → Sx C n' ev gF' g' → (∀ p, p.n = n' → K v p) → Q v g') → t ev g Q
abbrev MP {ι : Type} (κ : Bool) (𝒴 : ι → Yx) (C : Ct) (e : Option Expr) (o : Mk κ (Option Int)) : Prop := RP κ C (BP 𝒴 e) o

/-! ### an owned value that no slot holds yet -/
structure Sx1 (C : Ct) (g0 : G) (n : Nat) (ev : Ev) (gF g : G) (x : OV) (d : D) : Prop where
  fr : ∀ i x, C.F.lookup i = some x → ∃ d, ev[i]? = some (some d) ∧ RepF gF d x
  ow : ∃ fp f1, OwE C.B gF g ev C.O fp ∧ Ow gF g x d f1 ∧ (f1 ++ fp).Nodup ∧ ∀ a ∈ f1, gF.o a = none ∧ C.B.g.o a = none ∧ g0.o a = none
  ex : ∀ i d, C.X.lookup i = some d → ev[i]? = some (some d)
  bs : Ext C.B.M C.B.F C.B.g gF g n
  p : g.p = C.p
  len : ev.length = C.N
theorem Sx1.sx {C : Ct} {g0 : G} {n : Nat} {ev : Ev} {gF g : G} {x : OV} {d : D} (S : Sx1 C g0 n ev gF g x d) : Sx C n ev gF g := by
  obtain ⟨fp, f1, h1, h2, h3, h4⟩ := S.ow
  exact ⟨S.fr, ⟨fp, h1, (List.nodup_append.mp h3).2.1⟩, S.ex, S.bs, S.p, S.len⟩
def lOV (ps : List PyData) : OV := .l (ps.map fun p => .z (.p p))
theorem owL_of {gF g : G} : ∀ {ds : List D} {ps : List PyData}, PFL gF ds ps → OwL gF g (ps.map fun p => .z (.p p)) ds []
  | _, [], h => by cases h; exact .nil
  | _, p :: ps, h => by
    cases h with
    | cons h1 h2 =>
      have a : Ow gF g (.z (.p p)) _ [] := .z (show RepF gF _ (.p p) from h1)
      exact OwL.cons a (owL_of h2)
theorem owL_to {gF g : G} : ∀ {ps : List PyData} {ds : List D} {fp : List Addr}, OwL gF g (ps.map fun p => .z (.p p)) ds fp → PFL gF ds ps ∧ fp = []
  | [], _, _, h => by cases h; exact ⟨.nil, rfl⟩
  | p :: ps, _, _, h => by
    cases h with
    | cons h1 h2 =>
      obtain ⟨h3, e⟩ := owL_to h2
      subst e
      cases h1 with
      | z h1 => exact ⟨.cons h1 h3, rfl⟩
theorem Sx.new1 {C : Ct} {n : Nat} {ev : Ev} {gF g : G} (S : Sx C n ev gF g) {p : Addr} {ds : List D} {ps : List PyData} (hp : g.o p = none) (r : PFL gF ds ps) : Sx1 C g n ev gF (g.put p (.lst ds)) (lOV ps) (.v (.ref p)) := by
  have S' := S.ext (Ext.putg (m := .lst ds) S.lg S.nn hp)
  obtain ⟨fp0, h10, h20⟩ := S.ow
  refine ⟨S'.fr, ⟨fp0, [p], h10.keep Keeps.refl fun a ha => ⟨fun m e => (G.put_ne (fun z => by rw [z, hp] at e; cases e)).trans e, fun e _ => e⟩, .l G.put_same (owL_of r), ?_, fun a ha => ?_⟩, S'.ex, S'.bs, S'.p, S'.len⟩
  · rw [List.singleton_append, List.nodup_cons]
    exact ⟨fun hm => h10.there p hm hp, h20⟩
  · have e : a = p := by simpa using ha
    subst e
    refine ⟨S.out hp, ?_, hp⟩
    cases q : C.B.g.o a with
    | none => rfl
    | some m => exact absurd hp (S.bs.there a (by rw [q]; simp))
theorem Sx1.mono {C : Ct} {g0 g0' : G} {n : Nat} {ev : Ev} {gF g : G} {x : OV} {d : D} (S : Sx1 C g0 n ev gF g x d) (h : ∀ a, g0.o a = none → g0'.o a = none) : Sx1 C g0' n ev gF g x d := by
  obtain ⟨fp, f1, h1, h2, h3, h4⟩ := S.ow
  exact ⟨S.fr, ⟨fp, f1, h1, h2, h3, fun a ha => ⟨(h4 a ha).1, (h4 a ha).2.1, h _ (h4 a ha).2.2⟩⟩, S.ex, S.bs, S.p, S.len⟩
theorem Ext.no {M : List Addr} {gF g gF' g' : G} {n : Nat} (x : Ext M gF g gF' g' n) : ∀ a, g'.o a = none → g.o a = none := fun a h => by
  cases e : g.o a with
  | none => rfl
  | some m => exact absurd h (x.there a (by rw [e]; simp))
theorem Sx1.freeze {C : Ct} {gF0 g0 : G} {n : Nat} {ev : Ev} {gF g : G} {ps : List PyData} {d : D} (x : Ext [] gF0 g0 gF g n) (S : Sx1 C g0 n ev gF g (lOV ps) d) : ∃ gF', Ext [] gF0 g0 gF' g n ∧ Sx C n ev gF' g ∧ PF gF' d (.list ps) := by
  obtain ⟨fp, f1, h1, h2, h3, h4⟩ := S.ow
  cases h2 with
  | @l a ds xs f2 h5 h6 =>
    obtain ⟨r, rfl⟩ := owL_to h6
    have ha := h4 a (by simp)
    have nd : (a :: fp).Nodup := h3
    have nin : a ∉ fp := (List.nodup_cons.mp nd).1
    have kp := new_keeps (m := .lst ds) ha.1
    have lg : ∀ b m, (gF.put a (.lst ds)).o b = some m → g.o b = some m := fun b m e => by
      by_cases hb : b = a
      · subst hb; rw [G.put_same] at e; cases e; exact h5
      · rw [G.put_ne hb] at e; exact S.bs.lg b m e
    refine ⟨gF.put a (.lst ds), ⟨fun b m e => kp b m (x.lF b m e), lg, x.keep, x.there, fun b e1 e2 => ?_, x.p, x.n, x.s⟩, ⟨fun i x e => ?_, ⟨fp, h1.keep kp fun b hb => ⟨fun _ e => e, fun e _ => ?_⟩, (List.nodup_cons.mp nd).2⟩, S.ex, ?_, S.p, S.len⟩, .lst G.put_same (PXL.leo kp _ r)⟩
    · rw [G.put_ne (fun z => by rw [z] at e2; exact e2 ha.2.2)]; exact x.disj b e1 e2
    · obtain ⟨d, e1, e2⟩ := S.fr i x e
      exact ⟨d, e1, e2.leo kp⟩
    · exact (G.put_ne (fun z => nin (by rw [← z]; exact hb))).trans e
    · exact ⟨fun b m e => kp b m (S.bs.lF b m e), lg, S.bs.keep, S.bs.there, fun b e1 e2 => (G.put_ne (fun z => by rw [z] at e2; exact e2 ha.2.1)).trans (S.bs.disj b e1 e2), S.bs.p, S.bs.n, S.bs.s⟩
end SK
end
section
set_option maxHeartbeats 4000000
namespace SK
open PySem PySem.Spec PyProof.Rows L2

/-- a value that nobody else holds -/
structure RN (κ : Bool) (C : Ct) (t : TE') {α : Type} (ov : α → OV) (o : Mk κ α) : Prop where
  run : ∀ n ev gF g, Sx C n ev gF g → ∀ K, Good κ n o K → ∀ Q : DK, (∀ v n' d gF' g', Ext [] gF g gF' g' n' → Sx1 C g n' ev gF' g' (ov v) d → (∀ p, p.n = n' → K v p) → Q d g') → t ev g Q
abbrev MN {ι : Type} (κ : Bool) (𝒴 : ι → Yx) (C : Ct) (e : Expr) {α : Type} (ov : α → OV) (o : Mk κ α) : Prop := RN κ C (BE 𝒴 e) ov o
abbrev vL {α : Type} (ea : α → PyData) : List α → OV := fun l => lOV (l.map ea)

section
variable {ι : Type} {𝒴 : ι → Yx} {κ : Bool} {C : Ct} {e a b c : Expr} {es : List Expr} {α β γ δ τ : Type} {ea : α → PyData} {eb : β → PyData} {ec : γ → PyData} {er : τ → List PyData} {t ta tb : TE'} {tl : TL'} {pos p1 p2 : Pos} {oa : Mk κ α} {ob : Mk κ β} {oc : Mk κ γ} {ol : Mk κ τ} {oi : Mk κ Int} {x : Str}
theorem MN.mk {ov : α → OV} (h : ∀ i, QE (𝒴 i) e t) (r : RN κ C t ov oa) : MN κ 𝒴 C e ov oa := ⟨fun n ev gF g S K hK Q hQ => ⟨t, h, r.run n ev gF g S K hK Q hQ⟩⟩
theorem rn_F (h : RA κ C tl er ol) : RN κ C (tF tl) (fun v => lOV (er v)) ol := ⟨fun n ev gF g S K hK Q hQ => h.run n ev gF g S K hK _ fun v n1 ds gF1 g1 l1 S1 r1 k1 p hp => hQ v n1 _ gF1 _ (Ext.trans0 l1 (Ext.putg S1.lg S1.nn hp.1)) ((S1.new1 hp.1 r1).mono l1.no) k1⟩
theorem mn_F (h : MF κ 𝒴 C e er ol) : MN κ 𝒴 C e (fun v => lOV (er v)) ol := MN.mk (fun i => QF.qe (BF.q i)) (rn_F h)
/-- it stands still from here on -/
theorem RN.frz {t : TE'} {o : Mk κ τ} (h : RN κ C t (fun v => lOV (er v)) o) : RE κ C t (fun v => .list (er v)) o := ⟨fun n ev gF g S K hK Q hQ => h.run n ev gF g S K hK Q fun v n1 d gF1 g1 l1 S1 k1 => by
  obtain ⟨gF2, l2, S2, r⟩ := S1.freeze l1
  exact hQ v n1 d gF2 g1 l2 S2 r k1⟩
theorem me_N {o : Mk κ τ} (h : MN κ 𝒴 C e (fun v => lOV (er v)) o) : ME κ 𝒴 C e (fun v => .list (er v)) o := h.frz

/-! ### a[i] -/
theorem re_ixG {pa : α → List PyData} {f : α → Int → Option γ} (hp : ∀ x i z, f x i = some z → (∃ p, (ea x = .tuple (pa x) ∨ ea x = .list (pa x)) ∧ oAt (pa x) i = some p ∧ p = ec z)) (ha : RE κ C ta ea oa) (hb : RE κ C tb eI oi) :
    RE κ C (tO dIx ta tb) ec (bk κ oa fun x => bk κ oi fun y => lk κ (f x y)) :=
  re_two ha hb fun x y z ez n ev gF g d1 d2 S r1 r2 Q hQ => by
    obtain ⟨p, h1, h2, rfl⟩ := hp x y z ez
    obtain ⟨ds, hi, hl⟩ := items_pf r1 h1
    obtain ⟨d, e1, e2⟩ := atD_pf hl h2
    cases r2
    exact ⟨ds, d, items_keep S.lg hi, e1, hQ d gF g (Ext.refl S.lg S.nn) S e2⟩
theorem me_ixG {pa : α → List PyData} {f : α → Int → Option γ} (hp : ∀ x i z, f x i = some z → (∃ p, (ea x = .tuple (pa x) ∨ ea x = .list (pa x)) ∧ oAt (pa x) i = some p ∧ p = ec z)) (ha : ME κ 𝒴 C a ea oa) (hb : ME κ 𝒴 C b eI oi) (hs : PlainIx b := by exact fun _ _ => rfl) :
    ME κ 𝒴 C (.Subscript a b pos) ec (bk κ oa fun x => bk κ oi fun y => lk κ (f x y)) := ME.mk (fun i => q_ix d_ix (BE.q i) (BE.q i) hs) (re_ixG hp ha hb)
/-- of a list or tuple of one kind -/
theorem me_ix {es' : List α → PyData} {oa : Mk κ (List α)} (hq : Sq' es' (fun l => l.map ea)) (ha : ME κ 𝒴 C a es' oa) (hb : ME κ 𝒴 C b eI oi) (hs : PlainIx b := by exact fun _ _ => rfl) :
    ME κ 𝒴 C (.Subscript a b pos) ea (bk κ oa fun x => bk κ oi fun y => lk κ (oAt x y)) :=
  me_ixG (pa := fun l => l.map ea) (f := oAt) (fun x i z h => ⟨ea z, hq x, by rw [oAt_map, h]; rfl, rfl⟩) ha hb hs
theorem me_ixA {oa : Mk κ PyData} (ha : ME κ 𝒴 C a eA oa) (hb : ME κ 𝒴 C b eI oi) (hs : PlainIx b := by exact fun _ _ => rfl) :
    ME κ 𝒴 C (.Subscript a b pos) eA (bk κ oa fun x => bk κ oi fun y => lk κ (pAt x y)) :=
  me_ixG (pa := fun p => (pItems p).getD []) (f := pAt) (fun x i z h => by
    unfold pAt at h
    cases q : pItems x with
    | none => rw [q] at h; cases h
    | some ps =>
      rw [q] at h
      exact ⟨z, pItems_sq q, h, rfl⟩) ha hb hs
/-- at a written place of a tuple of fixed kinds -/
theorem me_ixK {pa : α → List PyData} (k : Int) (f : α → γ) (hq : Sq' ea pa) (ha : ME κ 𝒴 C a ea oa) {j} (hf : ∀ x, oAt (pa x) k = some (ec (f x)) := by intro x; rfl) :
    ME κ 𝒴 C (.Subscript a (.Constant (.int k) j p1) pos) ec (bk κ oa fun x => pk κ (f x)) :=
  ME.mk (fun i => q_ix d_ix (BE.q i) qc_int) ⟨fun n ev gF g S K hK Q hQ => ha.run n ev gF g S _ hK.bind _ fun x n1 d gF1 g1 l1 S1 r1 k1 => by
    obtain ⟨ds, hi, hl⟩ := items_pf r1 (hq x)
    obtain ⟨d', e1, e2⟩ := atD_pf hl (hf x)
    exact ⟨ds, d', items_keep S1.lg hi, e1, hQ (f x) n1 d' gF1 g1 l1 S1 e2 (pkg k1)⟩⟩

/-! ### slices -/
theorem mp_none : MP κ 𝒴 C none (pk κ none) := ⟨fun n ev gF g S K hK Q hQ => ⟨_, fun _ => qp_none, hQ none n gF g (Ext.refl S.lg S.nn) S hK.pk⟩⟩
theorem mp_some (h : ME κ 𝒴 C e eI oi) : MP κ 𝒴 C (some e) (bk κ oi fun i => pk κ (some i)) := ⟨fun n ev gF g S K hK Q hQ => ⟨_, fun i => qp_some (BE.q i), h.run n ev gF g S _ hK.bind _ fun x n1 d gF1 g1 l1 S1 r1 k1 => by
  cases r1
  exact ⟨x, rfl, hQ (some x) n1 gF1 g1 l1 S1 (pkg k1)⟩⟩⟩
theorem me_slG {lo hi : Option Expr} {ol oh : Mk κ (Option Int)} {f : α → Option Int → Option Int → Option γ} (hf : ∀ x i j z, f x i j = some z → ∃ ps, ea x = .tuple ps ∧ ec z = .tuple (cutG ps i j)) (ha : ME κ 𝒴 C a ea oa) (hl : MP κ 𝒴 C lo ol) (hh : MP κ 𝒴 C hi oh) :
    ME κ 𝒴 C (.Subscript a (.Slice lo hi none p2) pos) ec (bk κ oa fun x => bk κ ol fun i => bk κ oh fun j => lk κ (f x i j)) :=
  ME.mk (fun i => q_slT (BE.q i) (BP.q i) (BP.q i)) ⟨fun n ev gF g S K hK Q hQ => ha.run n ev gF g S _ hK.bind _ fun x n1 d gF1 g1 l1 S1 r1 k1 => hl.run n1 ev gF1 g1 S1 _ (bkg k1) _ fun i n2 gF2 g2 l2 S2 k2 => hh.run n2 ev gF2 g2 S2 _ (bkg k2) _ fun j n3 gF3 g3 l3 S3 k3 => by
    obtain ⟨z, ez, kz⟩ := lkg k3
    obtain ⟨ps, e1, e2⟩ := hf x i j z ez
    rw [e1] at r1
    obtain ⟨ds, rfl, hl'⟩ := r1.tuple
    refine hQ z n3 _ gF3 g3 (Ext.trans0 l1 (Ext.trans0 l2 l3)) S3 ?_ kz
    rw [e2]
    exact .tup (PXL.leo (Ext.trans0 l2 l3).lF _ (cut_pf hl'))⟩
theorem me_slT {lo hi : Option Expr} {ol oh : Mk κ (Option Int)} {oa : Mk κ (List α)} (ha : ME κ 𝒴 C a (eT ea) oa) (hl : MP κ 𝒴 C lo ol) (hh : MP κ 𝒴 C hi oh) :
    ME κ 𝒴 C (.Subscript a (.Slice lo hi none p2) pos) (eT ea) (bk κ oa fun x => bk κ ol fun i => bk κ oh fun j => pk κ (cutG x i j)) :=
  me_slG (f := fun x i j => some (cutG x i j)) (fun x i j z h => by cases h; exact ⟨_, rfl, by rw [cutG_map]; rfl⟩) ha hl hh
theorem me_slA {lo hi : Option Expr} {ol oh : Mk κ (Option Int)} {oa : Mk κ PyData} (ha : ME κ 𝒴 C a eA oa) (hl : MP κ 𝒴 C lo ol) (hh : MP κ 𝒴 C hi oh) :
    ME κ 𝒴 C (.Subscript a (.Slice lo hi none p2) pos) eA (bk κ oa fun x => bk κ ol fun i => bk κ oh fun j => lk κ (pCut x i j)) :=
  me_slG (f := pCut) (fun x i j z h => by
    cases x <;> simp [pCut] at h
    subst h
    exact ⟨_, rfl, rfl⟩) ha hl hh
/-- of a list: a new one -/
theorem mn_sl {lo hi : Option Expr} {ol oh : Mk κ (Option Int)} {oa : Mk κ (List α)} (ha : ME κ 𝒴 C a (eL ea) oa) (hl : MP κ 𝒴 C lo ol) (hh : MP κ 𝒴 C hi oh) :
    MN κ 𝒴 C (.Subscript a (.Slice lo hi none p2) pos) (vL ea) (bk κ oa fun x => bk κ ol fun i => bk κ oh fun j => pk κ (cutG x i j)) :=
  MN.mk (fun i => q_slT (BE.q i) (BP.q i) (BP.q i)) ⟨fun n ev gF g S K hK Q hQ => ha.run n ev gF g S _ hK.bind _ fun x n1 d gF1 g1 l1 S1 r1 k1 => hl.run n1 ev gF1 g1 S1 _ (bkg k1) _ fun i n2 gF2 g2 l2 S2 k2 => hh.run n2 ev gF2 g2 S2 _ (bkg k2) _ fun j n3 gF3 g3 l3 S3 k3 => by
    obtain ⟨q, ds, rfl, hq, hl'⟩ := r1.list
    refine ⟨ds, S3.lg _ _ (l3.lF _ _ (l2.lF _ _ hq)), fun p hp => hQ _ n3 _ gF3 _ (Ext.trans0 (Ext.trans0 l1 (Ext.trans0 l2 l3)) (Ext.putg S3.lg S3.nn hp.1)) ((S3.new1 hp.1 ?_).mono (Ext.trans0 l1 (Ext.trans0 l2 l3)).no) (pkg k3)⟩
    rw [← cutG_map]
    exact PXL.leo (Ext.trans0 l2 l3).lF _ (cut_pf hl')⟩

/-! ### + and * of tuples, lists -/
def oCat {α : Type} (l m : List α) : Option (List α) := if l.length + m.length ≤ 1000000 then some (l ++ m) else none
theorem oCat_some {l m r : List α} (h : oCat l m = some r) : r = l ++ m ∧ l.length + m.length ≤ 1000000 := by
  unfold oCat at h
  split at h <;> cases h
  exact ⟨rfl, ‹_›⟩
theorem me_catT {oa ob : Mk κ (List α)} (ha : ME κ 𝒴 C a (eT ea) oa) (hb : ME κ 𝒴 C b (eT ea) ob) : ME κ 𝒴 C (.BinOp a .Add b pos) (eT ea) (bk κ oa fun x => bk κ ob fun y => lk κ (oCat x y)) :=
  ME.mk (fun i => q_op d_add (BE.q i) (BE.q i)) (re_two ha hb fun x y z ez n ev gF g d1 d2 S r1 r2 Q hQ => by
    obtain ⟨rfl, hz⟩ := oCat_some ez
    obtain ⟨ds, rfl, l1⟩ := PF.tuple r1
    obtain ⟨es, rfl, l2⟩ := PF.tuple r2
    have e1 := l1.length
    have e2 := l2.length
    rw [List.length_map] at e1 e2
    refine ⟨by rw [e1, e2]; exact small hz, hQ _ gF g (Ext.refl S.lg S.nn) S (.tup ?_)⟩
    rw [List.map_append]
    exact l1.append l2)
theorem mn_cat {oa ob : Mk κ (List α)} (ha : ME κ 𝒴 C a (eL ea) oa) (hb : ME κ 𝒴 C b (eL ea) ob) : MN κ 𝒴 C (.BinOp a .Add b pos) (vL ea) (bk κ oa fun x => bk κ ob fun y => lk κ (oCat x y)) :=
  MN.mk (fun i => q_op d_add (BE.q i) (BE.q i)) ⟨fun n ev gF g S K hK Q hQ => ha.run n ev gF g S _ hK.bind _ fun x n1 d1 gF1 g1 l1 S1 r1 k1 => hb.run n1 ev gF1 g1 S1 _ (bkg k1) _ fun y n2 d2 gF2 g2 l2 S2 r2 k2 => by
    obtain ⟨z, ez, kz⟩ := lkg k2
    obtain ⟨rfl, hz⟩ := oCat_some ez
    obtain ⟨p, ds, rfl, hp, m1⟩ := (oLe l2.lF r1).list
    obtain ⟨q, es, rfl, hq, m2⟩ := r2.list
    have e1 := m1.length
    have e2 := m2.length
    rw [List.length_map] at e1 e2
    exact ⟨ds, es, S2.lg _ _ hp, S2.lg _ _ hq, by rw [e1, e2]; exact small hz, fun p hp => hQ _ n2 _ gF2 _ (Ext.trans0 (Ext.trans0 l1 l2) (Ext.putg S2.lg S2.nn hp.1)) ((S2.new1 hp.1 (by rw [List.map_append]; exact m1.append m2)).mono (Ext.trans0 l1 l2).no) kz⟩⟩
def oRep {α : Type} (l : List α) (k : Int) : Option (List α) := if -(2 ^ 63) ≤ k ∧ k ≤ 1000 ∧ l.length ≤ 1000 then some (List.replicate k.toNat l).flatten else none
theorem oRep_some {l r : List α} {k : Int} (h : oRep l k = some r) : r = (List.replicate k.toNat l).flatten ∧ -(2 ^ 63) ≤ k ∧ k ≤ 1000 ∧ l.length ≤ 1000 := by
  unfold oRep at h
  split at h <;> cases h
  exact ⟨rfl, ‹_›⟩
theorem rep_map (f : α → β) (l : List α) : ∀ n : Nat, (List.replicate n l).flatten.map f = (List.replicate n (l.map f)).flatten
  | 0 => rfl
  | n + 1 => by rw [List.replicate_succ, List.replicate_succ, List.flatten_cons, List.flatten_cons, List.map_append, rep_map f l n]
theorem me_repT {oa : Mk κ (List α)} (ha : ME κ 𝒴 C a (eT ea) oa) (hb : ME κ 𝒴 C b eI oi) : ME κ 𝒴 C (.BinOp a .Mult b pos) (eT ea) (bk κ oa fun x => bk κ oi fun y => lk κ (oRep x y)) :=
  ME.mk (fun i => q_op d_mul (BE.q i) (BE.q i)) (re_two ha hb fun x y z ez n ev gF g d1 d2 S r1 r2 Q hQ => by
    obtain ⟨rfl, h1, h2, h3⟩ := oRep_some ez
    obtain ⟨ds, rfl, l1⟩ := PF.tuple r1
    cases r2
    have e1 := l1.length
    rw [List.length_map] at e1
    refine ⟨h1, h2, by rw [e1]; exact h3, hQ _ gF g (Ext.refl S.lg S.nn) S (.tup ?_)⟩
    rw [rep_map]
    exact l1.rep _)
theorem mn_rep {oa : Mk κ (List α)} (ha : ME κ 𝒴 C a (eL ea) oa) (hb : ME κ 𝒴 C b eI oi) : MN κ 𝒴 C (.BinOp a .Mult b pos) (vL ea) (bk κ oa fun x => bk κ oi fun y => lk κ (oRep x y)) :=
  MN.mk (fun i => q_op d_mul (BE.q i) (BE.q i)) ⟨fun n ev gF g S K hK Q hQ => ha.run n ev gF g S _ hK.bind _ fun x n1 d1 gF1 g1 l1 S1 r1 k1 => hb.run n1 ev gF1 g1 S1 _ (bkg k1) _ fun y n2 d2 gF2 g2 l2 S2 r2 k2 => by
    obtain ⟨z, ez, kz⟩ := lkg k2
    obtain ⟨rfl, h1, h2, h3⟩ := oRep_some ez
    obtain ⟨p, ds, rfl, hp, m1⟩ := (oLe l2.lF r1).list
    cases r2
    have e1 := m1.length
    rw [List.length_map] at e1
    have hb : ds.length * y.toNat ≤ 1000 * 1000 := Nat.mul_le_mul (by omega) (by omega)
    exact ⟨ds, S2.lg _ _ hp, h1, by omega, Nat.le_trans hb (by decide), fun p hp => hQ _ n2 _ gF2 _ (Ext.trans0 (Ext.trans0 l1 l2) (Ext.putg S2.lg S2.nn hp.1)) ((S2.new1 hp.1 (by rw [rep_map]; exact m1.rep _)).mono (Ext.trans0 l1 l2).no) kz⟩⟩

/-! ### built-in calls -/
theorem re_call {rd : RDL} {f : τ → Option γ} (h : RA κ C tl er ol) (hf : ∀ v z, f v = some z → ∀ n ev gF g ds, Sx C n ev gF g → PFL gF ds (er v) → ∀ Q : DK, (∀ d gF' g', Ext [] gF g gF' g' n → Sx C n ev gF' g' → PF gF' d (ec z) → Q d g') → rd ds g Q) :
    RE κ C (uCall rd tl) ec (bk κ ol fun v => lk κ (f v)) := ⟨fun n ev gF g S K hK Q hQ => h.run n ev gF g S _ hK.bind _ fun v n1 ds gF1 g1 l1 S1 r1 k1 => by
    obtain ⟨z, ez, kz⟩ := lkg k1
    exact hf v z ez n1 ev gF1 g1 ds S1 r1 Q fun d gF2 g2 l2 S2 r2 => hQ z n1 d gF2 g2 (Ext.trans0 l1 l2) S2 r2 kz⟩
theorem me_callB {id : String} {rd : RDL} {o : Mk κ γ} (hc : ∀ i, CallD (𝒴 i) (.builtin id) rd) (hm : ∀ i, (𝒴 i).X.mg x = none) (hv : bootBuiltins x = some (.builtin id) := by rfl) (h : RE κ C (uCall rd (BA 𝒴 (e :: es))) ec o) (hg : ∀ i, Gl (𝒴 i).X x := by exact fun _ => rfl) (hn : x ≠ "__name__" := by decide) (hdb : (x == ("__debug__" : Str)) = false := by decide)
    (he : ∀ i, starEach (e :: es) (𝒴 i).X.env = (false, eval e (𝒴 i).X.env) :: starEach es (𝒴 i).X.env := by exact fun _ => rfl) (hpl : ∀ i, (backTo pos (starEach es (𝒴 i).X.env)).any (·.1) = false := by exact fun _ => rfl) : ME κ 𝒴 C (.Call (.Name x p1) (e :: es) [] pos) ec o :=
  ME.mk (fun i => q_callB (hc i) (hg i) (hm i) hv (BA.q i) hn hdb (he i) (hpl i)) h
theorem me_callTy {T : String} {rd : RDL} {o : Mk κ γ} (hc : ∀ i, CallD (𝒴 i) (.type T) rd) (hm : ∀ i, (𝒴 i).X.mg x = none) (hv : bootBuiltins x = some (.type T) := by rfl) (h : RE κ C (uCall rd (BA 𝒴 (e :: es))) ec o) (hg : ∀ i, Gl (𝒴 i).X x := by exact fun _ => rfl) (hn : x ≠ "__name__" := by decide) (hdb : (x == ("__debug__" : Str)) = false := by decide)
    (he : ∀ i, starEach (e :: es) (𝒴 i).X.env = (false, eval e (𝒴 i).X.env) :: starEach es (𝒴 i).X.env := by exact fun _ => rfl) (hpl : ∀ i, (backTo pos (starEach es (𝒴 i).X.env)).any (·.1) = false := by exact fun _ => rfl) : ME κ 𝒴 C (.Call (.Name x p1) (e :: es) [] pos) ec o :=
  ME.mk (fun i => q_callTy (hc i) (hg i) (hm i) hv (BA.q i) hn hdb (he i) (hpl i)) h
/-- len -/
theorem me_lenG {pa : α → List PyData} {f : α → Option Int} (hf : ∀ x z, f x = some z → (ea x = .tuple (pa x) ∨ ea x = .list (pa x)) ∧ z = ((pa x).length : Nat)) (hm : ∀ i, (𝒴 i).X.mg "len" = none) (ha : ME κ 𝒴 C a ea oa) (hs : ∀ i, starEach [a] (𝒴 i).X.env = (false, eval a (𝒴 i).X.env) :: starEach [] (𝒴 i).X.env := by exact fun _ => rfl) (hgX : ∀ i, Gl (𝒴 i).X "len" := by exact fun _ => rfl) :
    ME κ 𝒴 C (.Call (.Name "len" p1) [a] [] pos) eI (bk κ oa fun x => lk κ (f x)) :=
  me_callB (fun i => c_len) hm rfl (re_call (er := fun v => [ea v]) (ma_one ha hs) fun v z ez n ev gF g ds S r Q hQ => by
    obtain ⟨h1, rfl⟩ := hf v z ez
    cases r with
    | cons r1 r2 =>
      cases r2
      obtain ⟨ds, hi, hl⟩ := items_pf r1 h1
      exact ⟨ds, items_keep S.lg hi, by rw [hl.length]; exact hQ _ gF g (Ext.refl S.lg S.nn) S (.int _)⟩) hgX (by decide) (by decide) hs (fun _ => rfl)
theorem me_len {es' : List α → PyData} {oa : Mk κ (List α)} (hq : Sq' es' (fun l => l.map ea)) (hm : ∀ i, (𝒴 i).X.mg "len" = none) (ha : ME κ 𝒴 C a es' oa) (hs : ∀ i, starEach [a] (𝒴 i).X.env = (false, eval a (𝒴 i).X.env) :: starEach [] (𝒴 i).X.env := by exact fun _ => rfl) (hgX : ∀ i, Gl (𝒴 i).X "len" := by exact fun _ => rfl) :
    ME κ 𝒴 C (.Call (.Name "len" p1) [a] [] pos) eI (bk κ oa fun x => pk κ (x.length : Int)) :=
  me_lenG (pa := fun l => l.map ea) (f := fun l => some (l.length : Int)) (fun x z h => by cases h; exact ⟨hq x, by rw [List.length_map]⟩) hm ha hs hgX
theorem me_lenA {oa : Mk κ PyData} (hm : ∀ i, (𝒴 i).X.mg "len" = none) (ha : ME κ 𝒴 C a eA oa) (hs : ∀ i, starEach [a] (𝒴 i).X.env = (false, eval a (𝒴 i).X.env) :: starEach [] (𝒴 i).X.env := by exact fun _ => rfl) (hgX : ∀ i, Gl (𝒴 i).X "len" := by exact fun _ => rfl) :
    ME κ 𝒴 C (.Call (.Name "len" p1) [a] [] pos) eI (bk κ oa fun x => lk κ (pLen x)) :=
  me_lenG (pa := fun p => (pItems p).getD []) (f := pLen) (fun x z h => by
    unfold pLen at h
    cases q : pItems x with
    | none => rw [q] at h; cases h
    | some ps => rw [q] at h; cases h; exact ⟨pItems_sq q, rfl⟩) hm ha hs hgX
/-- all, any, sum, max of a list -/
theorem re_list1 {rl : RL1} {oa : Mk κ (List α)} {f : List α → Option γ} (ha : RA κ C tl (fun v => [eL ea v]) oa) (hf : ∀ l z, f l = some z → ∀ gF ds, PFL gF ds (l.map ea) → ∀ Q : D → Prop, (∀ d, (∀ gF, PF gF d (ec z)) → Q d) → rl ds Q) : RE κ C (uCall (dL1 rl) tl) ec (bk κ oa fun l => lk κ (f l)) :=
  re_call ha fun v z ez n ev gF g ds S r Q hQ => by
    cases r with
    | cons r1 r2 =>
      cases r2
      obtain ⟨p, ds, rfl, hp, hl⟩ := PX.list r1
      exact ⟨ds, ⟨p, rfl, S.lg _ _ hp⟩, hf v z ez gF ds hl _ fun d hd => hQ d gF g (Ext.refl S.lg S.nn) S (hd gF)⟩
theorem bools_pf {g : G} : ∀ {bs : List Bool} {ds : List D}, PFL g ds (bs.map eB) → ds = bs.map fun b => D.v (.bl b)
  | [], _, h => by cases h; rfl
  | b :: bs, _, h => by
    cases h with
    | cons h1 h2 => rw [bools_pf h2, PX.bool_ h1]; rfl
theorem ints_pf {g : G} : ∀ {bs : List Int} {ds : List D}, PFL g ds (bs.map eI) → ds = bs.map fun b => D.v (.int b)
  | [], _, h => by cases h; rfl
  | b :: bs, _, h => by
    cases h with
    | cons h1 h2 => rw [ints_pf h2, PX.int_ h1]; rfl
theorem me_all {oa : Mk κ (List Bool)} (hm : ∀ i, (𝒴 i).X.mg "all" = none) (ha : ME κ 𝒴 C a (eL eB) oa) (hc : ∀ i, (𝒴 i).X.calm = true := by exact fun _ => rfl) (hs : ∀ i, starEach [a] (𝒴 i).X.env = (false, eval a (𝒴 i).X.env) :: starEach [] (𝒴 i).X.env := by exact fun _ => rfl) (hgX : ∀ i, Gl (𝒴 i).X "all" := by exact fun _ => rfl) :
    ME κ 𝒴 C (.Call (.Name "all" p1) [a] [] pos) eB (bk κ oa fun l => pk κ (l.all id)) :=
  me_callB (fun i => c_all (hc i)) hm rfl (re_list1 (f := fun l => some (l.all id)) (ma_one ha hs) fun l z ez gF ds r Q hQ => by
    cases ez
    rw [bools_pf r]
    exact ⟨l, rfl, hQ _ fun _ => .bl _⟩) hgX (by decide) (by decide) hs (fun _ => rfl)
theorem me_anyB {oa : Mk κ (List Bool)} (hm : ∀ i, (𝒴 i).X.mg "any" = none) (ha : ME κ 𝒴 C a (eL eB) oa) (hc : ∀ i, (𝒴 i).X.calm = true := by exact fun _ => rfl) (hs : ∀ i, starEach [a] (𝒴 i).X.env = (false, eval a (𝒴 i).X.env) :: starEach [] (𝒴 i).X.env := by exact fun _ => rfl) (hgX : ∀ i, Gl (𝒴 i).X "any" := by exact fun _ => rfl) :
    ME κ 𝒴 C (.Call (.Name "any" p1) [a] [] pos) eB (bk κ oa fun l => pk κ (l.any id)) :=
  me_callB (fun i => c_any (hc i)) hm rfl (re_list1 (f := fun l => some (l.any id)) (ma_one ha hs) fun l z ez gF ds r Q hQ => by
    cases ez
    rw [bools_pf r]
    exact ⟨l, rfl, hQ _ fun _ => .bl _⟩) hgX (by decide) (by decide) hs (fun _ => rfl)
theorem me_sum {oa : Mk κ (List Int)} (hm : ∀ i, (𝒴 i).X.mg "sum" = none) (ha : ME κ 𝒴 C a (eL eI) oa) (hc : ∀ i, (𝒴 i).X.calm = true := by exact fun _ => rfl) (hs : ∀ i, starEach [a] (𝒴 i).X.env = (false, eval a (𝒴 i).X.env) :: starEach [] (𝒴 i).X.env := by exact fun _ => rfl) (hgX : ∀ i, Gl (𝒴 i).X "sum" := by exact fun _ => rfl) :
    ME κ 𝒴 C (.Call (.Name "sum" p1) [a] [] pos) eI (bk κ oa fun l => pk κ l.sum) :=
  me_callB (fun i => c_sum (hc i)) hm rfl (re_list1 (f := fun l => some l.sum) (ma_one ha hs) fun l z ez gF ds r Q hQ => by
    cases ez
    rw [ints_pf r]
    exact ⟨l, rfl, hQ _ fun _ => .int _⟩) hgX (by decide) (by decide) hs (fun _ => rfl)
def oMax : List Int → Option Int
  | [] => none
  | x :: l => some (l.foldl max x)
theorem foldl_max_le : ∀ (l : List Int) (x : Int), x ≤ l.foldl max x ∧ (∀ y ∈ l, y ≤ l.foldl max x) ∧ (l.foldl max x = x ∨ l.foldl max x ∈ l)
  | [], x => ⟨Int.le_refl _, (fun y h => by cases h), .inl rfl⟩
  | y :: l, x => by
    obtain ⟨h1, h2, h3⟩ := foldl_max_le l (max x y)
    simp only [List.foldl_cons]
    refine ⟨by omega, fun z hz => ?_, ?_⟩
    · rcases List.mem_cons.mp hz with e | e
      · subst e; omega
      · exact h2 z e
    · rcases h3 with e | e
      · rcases (show max x y = x ∨ max x y = y by omega) with q | q
        · exact .inl (e.trans q)
        · exact .inr (by rw [e, q]; simp)
      · exact .inr (by simp [e])
theorem oMax_eq {l : List Int} {m z : Int} (h : oMax l = some z) (h1 : m ∈ l) (h2 : ∀ y ∈ l, y ≤ m) : m = z := by
  cases l with
  | nil => cases h
  | cons x l =>
    cases h
    obtain ⟨a, b, c⟩ := foldl_max_le l x
    have u : m ≤ l.foldl max x := by
      rcases List.mem_cons.mp h1 with e | e
      · omega
      · exact b m e
    have v : l.foldl max x ≤ m := by
      rcases c with e | e
      · rw [e]; exact h2 x (by simp)
      · exact h2 _ (by simp [e])
    omega
theorem me_max {oa : Mk κ (List Int)} (hm : ∀ i, (𝒴 i).X.mg "max" = none) (ha : ME κ 𝒴 C a (eL eI) oa) (hc : ∀ i, (𝒴 i).X.calm = true := by exact fun _ => rfl) (hs : ∀ i, starEach [a] (𝒴 i).X.env = (false, eval a (𝒴 i).X.env) :: starEach [] (𝒴 i).X.env := by exact fun _ => rfl) (hgX : ∀ i, Gl (𝒴 i).X "max" := by exact fun _ => rfl) :
    ME κ 𝒴 C (.Call (.Name "max" p1) [a] [] pos) eI (bk κ oa fun l => lk κ (oMax l)) :=
  me_callB (fun i => c_max (hc i)) hm rfl (re_list1 (f := oMax) (ma_one ha hs) fun l z ez gF ds r Q hQ => by
    rw [ints_pf r]
    refine ⟨l, rfl, (fun e => by subst e; cases ez), fun m h1 h2 => ?_⟩
    rw [oMax_eq ez h1 h2]
    exact hQ _ fun _ => .int _) hgX (by decide) (by decide) hs (fun _ => rfl)
/-- tuple(x), list(x), int(x) -/
theorem me_tupleG {pa : α → List PyData} {f : α → Option γ} (hf : ∀ x z, f x = some z → (ea x = .tuple (pa x) ∨ ea x = .list (pa x)) ∧ ec z = .tuple (pa x)) (hm : ∀ i, (𝒴 i).X.mg "tuple" = none) (ha : ME κ 𝒴 C a ea oa) (hs : ∀ i, starEach [a] (𝒴 i).X.env = (false, eval a (𝒴 i).X.env) :: starEach [] (𝒴 i).X.env := by exact fun _ => rfl) (hgX : ∀ i, Gl (𝒴 i).X "tuple" := by exact fun _ => rfl) :
    ME κ 𝒴 C (.Call (.Name "tuple" p1) [a] [] pos) ec (bk κ oa fun x => lk κ (f x)) :=
  me_callTy (fun i => c_tup) hm rfl (re_call (er := fun v => [ea v]) (ma_one ha hs) fun v z ez n ev gF g ds S r Q hQ => by
    obtain ⟨h1, h2⟩ := hf v z ez
    cases r with
    | cons r1 r2 =>
      cases r2
      rcases h1 with e | e
      · rw [e] at r1
        obtain ⟨ds, rfl, hl⟩ := PF.tuple r1
        exact hQ _ gF g (Ext.refl S.lg S.nn) S (by rw [h2]; exact .tup hl)
      · rw [e] at r1
        obtain ⟨q, ds, rfl, hq, hl⟩ := r1.list
        exact ⟨ds, S.lg _ _ hq, hQ _ gF g (Ext.refl S.lg S.nn) S (by rw [h2]; exact .tup hl)⟩) hgX (by decide) (by decide) hs (fun _ => rfl)
theorem me_tuple {es' : List α → PyData} {oa : Mk κ (List α)} (hq : Sq' es' (fun l => l.map ea)) (hm : ∀ i, (𝒴 i).X.mg "tuple" = none) (ha : ME κ 𝒴 C a es' oa) (hs : ∀ i, starEach [a] (𝒴 i).X.env = (false, eval a (𝒴 i).X.env) :: starEach [] (𝒴 i).X.env := by exact fun _ => rfl) (hgX : ∀ i, Gl (𝒴 i).X "tuple" := by exact fun _ => rfl) :
    ME κ 𝒴 C (.Call (.Name "tuple" p1) [a] [] pos) (eT ea) (bk κ oa fun l => pk κ l) := me_tupleG (pa := fun l => l.map ea) (f := some) (fun x z h => by cases h; exact ⟨hq x, rfl⟩) hm ha hs hgX
theorem mf_listG {pa : α → List PyData} {f : α → Option τ} (hf : ∀ x z, f x = some z → (ea x = .tuple (pa x) ∨ ea x = .list (pa x)) ∧ er z = pa x) (hm : ∀ i, (𝒴 i).X.mg "list" = none) (ha : ME κ 𝒴 C a ea oa) (hs : ∀ i, starEach [a] (𝒴 i).X.env = (false, eval a (𝒴 i).X.env) :: starEach [] (𝒴 i).X.env := by exact fun _ => rfl) (hgX : ∀ i, Gl (𝒴 i).X "list" := by exact fun _ => rfl) :
    MF κ 𝒴 C (.Call (.Name "list" p1) [a] [] pos) er (bk κ oa fun x => lk κ (f x)) :=
  MF.mk (fun i => q_list (hgX i) (hm i) rfl (BE.q i) (by decide) (by decide) (hs i) rfl) ⟨fun n ev gF g S K hK Q hQ => ha.run n ev gF g S _ hK.bind _ fun x n1 d gF1 g1 l1 S1 r1 k1 => by
    obtain ⟨z, ez, kz⟩ := lkg k1
    obtain ⟨h1, h2⟩ := hf x z ez
    obtain ⟨ds, hi, hl⟩ := items_pf r1 h1
    exact ⟨ds, items_keep S1.lg hi, hQ z n1 ds gF1 g1 l1 S1 (by rw [h2]; exact hl) kz⟩⟩
theorem mf_list {es' : List α → PyData} {oa : Mk κ (List α)} (hq : Sq' es' (fun l => l.map ea)) (hm : ∀ i, (𝒴 i).X.mg "list" = none) (ha : ME κ 𝒴 C a es' oa) (hs : ∀ i, starEach [a] (𝒴 i).X.env = (false, eval a (𝒴 i).X.env) :: starEach [] (𝒴 i).X.env := by exact fun _ => rfl) (hgX : ∀ i, Gl (𝒴 i).X "list" := by exact fun _ => rfl) :
    MF κ 𝒴 C (.Call (.Name "list" p1) [a] [] pos) (fun l => l.map ea) (bk κ oa fun l => pk κ l) := mf_listG (er := fun l => l.map ea) (pa := fun l => l.map ea) (f := some) (fun x z h => by cases h; exact ⟨hq x, rfl⟩) hm ha hs hgX
theorem mf_listA {oa : Mk κ PyData} (hm : ∀ i, (𝒴 i).X.mg "list" = none) (ha : ME κ 𝒴 C a eA oa) (hs : ∀ i, starEach [a] (𝒴 i).X.env = (false, eval a (𝒴 i).X.env) :: starEach [] (𝒴 i).X.env := by exact fun _ => rfl) (hgX : ∀ i, Gl (𝒴 i).X "list" := by exact fun _ => rfl) :
    MF κ 𝒴 C (.Call (.Name "list" p1) [a] [] pos) (fun l => l.map eA) (bk κ oa fun l => lk κ (pItems l)) := mf_listG (er := fun l => l.map eA) (pa := fun p => (pItems p).getD []) (f := pItems) (fun x z h => ⟨by rw [h]; exact pItems_sq h, by rw [h]; simp [eA]⟩) hm ha hs hgX
theorem me_intI (hm : ∀ i, (𝒴 i).X.mg "int" = none) (ha : ME κ 𝒴 C a eI oi) (hs : ∀ i, starEach [a] (𝒴 i).X.env = (false, eval a (𝒴 i).X.env) :: starEach [] (𝒴 i).X.env := by exact fun _ => rfl) (hgX : ∀ i, Gl (𝒴 i).X "int" := by exact fun _ => rfl) : ME κ 𝒴 C (.Call (.Name "int" p1) [a] [] pos) eI (bk κ oi fun x => pk κ x) :=
  me_callTy (fun i => c_int) hm rfl (re_call (er := fun v => [eI v]) (f := some) (ma_one ha hs) fun v z ez n ev gF g ds S r Q hQ => by
    cases ez
    cases r with
    | cons r1 r2 => cases r2; cases r1; exact hQ _ gF g (Ext.refl S.lg S.nn) S (.int _)) hgX (by decide) (by decide) hs (fun _ => rfl)
theorem me_intB {o1 : Mk κ Bool} (hm : ∀ i, (𝒴 i).X.mg "int" = none) (ha : ME κ 𝒴 C a eB o1) (hs : ∀ i, starEach [a] (𝒴 i).X.env = (false, eval a (𝒴 i).X.env) :: starEach [] (𝒴 i).X.env := by exact fun _ => rfl) (hgX : ∀ i, Gl (𝒴 i).X "int" := by exact fun _ => rfl) : ME κ 𝒴 C (.Call (.Name "int" p1) [a] [] pos) eI (bk κ o1 fun x => pk κ (if x = true then 1 else 0)) :=
  me_callTy (fun i => c_int) hm rfl (re_call (er := fun v => [eB v]) (f := fun x : Bool => some (if x = true then (1 : Int) else 0)) (ma_one ha hs) fun v z ez n ev gF g ds S r Q hQ => by
    cases ez
    cases r with
    | cons r1 r2 => cases r2; cases r1; exact hQ _ gF g (Ext.refl S.lg S.nn) S (.int _)) hgX (by decide) (by decide) hs (fun _ => rfl)
/-- isinstance(x, T) -/
def isP (T : String) (p : PyData) : Bool := isiT (tyP p) T
theorem me_isi (T : String) {y : Str} (hm : ∀ i, (𝒴 i).X.mg "isinstance" = none) (hm2 : ∀ i, (𝒴 i).X.mg y = none) (ha : ME κ 𝒴 C a ea oa) (hT : T ∈ ["tuple", "bool", "int", "str", "list", "dict"] := by decide) (hy : bootBuiltins y = some (.type T) := by rfl) (hs : ∀ i, starEach [a, .Name y p2] (𝒴 i).X.env = (false, eval a (𝒴 i).X.env) :: starEach [.Name y p2] (𝒴 i).X.env := by exact fun _ => rfl) (hg2 : ∀ i, Gl (𝒴 i).X y := by exact fun _ => rfl) (hn : y ≠ "__name__" := by decide) (hdb : (y == ("__debug__" : Str)) = false := by decide) (hgX : ∀ i, Gl (𝒴 i).X "isinstance" := by exact fun _ => rfl) : ME κ 𝒴 C (.Call (.Name "isinstance" p1) [a, .Name y p2] [] pos) eB (bk κ oa fun x => pk κ (isP T (ea x))) :=
  ME.mk (fun i => q_callB c_isi (hgX i) (hm i) rfl (qa_cons (BE.q i) (qa_cons (q_bltn (v := .ty T) (hg2 i) (hm2 i) hy rfl hn hdb) qa_nil) (hs i)) (by decide) (by decide) (hs i) rfl) ⟨fun n ev gF g S K hK Q hQ => ha.run n ev gF g S _ hK.bind _ fun x n1 d gF1 g1 l1 S1 r1 k1 =>
    ⟨tyP (ea x), tyD_px _ (oLe S1.lg r1), hT, hQ _ n1 _ gF1 g1 l1 S1 (.bl _) (pkg k1)⟩⟩
/-- repr(x) -/
def isRefP : PyData → Bool
  | .tuple _ => true
  | .list _ => true
  | _ => false
def oRepr (p : PyData) : Option Str := if isRefP p = true ∧ p.showable = true ∧ p.hasDict = false ∧ p.depth ≤ 60 ∧ p.shown.length ≤ sizeLine then some p.shown else none
theorem me_repr (hG : ∀ i, (𝒴 i).X.A.guards = some []) (hu : ∀ i, (𝒴 i).X.A.units + 64 < cLine) (hm : ∀ i, (𝒴 i).X.mg "repr" = none) (ha : ME κ 𝒴 C a ea oa) (hs : ∀ i, starEach [a] (𝒴 i).X.env = (false, eval a (𝒴 i).X.env) :: starEach [] (𝒴 i).X.env := by exact fun _ => rfl) (hgX : ∀ i, Gl (𝒴 i).X "repr" := by exact fun _ => rfl) :
    ME κ 𝒴 C (.Call (.Name "repr" p1) [a] [] pos) eS (bk κ oa fun x => lk κ (oRepr (ea x))) :=
  me_callB (fun i => c_repr (hG i) (hu i)) hm rfl (re_call (er := fun v => [ea v]) (f := fun x => oRepr (ea x)) (ma_one ha hs) fun v z ez n ev gF g ds S r Q hQ => by
    unfold oRepr at ez
    split at ez <;> cases ez
    rename_i c
    obtain ⟨c0, c1, c2, c3, c4⟩ := c
    cases r with
    | cons r1 r2 =>
      cases r2
      refine ⟨_, ea v, rfl, PX.up _ (oLe S.lg r1), ?_, c1, c2, c3, c4, hQ _ gF g (Ext.refl S.lg S.nn) S (.str _)⟩
      generalize ea v = p at c0 r1
      cases r1 <;> first | rfl | cases c0) hgX (by decide) (by decide) hs (fun _ => rfl)
end
end SK
end
section
set_option maxHeartbeats 4000000
namespace SK
open PySem PySem.Spec PyProof.Rows L2

/-! ### what is walked -/
/-- an item: data, or a pair made by enumerate, zip -/
def PK (k : Bool) (g : G) (d : D) (p : PyData) : Prop := PF g d p ∨ (k = true ∧ ∃ ds ps, d = .k ds ∧ p = .tuple ps ∧ PFL g ds ps)
theorem PK.leo {k : Bool} {g g' : G} (l : Keeps g g') {d : D} {p : PyData} (h : PK k g d p) : PK k g' d p := by
  rcases h with h | ⟨e, ds, ps, h1, h2, h3⟩
  · exact .inl (PX.leo l _ h)
  · exact .inr ⟨e, ds, ps, h1, h2, PXL.leo l _ h3⟩
structure RI (κ : Bool) (C : Ct) (t : TI') (k : Bool) {α : Type} (enc : α → PyData) (o : Mk κ (List α)) : Prop where
  run : ∀ n ev gF g, Sx C n ev gF g → ∀ K, Good κ n o K → ∀ Q : Src → G → Prop, (∀ (l : List α) n' S gF' g', Ext [] gF g gF' g' n' → Sx C n' ev gF' g' → All2 (fun d x => PK k gF' d (enc x)) S.ds l → (∀ g2, Keeps gF' g2 → S.ok g2) → l.length ≤ sizeLine → (∀ p, p.n = n' → K l p) → Q S g') → t ev g Q
abbrev MI {ι : Type} (κ : Bool) (𝒴 : ι → Yx) (C : Ct) (tg e : Expr) (k : Bool) {α : Type} (enc : α → PyData) (o : Mk κ (List α)) : Prop := RI κ C (BI 𝒴 tg e) k enc o
theorem pfl_all2 {g : G} {α : Type} (f : α → PyData) : ∀ {ds : List D} {l : List α}, PFL g ds (l.map f) → All2 (fun d x => PK false g d (f x)) ds l
  | _, [], h => by cases h; exact .nil
  | _, a :: l, h => by
    cases h with
    | cons h1 h2 => exact .cons (.inl h1) (pfl_all2 f h2)
/-- items with their numbers -/
def enumL {α : Type} : Nat → List α → List (Int × α)
  | _, [] => []
  | i, a :: l => ((i : Int), a) :: enumL (i + 1) l
theorem enumL_len {α : Type} : ∀ (i : Nat) (l : List α), (enumL i l).length = l.length
  | _, [] => rfl
  | i, a :: l => by simp [enumL, enumL_len (i + 1) l]
theorem enum_all2 {g : G} {α : Type} (f : α → PyData) : ∀ (i : Nat) {ds : List D} {l : List α}, PFL g ds (l.map f) → All2 (fun d x => PK true g d (eP2 eI f x)) (enumF i ds) (enumL i l)
  | i, _, [], h => by cases h; exact .nil
  | i, _, a :: l, h => by
    cases h with
    | cons h1 h2 => exact .cons (.inr ⟨rfl, _, _, rfl, rfl, .cons (.int _) (.cons h1 .nil)⟩) (enum_all2 f (i + 1) h2)
theorem zip_all2 {g : G} {α β : Type} (f : α → PyData) (h : β → PyData) : ∀ {ds es : List D} {l : List α} {m : List β}, PFL g ds (l.map f) → PFL g es (m.map h) → All2 (fun d x => PK true g d (eP2 f h x)) (zipD ds es) (l.zip m)
  | _, _, [], _, h1, _ => by cases h1; simp [zipD]; exact .nil
  | _, _, a :: l, [], h1, h2 => by cases h1; cases h2; simp [zipD]; exact .nil
  | _, _, a :: l, b :: m, h1, h2 => by
    cases h1 with
    | cons a1 a2 =>
      cases h2 with
      | cons b1 b2 => exact .cons (.inr ⟨rfl, _, _, rfl, rfl, .cons a1 (.cons b1 .nil)⟩) (zip_all2 f h a2 b2)
def rngL (lo hi : Int) : List Int := (List.range (hi - lo).toNat).map fun i => lo + (i : Nat)
theorem rng_all2 {g : G} (lo : Int) (n : Nat) : All2 (fun d x => PK false g d (eI x)) (rng lo n) ((List.range n).map fun i => lo + (i : Nat)) := by
  unfold rng
  generalize List.range n = l
  induction l with
  | nil => exact .nil
  | cons a l ih => exact .cons (.inl (.int _)) ih
def oRng (lo hi : Int) : Option (List Int) := if -(2 ^ 62) ≤ lo ∧ hi < 2 ^ 62 ∧ hi - lo ≤ 1000000 ∧ -(2 ^ 62) ≤ hi ∧ lo < 2 ^ 62 then some (rngL lo hi) else none
section
variable {ι : Type} {𝒴 : ι → Yx} {κ : Bool} {C : Ct} {e a b c tg : Expr} {es : List Expr} {α β γ δ τ : Type} {ea : α → PyData} {eb : β → PyData} {ec : γ → PyData} {pos p1 p2 tpos : Pos} {oa : Mk κ α} {ob : Mk κ β} {kk : Nat}
theorem mi_G {pa : α → List PyData} {f : α → Option (List γ)} (hf : ∀ x z, f x = some z → (ea x = .tuple (pa x) ∨ ea x = .list (pa x)) ∧ pa x = z.map ec) (h : ME κ 𝒴 C e ea oa) : MI κ 𝒴 C tg e false ec (bk κ oa fun x => lk κ (f x)) := ⟨fun n ev gF g S K hK Q hQ =>
  ⟨_, fun i => qi_seqZ (BE.q i), h.run n ev gF g S _ hK.bind _ fun x n1 d gF1 g1 l1 S1 r1 k1 => by
    obtain ⟨z, ez, kz⟩ := lkg k1
    obtain ⟨h1, h2⟩ := hf x z ez
    obtain ⟨ds, hi, hl⟩ := items_pf r1 h1
    rw [h2] at hl
    exact ⟨ds, items_keep S1.lg hi, fun hz => hQ z n1 ⟨ds, _⟩ gF1 g1 l1 S1 (pfl_all2 ec hl) (fun g2 k2 => items_keep k2 hi) (by rw [← List.length_map (f := ec), ← hl.length]; exact hz) kz⟩⟩⟩
theorem mi_seq {es' : List α → PyData} {oa : Mk κ (List α)} (hq : Sq' es' (fun l => l.map ea)) (h : ME κ 𝒴 C e es' oa) : MI κ 𝒴 C tg e false ea (bk κ oa fun x => pk κ x) := mi_G (pa := fun l => l.map ea) (f := some) (fun x z h => by cases h; exact ⟨hq x, rfl⟩) h
theorem mi_any {oa : Mk κ PyData} (h : ME κ 𝒴 C e eA oa) : MI κ 𝒴 C tg e false eA (bk κ oa fun x => lk κ (pItems x)) := mi_G (pa := fun p => (pItems p).getD []) (f := pItems) (fun x z h => ⟨by rw [h]; exact pItems_sq h, by rw [h]; simp [eA]⟩) h
theorem mi_enumG {pa : α → List PyData} {f : α → Option (List γ)} (hf : ∀ x z, f x = some z → (ea x = .tuple (pa x) ∨ ea x = .list (pa x)) ∧ pa x = z.map ec) (hm : ∀ i, (𝒴 i).X.mg "enumerate" = none) (h : ME κ 𝒴 C e ea oa)
    (hs : ∀ i, starEach [e] (𝒴 i).X.env = (false, eval e (𝒴 i).X.env) :: starEach [] (𝒴 i).X.env := by exact fun _ => rfl) (hgX : ∀ i, Gl (𝒴 i).X "enumerate" := by exact fun _ => rfl) :
    MI κ 𝒴 C (.Tuple es kk tpos) (.Call (.Name "enumerate" p1) [e] [] pos) true (eP2 eI ec) (bk κ oa fun x => bk κ (lk κ (f x)) fun z => pk κ (enumL 0 z)) := ⟨fun n ev gF g S K hK Q hQ =>
  ⟨_, fun i => qi_enumZ (hgX i) (hm i) (BE.q i) (hs i) (hs i), h.run n ev gF g S _ hK.bind _ fun x n1 d gF1 g1 l1 S1 r1 k1 => by
    obtain ⟨z, ez, kz⟩ := lkg (bkg k1)
    obtain ⟨h1, h2⟩ := hf x z ez
    obtain ⟨ds, hi, hl⟩ := items_pf r1 h1
    rw [h2] at hl
    refine ⟨ds, items_keep S1.lg hi, fun hz => hQ (enumL 0 z) n1 ⟨enumD ds, _⟩ gF1 g1 l1 S1 ?_ (fun g2 k2 => items_keep k2 hi) (by rw [enumL_len, ← List.length_map (f := ec), ← hl.length]; exact hz) (pkg kz)⟩
    show All2 _ (enumD ds) _
    rw [enumD_F]
    exact enum_all2 ec 0 hl⟩⟩
theorem mi_enum {es' : List α → PyData} {oa : Mk κ (List α)} (hq : Sq' es' (fun l => l.map ea)) (hm : ∀ i, (𝒴 i).X.mg "enumerate" = none) (h : ME κ 𝒴 C e es' oa)
    (hs : ∀ i, starEach [e] (𝒴 i).X.env = (false, eval e (𝒴 i).X.env) :: starEach [] (𝒴 i).X.env := by exact fun _ => rfl) (hgX : ∀ i, Gl (𝒴 i).X "enumerate" := by exact fun _ => rfl) :
    MI κ 𝒴 C (.Tuple es kk tpos) (.Call (.Name "enumerate" p1) [e] [] pos) true (eP2 eI ea) (bk κ oa fun x => bk κ (pk κ x) fun z => pk κ (enumL 0 z)) := mi_enumG (pa := fun l => l.map ea) (f := some) (fun x z h => by cases h; exact ⟨hq x, rfl⟩) hm h hs hgX
theorem mi_zipG {pa : α → List PyData} {pb : β → List PyData} {f : α → Option (List γ)} {ed : δ → PyData} {h : β → Option (List δ)} (hf : ∀ x z, f x = some z → (ea x = .tuple (pa x) ∨ ea x = .list (pa x)) ∧ pa x = z.map ec) (hh : ∀ x z, h x = some z → (eb x = .tuple (pb x) ∨ eb x = .list (pb x)) ∧ pb x = z.map ed)
    (hm : ∀ i, (𝒴 i).X.mg "zip" = none) (ha : ME κ 𝒴 C a ea oa) (hb : ME κ 𝒴 C b eb ob)
    (hs : ∀ i, starEach [a, b] (𝒴 i).X.env = (false, eval a (𝒴 i).X.env) :: starEach [b] (𝒴 i).X.env := by exact fun _ => rfl) (hs2 : ∀ i, starEach [b] (𝒴 i).X.env = (false, eval b (𝒴 i).X.env) :: starEach [] (𝒴 i).X.env := by exact fun _ => rfl) (hpl : ∀ i, (backTo pos (starEach [b] (𝒴 i).X.env)).any (·.1) = false := by exact fun _ => rfl) (hgX : ∀ i, Gl (𝒴 i).X "zip" := by exact fun _ => rfl) :
    MI κ 𝒴 C (.Tuple es kk tpos) (.Call (.Name "zip" p1) [a, b] [] pos) true (eP2 ec ed) (bk κ oa fun x => bk κ ob fun y => bk κ (lk κ (f x)) fun z => bk κ (lk κ (h y)) fun w => pk κ (z.zip w)) := ⟨fun n ev gF g S K hK Q hQ =>
  ⟨_, fun i => qi_zipZ (hgX i) (hm i) (qa_cons (BE.q i) (qa_cons (BE.q i) qa_nil (hs2 i)) (hs i)) (hs i) (hpl i), ha.run n ev gF g S _ hK.bind _ fun x n1 d gF1 g1 l1 S1 r1 k1 => hb.run n1 ev gF1 g1 S1 _ (bkg k1) _ fun y n2 d' gF2 g2 l2 S2 r2 k2 => by
    obtain ⟨z, ez, kz⟩ := lkg (bkg k2)
    obtain ⟨w, ew, kw⟩ := lkg (bkg kz)
    obtain ⟨h1, h2⟩ := hf x z ez
    obtain ⟨h3, h4⟩ := hh y w ew
    obtain ⟨ds, hi, hl⟩ := items_pf (oLe l2.lF r1) h1
    obtain ⟨es', hi', hl'⟩ := items_pf r2 h3
    rw [h2] at hl
    rw [h4] at hl'
    refine ⟨d, d', ds, es', rfl, items_keep S2.lg hi, items_keep S2.lg hi', fun hz => hQ (z.zip w) n2 ⟨zipD ds es', _⟩ gF2 g2 (Ext.trans0 l1 l2) S2 (zip_all2 ec ed hl hl') (fun g2 k2 => ⟨items_keep k2 hi, items_keep k2 hi'⟩) ?_ (pkg kw)⟩
    have e1 := hl.length
    rw [List.length_map] at e1
    rw [List.length_zip]
    omega⟩⟩
theorem mi_zip {es' : List α → PyData} {es2 : List β → PyData} {oa : Mk κ (List α)} {ob : Mk κ (List β)} (hq : Sq' es' (fun l => l.map ea)) (hq2 : Sq' es2 (fun l => l.map eb)) (hm : ∀ i, (𝒴 i).X.mg "zip" = none) (ha : ME κ 𝒴 C a es' oa) (hb : ME κ 𝒴 C b es2 ob)
    (hs : ∀ i, starEach [a, b] (𝒴 i).X.env = (false, eval a (𝒴 i).X.env) :: starEach [b] (𝒴 i).X.env := by exact fun _ => rfl) (hs2 : ∀ i, starEach [b] (𝒴 i).X.env = (false, eval b (𝒴 i).X.env) :: starEach [] (𝒴 i).X.env := by exact fun _ => rfl) (hpl : ∀ i, (backTo pos (starEach [b] (𝒴 i).X.env)).any (·.1) = false := by exact fun _ => rfl) (hgX : ∀ i, Gl (𝒴 i).X "zip" := by exact fun _ => rfl) :
    MI κ 𝒴 C (.Tuple es kk tpos) (.Call (.Name "zip" p1) [a, b] [] pos) true (eP2 ea eb) (bk κ oa fun x => bk κ ob fun y => bk κ (pk κ x) fun z => bk κ (pk κ y) fun w => pk κ (z.zip w)) :=
  mi_zipG (pa := fun l => l.map ea) (pb := fun l => l.map eb) (f := some) (h := some) (fun x z h => by cases h; exact ⟨hq x, rfl⟩) (fun x z h => by cases h; exact ⟨hq2 x, rfl⟩) hm ha hb hs hs2 hpl hgX
/-- columns beside an unknown row -/
theorem mi_zipA {es' : List α → PyData} {oa : Mk κ (List α)} {ob : Mk κ PyData} (hq : Sq' es' (fun l => l.map ea)) (hm : ∀ i, (𝒴 i).X.mg "zip" = none) (ha : ME κ 𝒴 C a es' oa) (hb : ME κ 𝒴 C b eA ob)
    (hs : ∀ i, starEach [a, b] (𝒴 i).X.env = (false, eval a (𝒴 i).X.env) :: starEach [b] (𝒴 i).X.env := by exact fun _ => rfl) (hs2 : ∀ i, starEach [b] (𝒴 i).X.env = (false, eval b (𝒴 i).X.env) :: starEach [] (𝒴 i).X.env := by exact fun _ => rfl) (hpl : ∀ i, (backTo pos (starEach [b] (𝒴 i).X.env)).any (·.1) = false := by exact fun _ => rfl) (hgX : ∀ i, Gl (𝒴 i).X "zip" := by exact fun _ => rfl) :
    MI κ 𝒴 C (.Tuple es kk tpos) (.Call (.Name "zip" p1) [a, b] [] pos) true (eP2 ea eA) (bk κ oa fun x => bk κ ob fun y => bk κ (pk κ x) fun z => bk κ (lk κ (pItems y)) fun w => pk κ (z.zip w)) :=
  mi_zipG (pa := fun l => l.map ea) (pb := fun p => (pItems p).getD []) (f := some) (h := pItems) (fun x z h => by cases h; exact ⟨hq x, rfl⟩) (fun x z h => ⟨by rw [h]; exact pItems_sq h, by rw [h]; simp [eA]⟩) hm ha hb hs hs2 hpl hgX
theorem rngL_len (lo hi : Int) : (rngL lo hi).length = (hi - lo).toNat := by simp [rngL]
theorem mi_rng1 {ob : Mk κ Int} (hm : ∀ i, (𝒴 i).X.mg "range" = none) (hb : ME κ 𝒴 C b eI ob) (hs : ∀ i, starEach [b] (𝒴 i).X.env = (false, eval b (𝒴 i).X.env) :: starEach [] (𝒴 i).X.env := by exact fun _ => rfl) (hgX : ∀ i, Gl (𝒴 i).X "range" := by exact fun _ => rfl) :
    MI κ 𝒴 C tg (.Call (.Name "range" p1) [b] [] pos) false eI (bk κ ob fun y => lk κ (oRng 0 y)) := ⟨fun n ev gF g S K hK Q hQ =>
  ⟨_, fun i => qi_range1 (hgX i) (hm i) (qa_cons (BE.q i) qa_nil (hs i)) (hs i), hb.run n ev gF g S _ hK.bind _ fun y n1 d gF1 g1 l1 S1 r1 k1 => by
    obtain ⟨z, ez, kz⟩ := lkg k1
    cases r1
    unfold oRng at ez
    split at ez <;> cases ez
    rename_i c
    refine ⟨y, rfl, c.2.2.2.1, c.2.1, hQ _ n1 _ gF1 g1 l1 S1 ?_ (fun _ _ => trivial) (small (by rw [rngL_len]; omega)) kz⟩
    have e : rngL 0 y = (List.range y.toNat).map fun i => (0 : Int) + (i : Nat) := by unfold rngL; rw [Int.sub_zero]
    rw [e]
    exact rng_all2 0 _⟩⟩
theorem mi_rng2 {oa ob : Mk κ Int} (hm : ∀ i, (𝒴 i).X.mg "range" = none) (ha : ME κ 𝒴 C a eI oa) (hb : ME κ 𝒴 C b eI ob) (hs : ∀ i, starEach [a, b] (𝒴 i).X.env = (false, eval a (𝒴 i).X.env) :: starEach [b] (𝒴 i).X.env := by exact fun _ => rfl) (hs2 : ∀ i, starEach [b] (𝒴 i).X.env = (false, eval b (𝒴 i).X.env) :: starEach [] (𝒴 i).X.env := by exact fun _ => rfl) (hgX : ∀ i, Gl (𝒴 i).X "range" := by exact fun _ => rfl) :
    MI κ 𝒴 C tg (.Call (.Name "range" p1) [a, b] [] pos) false eI (bk κ oa fun x => bk κ ob fun y => lk κ (oRng x y)) := ⟨fun n ev gF g S K hK Q hQ =>
  ⟨_, fun i => qi_range2 (hgX i) (hm i) (qa_cons (BE.q i) (qa_cons (BE.q i) qa_nil (hs2 i)) (hs i)) (by rw [hs i, hs2 i]; rfl) (hs2 i), ha.run n ev gF g S _ hK.bind _ fun x n1 d1 gF1 g1 l1 S1 r1 k1 => hb.run n1 ev gF1 g1 S1 _ (bkg k1) _ fun y n2 d gF2 g2 l2 S2 r2 k2 => by
    obtain ⟨z, ez, kz⟩ := lkg k2
    cases r1; cases r2
    unfold oRng at ez
    split at ez <;> cases ez
    rename_i c
    exact ⟨x, y, rfl, ⟨c.1, c.2.2.2.2, c.2.2.2.1, c.2.1⟩, hQ _ n2 _ gF2 g2 (Ext.trans0 l1 l2) S2 (rng_all2 x _) (fun _ _ => trivial) (small (by rw [← rngL, rngL_len]; omega)) kz⟩⟩⟩

/-! ### targets -/
structure MG {ι : Type} (k : Bool) (𝒴 : ι → Yx) (tg : Expr) (ts : List Nat) {σ : Type} (C : σ → Ct) {α : Type} (enc : α → PyData) (C' : σ → α → Ct) : Prop where
  ex : ∃ gd : TG', (∀ i, QG (𝒴 i) tg ts gd) ∧ ∀ s x n ev gF g d, Sx (C s) n ev gF g → PK k gF d (enc x) → ∀ Q : Ev → G → Prop, (∀ ev', Sx (C' s x) n ev' gF g → Q ev' g) → gd d ev g Q
abbrev Ct.setF (C : Ct) (i : Nat) (p : PyData) : Ct := { C with F := (i, .p p) :: C.F }
theorem mg_name {σ : Type} {C : σ → Ct} (i : Nat) {x : Str} (hN : ∀ j, (𝒴 j).X.N.Nodup) (hi : ∀ j, (𝒴 j).X.N[i]? = some x := by exact fun _ => rfl) (hx : ∀ j, Loc (𝒴 j).X.env.scope x := by first | exact fun _ => .inl rfl | exact fun _ => .inr rfl) (hf : ∀ j, (𝒴 j).X.fn x = true ∨ (𝒴 j).X.env.scope.names.lookup x = some .local := by first | exact fun _ => .inl rfl | exact fun _ => .inr rfl)
    (hlt : ∀ s, i < (C s).N := by intro _; exact Nat.le_of_ble_eq_true rfl) (hO : ∀ s, (C s).O.lookup i = none := by exact fun _ => rfl) (hX : ∀ s, (C s).X.lookup i = none := by exact fun _ => rfl) : MG false 𝒴 (.Name x pos) [i] C ea (fun s v => (C s).setF i (ea v)) :=
  ⟨vName i, fun j => qg_name i (hN j) (hi j) (hx j) (hf j), fun s v n ev gF g d S r Q hQ => by
    rcases r with r | ⟨e, _⟩
    · exact hQ _ (S.setF (x := .p (ea v)) r (hlt s) (hO s) (hX s))
    · cases e⟩
theorem tupD_pk {k : Bool} {g : G} {d : D} {ps : List PyData} (h : PK k g d (.tuple ps)) : ∃ ds, tupD d = some ds ∧ PFL g ds ps := by
  rcases h with h | ⟨_, ds, qs, e1, e2, h⟩
  · obtain ⟨ds, rfl, hl⟩ := PF.tuple h
    exact ⟨ds, rfl, hl⟩
  · cases e2
    subst e1
    exact ⟨ds, rfl, h⟩
theorem mg_tup2 {σ : Type} {C : σ → Ct} {k : Bool} (i j : Nat) {x y : Str} {px py : Pos} (hN : ∀ u, (𝒴 u).X.N.Nodup) (hc : ∀ u, (𝒴 u).X.calm = true := by exact fun _ => rfl)
    (hi : ∀ u, (𝒴 u).X.N[i]? = some x := by exact fun _ => rfl) (hj : ∀ u, (𝒴 u).X.N[j]? = some y := by exact fun _ => rfl)
    (lx : ∀ u, Loc (𝒴 u).X.env.scope x := by first | exact fun _ => .inl rfl | exact fun _ => .inr rfl) (ly : ∀ u, Loc (𝒴 u).X.env.scope y := by first | exact fun _ => .inl rfl | exact fun _ => .inr rfl)
    (fx : ∀ u, (𝒴 u).X.fn x = true ∨ (𝒴 u).X.env.scope.names.lookup x = some .local := by first | exact fun _ => .inl rfl | exact fun _ => .inr rfl) (fy : ∀ u, (𝒴 u).X.fn y = true ∨ (𝒴 u).X.env.scope.names.lookup y = some .local := by first | exact fun _ => .inl rfl | exact fun _ => .inr rfl)
    (h1 : ∀ s, i < (C s).N := by intro _; exact Nat.le_of_ble_eq_true rfl) (h2 : ∀ s, j < (C s).N := by intro _; exact Nat.le_of_ble_eq_true rfl) (hO : ∀ s, (C s).O.lookup i = none := by exact fun _ => rfl) (hX : ∀ s, (C s).X.lookup i = none := by exact fun _ => rfl) (hO2 : ∀ s, (C s).O.lookup j = none := by exact fun _ => rfl) (hX2 : ∀ s, (C s).X.lookup j = none := by exact fun _ => rfl)
    (s1 : ∀ u, (assignEach [.Name x px, .Name y py] (𝒴 u).X.env).map (·.2) = assign (.Name x px) (𝒴 u).X.env :: (assignEach [.Name y py] (𝒴 u).X.env).map (·.2) := by exact fun _ => rfl) (s2 : ∀ u, (assignEach [.Name y py] (𝒴 u).X.env).map (·.2) = assign (.Name y py) (𝒴 u).X.env :: (assignEach [] (𝒴 u).X.env).map (·.2) := by exact fun _ => rfl)
    (s3 : ∀ u, (assignEach [.Name x px, .Name y py] (𝒴 u).X.env).length = 2 := by exact fun _ => rfl) (s4 : ∀ u, (assignEach [.Name x px, .Name y py] (𝒴 u).X.env).findIdx? (·.1) = none := by exact fun _ => rfl) :
    MG k 𝒴 (.Tuple [.Name x px, .Name y py] kk pos) [i, j] C (eP2 ea eb) (fun s v => ((C s).setF i (ea v.1)).setF j (eb v.2)) :=
  ⟨vTup 2 (vCons (vName i) (vCons (vName j) vNil)), fun u => qg_tup (ts := [i] ++ ([j] ++ [])) (hc u) (qgs_cons (qg_name i (hN u) (hi u) (lx u) (fx u)) (qgs_cons (qg_name j (hN u) (hj u) (ly u) (fy u)) qgs_nil (s2 u)) (s1 u)) (s3 u) (s4 u), fun s v n ev gF g d S r Q hQ => by
    obtain ⟨ds, e, hl⟩ := tupD_pk r
    cases hl with
    | cons r1 hl => cases hl with
      | cons r2 hl =>
        cases hl
        exact ⟨_, e, rfl, _, _, rfl, _, _, rfl, rfl, hQ _ ((S.setF (x := .p (ea v.1)) r1 (h1 s) (hO s) (hX s)).setF (x := .p (eb v.2)) r2 (h2 s) (hO2 s) (hX2 s))⟩⟩
theorem mg_tup3 {σ : Type} {C : σ → Ct} {k : Bool} (i j m : Nat) {x y w : Str} {px py pw : Pos} (hN : ∀ u, (𝒴 u).X.N.Nodup) (hc : ∀ u, (𝒴 u).X.calm = true := by exact fun _ => rfl)
    (hi : ∀ u, (𝒴 u).X.N[i]? = some x := by exact fun _ => rfl) (hj : ∀ u, (𝒴 u).X.N[j]? = some y := by exact fun _ => rfl) (hk : ∀ u, (𝒴 u).X.N[m]? = some w := by exact fun _ => rfl)
    (lx : ∀ u, Loc (𝒴 u).X.env.scope x := by first | exact fun _ => .inl rfl | exact fun _ => .inr rfl) (ly : ∀ u, Loc (𝒴 u).X.env.scope y := by first | exact fun _ => .inl rfl | exact fun _ => .inr rfl) (lw : ∀ u, Loc (𝒴 u).X.env.scope w := by first | exact fun _ => .inl rfl | exact fun _ => .inr rfl)
    (fx : ∀ u, (𝒴 u).X.fn x = true ∨ (𝒴 u).X.env.scope.names.lookup x = some .local := by first | exact fun _ => .inl rfl | exact fun _ => .inr rfl) (fy : ∀ u, (𝒴 u).X.fn y = true ∨ (𝒴 u).X.env.scope.names.lookup y = some .local := by first | exact fun _ => .inl rfl | exact fun _ => .inr rfl) (fw : ∀ u, (𝒴 u).X.fn w = true ∨ (𝒴 u).X.env.scope.names.lookup w = some .local := by first | exact fun _ => .inl rfl | exact fun _ => .inr rfl)
    (h1 : ∀ s, i < (C s).N := by intro _; exact Nat.le_of_ble_eq_true rfl) (h2 : ∀ s, j < (C s).N := by intro _; exact Nat.le_of_ble_eq_true rfl) (h3 : ∀ s, m < (C s).N := by intro _; exact Nat.le_of_ble_eq_true rfl) (hO : ∀ s, (C s).O.lookup i = none := by exact fun _ => rfl) (hX : ∀ s, (C s).X.lookup i = none := by exact fun _ => rfl) (hO2 : ∀ s, (C s).O.lookup j = none := by exact fun _ => rfl) (hX2 : ∀ s, (C s).X.lookup j = none := by exact fun _ => rfl) (hO3 : ∀ s, (C s).O.lookup m = none := by exact fun _ => rfl) (hX3 : ∀ s, (C s).X.lookup m = none := by exact fun _ => rfl)
    (s1 : ∀ u, (assignEach [.Name x px, .Name y py, .Name w pw] (𝒴 u).X.env).map (·.2) = assign (.Name x px) (𝒴 u).X.env :: (assignEach [.Name y py, .Name w pw] (𝒴 u).X.env).map (·.2) := by exact fun _ => rfl) (s2 : ∀ u, (assignEach [.Name y py, .Name w pw] (𝒴 u).X.env).map (·.2) = assign (.Name y py) (𝒴 u).X.env :: (assignEach [.Name w pw] (𝒴 u).X.env).map (·.2) := by exact fun _ => rfl) (s5 : ∀ u, (assignEach [.Name w pw] (𝒴 u).X.env).map (·.2) = assign (.Name w pw) (𝒴 u).X.env :: (assignEach [] (𝒴 u).X.env).map (·.2) := by exact fun _ => rfl)
    (s3 : ∀ u, (assignEach [.Name x px, .Name y py, .Name w pw] (𝒴 u).X.env).length = 3 := by exact fun _ => rfl) (s4 : ∀ u, (assignEach [.Name x px, .Name y py, .Name w pw] (𝒴 u).X.env).findIdx? (·.1) = none := by exact fun _ => rfl) :
    MG k 𝒴 (.Tuple [.Name x px, .Name y py, .Name w pw] kk pos) [i, j, m] C (eP3 ea eb ec) (fun s v => (((C s).setF i (ea v.1)).setF j (eb v.2.1)).setF m (ec v.2.2)) :=
  ⟨vTup 3 (vCons (vName i) (vCons (vName j) (vCons (vName m) vNil))), fun u => qg_tup (ts := [i] ++ ([j] ++ ([m] ++ []))) (hc u) (qgs_cons (qg_name i (hN u) (hi u) (lx u) (fx u)) (qgs_cons (qg_name j (hN u) (hj u) (ly u) (fy u)) (qgs_cons (qg_name m (hN u) (hk u) (lw u) (fw u)) qgs_nil (s5 u)) (s2 u)) (s1 u)) (s3 u) (s4 u), fun s v n ev gF g d S r Q hQ => by
    obtain ⟨ds, e, hl⟩ := tupD_pk r
    cases hl with
    | cons r1 hl => cases hl with
      | cons r2 hl => cases hl with
        | cons r3 hl =>
          cases hl
          exact ⟨_, e, rfl, _, _, rfl, _, _, rfl, _, _, rfl, rfl, hQ _ (((S.setF (x := .p (ea v.1)) r1 (h1 s) (hO s) (hX s)).setF (x := .p (eb v.2.1)) r2 (h2 s) (hO2 s) (hX2 s)).setF (x := .p (ec v.2.2)) r3 (h3 s) (hO3 s) (hX3 s))⟩⟩
end
end SK
end
section
set_option maxHeartbeats 4000000
namespace SK
open PySem PySem.Spec PyProof.Rows L2

/-! ### sorted -/
def insU (x : Int) : List Int → List Int
  | [] => [x]
  | y :: l => if x < y then x :: y :: l else if x = y then y :: l else y :: insU x l
/-- the different ones, ascending -/
def sortU : List Int → List Int
  | [] => []
  | x :: l => insU x (sortU l)
theorem insU_mem (x k : Int) : ∀ l : List Int, k ∈ insU x l ↔ k = x ∨ k ∈ l
  | [] => by simp [insU]
  | y :: l => by
    unfold insU
    split
    · simp
    · split
      · rename_i h; subst h; simp
      · simp only [List.mem_cons, insU_mem x k l]
        constructor
        · rintro (h | h | h) <;> simp [h]
        · rintro (h | h | h) <;> simp [h]
theorem insU_inc (x : Int) : ∀ l : List Int, l.Pairwise (· < ·) → (insU x l).Pairwise (· < ·)
  | [], _ => by simp [insU]
  | y :: l, h => by
    obtain ⟨h1, h2⟩ := List.pairwise_cons.mp h
    unfold insU
    split
    · rename_i hx
      refine List.pairwise_cons.mpr ⟨fun z hz => ?_, h⟩
      rcases List.mem_cons.mp hz with e | e
      · omega
      · have := h1 z e; omega
    · split
      · exact h
      · rename_i n1 n2
        refine List.pairwise_cons.mpr ⟨fun z hz => ?_, insU_inc x l h2⟩
        rcases (insU_mem x z l).mp hz with e | e
        · omega
        · exact h1 z e
theorem sortU_mem (k : Int) : ∀ l : List Int, k ∈ sortU l ↔ k ∈ l
  | [] => by simp [sortU]
  | x :: l => by simp [sortU, insU_mem, sortU_mem k l]
theorem sortU_inc : ∀ l : List Int, (sortU l).Pairwise (· < ·)
  | [] => by simp [sortU]
  | x :: l => insU_inc x _ (sortU_inc l)
theorem sortU_of {l m : List Int} (h : m.Pairwise (· < ·)) (hm : ∀ k, k ∈ m ↔ k ∈ l) : m = sortU l := inc_ext h (sortU_inc l) fun k => by rw [sortU_mem, hm]
def oSortU (l : List Int) : Option (List Int) := if l.length < 63 then some (sortU l) else none
def insI (x : Int) : List Int → List Int
  | [] => [x]
  | y :: l => if x ≤ y then x :: y :: l else y :: insI x l
def sortI : List Int → List Int
  | [] => []
  | x :: l => insI x (sortI l)
theorem insI_perm (x : Int) : ∀ l : List Int, (insI x l).Perm (x :: l)
  | [] => .refl _
  | y :: l => by
    unfold insI
    split
    · exact .refl _
    · exact ((insI_perm x l).cons y).trans (.swap ..)
theorem sortI_perm : ∀ l : List Int, (sortI l).Perm l
  | [] => .refl _
  | x :: l => (insI_perm x _).trans ((sortI_perm l).cons x)
theorem insI_inc (x : Int) : ∀ l : List Int, l.Pairwise (· ≤ ·) → (insI x l).Pairwise (· ≤ ·)
  | [], _ => by simp [insI]
  | y :: l, h => by
    obtain ⟨h1, h2⟩ := List.pairwise_cons.mp h
    unfold insI
    split
    · refine List.pairwise_cons.mpr ⟨fun z hz => ?_, h⟩
      rcases List.mem_cons.mp hz with e | e
      · omega
      · have := h1 z e; omega
    · refine List.pairwise_cons.mpr ⟨fun z hz => ?_, insI_inc x l h2⟩
      rcases List.mem_cons.mp ((insI_perm x l).subset hz) with e | e
      · omega
      · exact h1 z e
theorem sortI_inc : ∀ l : List Int, (sortI l).Pairwise (· ≤ ·)
  | [] => .nil
  | x :: l => insI_inc x _ (sortI_inc l)
theorem perm_inc : ∀ {l m : List Int}, l.Perm m → l.Pairwise (· ≤ ·) → m.Pairwise (· ≤ ·) → l = m
  | [], m, h, _, _ => by rw [List.nil_perm.mp h]
  | a :: l, [], h, _, _ => by simp at h
  | a :: l, b :: m, h, h1, h2 => by
    obtain ⟨a1, l1⟩ := List.pairwise_cons.mp h1
    obtain ⟨b1, m1⟩ := List.pairwise_cons.mp h2
    have e : a = b := by
      have x : a ≤ b := by
        rcases List.mem_cons.mp (h.symm.subset (List.mem_cons_self ..)) with e | e
        · omega
        · exact a1 b e
      have y : b ≤ a := by
        rcases List.mem_cons.mp (h.subset (List.mem_cons_self ..)) with e | e
        · omega
        · exact b1 a e
      omega
    subst e
    rw [perm_inc (h.cons_inv) l1 m1]
theorem sortI_of {l m : List Int} (h : m.Perm l) (hm : m.Pairwise (· ≤ ·)) : m = sortI l := perm_inc (h.trans (sortI_perm l).symm) hm (sortI_inc l)

/-! ### comprehensions -/
def cM (κ : Bool) {α β : Type} (t : α → Mk κ Bool) (f : α → Mk κ β) : List α → Mk κ (List β)
  | [] => pk κ []
  | x :: l => bk κ (t x) fun b => if b = true then bk κ (f x) fun y => bk κ (cM κ t f l) fun r => pk κ (y :: r) else cM κ t f l
/-- without a test -/
def mM (κ : Bool) {α β : Type} (f : α → Mk κ β) : List α → Mk κ (List β)
  | [] => pk κ []
  | x :: l => bk κ (f x) fun y => bk κ (mM κ f l) fun r => pk κ (y :: r)
/-- the contexts within a block -/
abbrev blkY {ι : Type} (𝒴 : ι → Yx) (scope : Scope) : ι × Shared × Hp × Addr × List (Str × Addr) × List Addr → Yx := fun q => (𝒴 q.1).blk q.2.1 q.2.2.1 scope (compEnvC scope q.2.2.2.2.1 q.2.2.2.1 (𝒴 q.1).X.env) q.2.2.2.2.2
structure MTs {ι : Type} (κ : Bool) (𝒴 : ι → Yx) (C : Ct) (es : List Expr) (o : Mk κ Bool) : Prop where
  r : RT κ C (BTs 𝒴 es) o
section
variable {ι : Type} {𝒴 : ι → Yx} {κ : Bool} {C : Ct} {e a b c tg elt iter : Expr} {es ifs : List Expr} {α β γ δ τ : Type} {ea : α → PyData} {eb : β → PyData} {ec : γ → PyData} {pos p1 p2 p3 p4 tpos : Pos} {oa : Mk κ α} {ob : Mk κ β} {kk : Nat} {scope : Scope} {own : List (Str × Nat)} {ts : List Nat}
theorem mts_one {o : Mk κ Bool} (h : MT κ 𝒴 C c o) : MTs κ 𝒴 C [c] o := ⟨⟨fun n ev gF g S K hK Q hQ => ⟨_, fun i => qts_one (BT.q i), h.run n ev gF g S K hK Q hQ⟩⟩⟩
theorem comp_run {wi : TI'} {gd : TG'} {tt : TB'} {te : TE'} {vs : List Nat} {k : Bool} {o : Mk κ (List α)} {ft : α → Mk κ Bool} {ff : α → Mk κ β} {C' : α → Ct} (hi : RI κ C wi k ea o)
    (hg : ∀ x n ev gF g d, Sx (C.out vs) n ev gF g → PK k gF d (ea x) → ∀ Q : Ev → G → Prop, (∀ ev', Sx (C' x) n ev' gF g → Q ev' g) → gd d ev g Q) (ht : ∀ x, RT κ (C' x) tt (ft x)) (hf : ∀ x, RE κ (C' x) te eb (ff x)) :
    RA κ C (uComp wi gd tt te vs) (fun l => l.map eb) (bk κ o fun l => cM κ ft ff l) := ⟨fun n ev gF g S K hK Q hQ => hi.run n ev gF g S _ hK.bind _ fun l n1 Sr gF1 g1 l1 S1 al ok hz k1 => by
  refine ⟨by rw [al.length]; exact hz, ?_⟩
  have main : ∀ (l : List α) (ds : List D) (acc : List D) (ys : List β) (n2 : Nat) (gF2 g2 : G) (K2 : List β → Pn → Prop), Keeps gF1 gF2 → Sx C n2 ev gF2 g2 → All2 (fun d x => PK k gF1 d (ea x)) ds l → PFL gF2 acc (ys.map eb) → (∀ p, p.n = n2 → Gd κ (cM κ ft ff l) p K2) →
      (∀ r n3 ds gF3 g3, Ext [] gF2 g2 gF3 g3 n3 → Sx C n3 ev gF3 g3 → PFL gF3 ds ((ys ++ r).map eb) → (∀ p, p.n = n3 → K2 r p) → Q ds g3) → compD Sr.ok gd tt te (wipeE ev vs) ds acc g2 Q := by
    intro l
    induction l with
    | nil =>
      intro ds acc ys n2 gF2 g2 K2 k12 S2 al r k2 hQ2
      cases al
      exact hQ2 [] n2 acc gF2 g2 (Ext.refl S2.lg S2.nn) S2 (by simpa using r) (pkg k2)
    | cons x l ih =>
      intro ds acc ys n2 gF2 g2 K2 k12 S2 al r k2 hQ2
      cases al with
      | cons r0 al =>
        refine hg x n2 _ gF2 g2 _ (S2.wipe vs) (r0.leo k12) _ fun ev' S3 => ?_
        refine (ht x).run n2 ev' gF2 g2 S3 _ (bkg k2) _ fun bb n3 gF3 g3 l3 S4 k3 => ?_
        cases bb with
        | true =>
          refine (hf x).run n3 ev' gF3 g3 S4 _ (bkg k3) _ fun y n4 d gF4 g4 l4 S5 r5 k4 => ?_
          have l34 := Ext.trans0 l3 l4
          refine ⟨ok _ (Keeps.trans (Keeps.trans k12 l34.lF) S5.lg), ih _ (acc ++ [d]) (ys ++ [y]) n4 gF4 g4 _ (Keeps.trans k12 l34.lF) (S2.ext l34) al ?_ (bkg k4) fun r' n5 ds gF5 g5 l5 S7 r7 k5 => ?_⟩
          · rw [List.map_append]
            exact (PXL.leo l34.lF _ r).append (.cons r5 .nil)
          · exact hQ2 (y :: r') n5 ds gF5 g5 (Ext.trans0 l34 l5) S7 (by simpa using r7) (pkg k5)
        | false =>
          exact ⟨ok _ (Keeps.trans (Keeps.trans k12 l3.lF) S4.lg), ih _ acc ys n3 gF3 g3 _ (Keeps.trans k12 l3.lF) (S2.ext l3) al (PXL.leo l3.lF _ r) k3 fun r' n5 ds gF5 g5 l5 S7 r7 k5 => hQ2 r' n5 ds gF5 g5 (Ext.trans0 l3 l5) S7 r7 k5⟩
  exact main l Sr.ds [] [] n1 gF1 g1 K Keeps.refl S1 al .nil k1 fun r n3 ds gF3 g3 l3 S3 r3 k3 => hQ r n3 ds gF3 g3 (Ext.trans0 l1 l3) S3 (by simpa using r3) k3⟩
theorem rt_true {C : Ct} : RT κ C (fun _ g Q => Q true g) (pk κ true) := ⟨fun n ev gF g S K hK Q hQ => hQ true n gF g (Ext.refl S.lg S.nn) S hK.pk⟩
theorem bk_pk {v : α} {f : α → Mk κ β} : bk κ (pk κ v) f = f v := by
  cases κ
  · rfl
  · rfl
theorem cM_true {f : α → Mk κ β} : ∀ l : List α, cM κ (fun _ => pk κ true) f l = mM κ f l
  | [] => rfl
  | x :: l => by
    show bk κ (pk κ true) _ = bk κ (f x) _
    rw [bk_pk, if_pos rfl]
    congr 1
    funext y
    rw [cM_true l]
variable {k : Bool} {o : Mk κ (List α)} {ft : α → Mk κ Bool} {ff : α → Mk κ β} {C' : α → Ct}
/-- [f(x) for x in it if t(x)] -/
theorem mf_comp (hc : ∀ i, (𝒴 i).X.calm = true) (hN : ∀ i, (𝒴 i).X.N.Nodup) (ok : ∀ i, BlkOk (𝒴 i).X.N (𝒴 i).X.env.scope scope own) (hi : MI κ 𝒴 C tg iter k ea o) (hg : MG k (blkY 𝒴 scope) tg ts (fun _ : Unit => C.out (own.map (·.2))) ea (fun _ => C')) (ht : ∀ x, MTs κ (blkY 𝒴 scope) (C' x) ifs (ft x)) (hf : ∀ x, ME κ (blkY 𝒴 scope) (C' x) elt eb (ff x))
    (hts : ∀ i ∈ ts, i ∈ own.map (·.2) := by decide) (hs : ∀ i x, foldedSetIterable iter (𝒴 i).X.env x = pure x := by intro _ _; rfl) : MF κ 𝒴 C (.ListComp elt [⟨tg, iter, ifs, 0⟩] scope pos) (fun l => l.map eb) (bk κ o fun l => cM κ ft ff l) := by
  obtain ⟨gd, h1, h2⟩ := hg.ex
  exact MF.mk (fun i => q_comp (hc i) (hN i) (BI.q i) (ok i) (fun s H C cl fp => h1 (i, s, H, C, cl, fp)) (fun s H C cl fp => BTs.q (𝒴 := blkY 𝒴 scope) (i, s, H, C, cl, fp)) (fun s H C cl fp => BE.q (𝒴 := blkY 𝒴 scope) (i, s, H, C, cl, fp)) hts (hs i)) (comp_run hi (h2 ()) (fun x => (ht x).r) hf)
theorem qts_nilB : RT κ C (BTs 𝒴 []) (pk κ true) := ⟨fun n ev gF g S K hK Q hQ => ⟨_, fun i => qts_nil, hQ true n gF g (Ext.refl S.lg S.nn) S hK.pk⟩⟩
theorem mf_comp1 (hc : ∀ i, (𝒴 i).X.calm = true) (hN : ∀ i, (𝒴 i).X.N.Nodup) (ok : ∀ i, BlkOk (𝒴 i).X.N (𝒴 i).X.env.scope scope own) (hi : MI κ 𝒴 C tg iter k ea o) (hg : MG k (blkY 𝒴 scope) tg ts (fun _ : Unit => C.out (own.map (·.2))) ea (fun _ => C')) (hf : ∀ x, ME κ (blkY 𝒴 scope) (C' x) elt eb (ff x))
    (hts : ∀ i ∈ ts, i ∈ own.map (·.2) := by decide) (hs : ∀ i x, foldedSetIterable iter (𝒴 i).X.env x = pure x := by intro _ _; rfl) : MF κ 𝒴 C (.ListComp elt [⟨tg, iter, [], 0⟩] scope pos) (fun l => l.map eb) (bk κ o fun l => mM κ ff l) := by
  have h := mf_comp (pos := pos) (ft := fun _ => pk κ true) hc hN ok hi hg (fun x => ⟨qts_nilB⟩) hf hts hs
  have e : (fun l => cM κ (fun _ => pk κ true) ff l) = fun l => mM κ ff l := by funext l; exact cM_true l
  rwa [e] at h
/-! sorted -/
theorem mf_sortset {oa : Mk κ (List Int)} (m1 : ∀ i, (𝒴 i).X.mg "sorted" = none) (m2 : ∀ i, (𝒴 i).X.mg "set" = none) (ha : ME κ 𝒴 C a (eT eI) oa) (hc : ∀ i, (𝒴 i).X.calm = true := by exact fun _ => rfl) (g1 : ∀ i, Gl (𝒴 i).X "sorted" := by exact fun _ => rfl) (g2 : ∀ i, Gl (𝒴 i).X "set" := by exact fun _ => rfl) (hs : ∀ i, starEach [a] (𝒴 i).X.env = (false, eval a (𝒴 i).X.env) :: starEach [] (𝒴 i).X.env := by exact fun _ => rfl) (hs2 : ∀ i, starEach [Expr.Call (.Name "set" p1) [a] [] p2] (𝒴 i).X.env = (false, eval (Expr.Call (.Name "set" p1) [a] [] p2) (𝒴 i).X.env) :: starEach [] (𝒴 i).X.env := by exact fun _ => rfl) :
    MF κ 𝒴 C (.Call (.Name "sorted" p3) [.Call (.Name "set" p1) [a] [] p2] [] p4) (fun l => l.map eI) (bk κ oa fun l => lk κ (oSortU l)) :=
  MF.mk (fun i => q_sortset (hc i) (BE.q i) (g1 i) (m1 i) (g2 i) (m2 i) (hs i) (hs2 i)) ⟨fun n ev gF g S K hK Q hQ => ha.run n ev gF g S _ hK.bind _ fun x n1 d gF1 g1 l1 S1 r1 k1 => by
    obtain ⟨z, ez, kz⟩ := lkg k1
    unfold oSortU at ez
    split at ez <;> cases ez
    rename_i hz
    obtain ⟨ds, rfl, hl⟩ := PF.tuple r1
    have e := ints_pf hl
    subst e
    refine ⟨x, rfl, hz, fun ms h1 h2 => ?_⟩
    rw [sortU_of h1 h2]
    exact hQ _ n1 _ gF1 g1 l1 S1 (PXL.of_ints _) kz⟩
theorem mf_sort {oa : Mk κ (List Int)} (m1 : ∀ i, (𝒴 i).X.mg "sorted" = none) (ha : ME κ 𝒴 C a (eL eI) oa) (g1 : ∀ i, Gl (𝒴 i).X "sorted" := by exact fun _ => rfl) (hs : ∀ i, starEach [a] (𝒴 i).X.env = (false, eval a (𝒴 i).X.env) :: starEach [] (𝒴 i).X.env := by exact fun _ => rfl) :
    MF κ 𝒴 C (.Call (.Name "sorted" p3) [a] [] p4) (fun l => l.map eI) (bk κ oa fun l => pk κ (sortI l)) :=
  MF.mk (fun i => q_sort (BE.q i) (g1 i) (m1 i) (hs i)) ⟨fun n ev gF g S K hK Q hQ => ha.run n ev gF g S _ hK.bind _ fun x n1 d gF1 g1 l1 S1 r1 k1 => by
    obtain ⟨q, ds, rfl, hq, hl⟩ := PX.list r1
    have e := ints_pf hl
    subst e
    refine ⟨x, lst_items (S1.lg _ _ hq), ⟨q, rfl⟩, fun ms h1 h2 => ?_⟩
    rw [sortI_of h1 h2]
    exact hQ _ n1 _ gF1 g1 l1 S1 (PXL.of_ints _) (pkg k1)⟩
end
end SK
end
section
set_option maxHeartbeats 4000000
namespace SK
open PySem PySem.Spec PyProof.Rows L2

/-! ### statements -/
inductive Out (σ ρ : Type) where
  | nx (s : σ)
  | rt (r : ρ)
/-- what leaves a def: data, a new list, an error -/
inductive RetV where
  | val (p : PyData)
  | new (ps : List PyData)
  | err (c : Str)
def exC (K : PySem.W.Frag) (c : Str) : Value := .ref (He.ga K c)
def Exit (K : PySem.W.Frag) (E : ExE) (B : Bs) (en : En) (v : RetV) (n : Nat) : Prop := match v with
  | .val p => ∀ d gF' g', Ext B.M B.F B.g gF' g' n → PF gF' d p → en.rt d g'
  | .new ps => ∀ a ds gF' g', Ext B.M B.F B.g gF' g' n → gF'.o a = none → B.g.o a = none → g'.o a = some (.lst ds) → PFL gF' ds ps → en.rt (.v (.ref a)) g'
  | .err c => ∀ ev' gF' g', Ext B.M B.F B.g gF' g' n → E (exC K c) none ev' g'
def EndOk {σ ρ : Type} (K : PySem.W.Frag) (E : ExE) (B : Bs) (Cn : σ → Ct) (xr : ρ → RetV) (en : En) (gF : G) (n : Nat) : Out σ ρ → Prop
  | .nx s => ∀ ev' gF' g', Keeps gF gF' → Sx (Cn s) n ev' gF' g' → en.nx ev' g'
  | .rt r => Exit K E B en (xr r) n
structure MS {ι : Type} (κ : Bool) (𝒴 : ι → Yx) (K : PySem.W.Frag) (E : ExE) (C : Ct) (sts : List Stmt) {σ ρ : Type} (Cn : σ → Ct) (xr : ρ → RetV) (o : Mk κ (Out σ ρ)) : Prop where
  run : ∀ n ev gF g, Sx C n ev gF g → ∀ Kc, Good κ n o Kc → ∀ en : En, (∀ b n', (∀ p, p.n = n' → Kc b p) → EndOk K E C.B Cn xr en gF n' b) → BSs 𝒴 sts en ev g
def obf (κ : Bool) {σ σ' ρ : Type} (k : σ → Mk κ (Out σ' ρ)) : Out σ ρ → Mk κ (Out σ' ρ)
  | .nx s => k s
  | .rt r => pk κ (.rt r)
def ob (κ : Bool) {σ σ' ρ : Type} (o : Mk κ (Out σ ρ)) (k : σ → Mk κ (Out σ' ρ)) : Mk κ (Out σ' ρ) := bk κ o (obf κ k)
section
variable {ι : Type} {𝒴 : ι → Yx} {κ : Bool} {K : PySem.W.Frag} {E : ExE} {C : Ct} {σ σ' ρ : Type} {Cn : σ → Ct} {xr : ρ → RetV} {o : Mk κ (Out σ ρ)} {st : Stmt} {rest : List Stmt} {e a b c tg : Expr} {α β γ τ : Type} {ea : α → PyData} {eb : β → PyData} {oa : Mk κ α} {pos p1 p2 p3 p4 : Pos}
theorem EndOk.keeps {B : Bs} {en : En} {gF gF' : G} {n : Nat} {b : Out σ ρ} (h : EndOk K E B Cn xr en gF n b) (k : Keeps gF gF') : EndOk K E B Cn xr en gF' n b := by
  cases b with
  | nx s => exact fun ev' gF2 g' k2 S => h ev' gF2 g' (Keeps.trans k k2) S
  | rt r => exact h
theorem MS.seq {t : TS'} (hq : ∀ i, QS (𝒴 i) st t) (h : ∀ n ev gF g, Sx C n ev gF g → ∀ Kc, Good κ n o Kc → ∀ en : En, (∀ b n', (∀ p, p.n = n' → Kc b p) → EndOk K E C.B Cn xr en gF n' b) → t { en with nx := BSs 𝒴 rest en } ev g) : MS κ 𝒴 K E C (st :: rest) Cn xr o :=
  ⟨fun n ev gF g S Kc hK en hE => ⟨_, fun i => qs_cons (hq i) (BSs.q i), h n ev gF g S Kc hK en hE⟩⟩
theorem ms_nil {s : σ} (h : Sub (Cn s) C) : MS κ 𝒴 K E C [] Cn xr (pk κ (.nx s)) := ⟨fun n ev gF g S Kc hK en hE => ⟨_, fun i => qs_nil, hE (.nx s) n hK.pk ev gF g Keeps.refl (S.sub h)⟩⟩
theorem ms_weak {C' : Ct} (h : Sub C' C) (m : MS κ 𝒴 K E C' rest Cn xr o) : MS κ 𝒴 K E C rest Cn xr o := ⟨fun n ev gF g S Kc hK en hE => m.run n ev gF g (S.sub h) Kc hK en (by rw [h.B]; exact hE)⟩
variable {k : α → Mk κ (Out σ ρ)}
/-- name = value -/
theorem ms_set (i : Nat) {x : Str} {pos' : Pos} (hN : ∀ j, (𝒴 j).X.N.Nodup) (h : ME κ 𝒴 C e ea oa) (hr : ∀ v, MS κ 𝒴 K E (C.setF i (ea v)) rest Cn xr (k v)) (hi : ∀ j, (𝒴 j).X.N[i]? = some x := by exact fun _ => rfl) (hx : ∀ j, Loc (𝒴 j).X.env.scope x := by first | exact fun _ => .inl rfl | exact fun _ => .inr rfl) (hs : ∀ j, swapsWith e (some (.Name x pos')) pos.line (𝒴 j).X.env = pure false := by exact fun _ => rfl) (hf : ∀ j, (𝒴 j).X.fn x = true ∨ (𝒴 j).X.env.scope.names.lookup x = some .local := by first | exact fun _ => .inl rfl | exact fun _ => .inr rfl)
    (hlt : i < C.N := by exact Nat.le_of_ble_eq_true rfl) (hO : C.O.lookup i = none := by rfl) (hX : C.X.lookup i = none := by rfl) : MS κ 𝒴 K E C (.Assign [.Name x pos'] e pos :: rest) Cn xr (bk κ oa k) :=
  MS.seq (fun j => qs_set i (hN j) (BE.q j) (hi j) (hx j) (hs j) (hf j)) fun n ev gF g S Kc hK en hE => h.run n ev gF g S _ hK.bind _ fun v n1 d gF1 g1 l1 S1 r1 k1 =>
    (hr v).run n1 _ gF1 g1 (S1.setF (x := .p (ea v)) r1 hlt hO hX) _ (good k1) en fun b n2 hb => (hE b n2 hb).keeps l1.lF
abbrev Ct.setO (C : Ct) (i : Nat) (x : OV) : Ct := { C with F := outF [i] C.F, O := (i, false, x) :: C.O }
theorem Sx1.set {C : Ct} {g0 : G} {n : Nat} {ev : Ev} {gF g : G} {x : OV} {d : D} (S : Sx1 C g0 n ev gF g x d) {i : Nat} (hi : i < C.N) (hO : C.O.lookup i = none) (hX : C.X.lookup i = none) : Sx (C.setO i x) n (ev.set i (some d)) gF g := by
  have other : ∀ j, j ≠ i → (ev.set i (some d))[j]? = ev[j]? := fun j h => List.getElem?_set_ne (Ne.symm h)
  obtain ⟨fp, f1, h1, h2, h3, h4⟩ := S.ow
  refine ⟨fun j y h => ?_, ⟨f1 ++ fp, .cons (List.getElem?_set_self (by rw [S.len]; exact hi)) h2 (fun a ha => ⟨(h4 a ha).1, .inl (h4 a ha).2.1⟩) (h1.env fun j y hm => other j fun e => ?_), h3⟩, fun j y h => ?_, S.bs, S.p, by rw [List.length_set]; exact S.len⟩
  · obtain ⟨h1, h2⟩ := lookup_outF h
    rw [other j fun e => h2 (by simp [e])]
    exact S.fr j y h1
  · subst e
    have := List.lookup_eq_none_iff.mp hO (j, y) hm
    simp at this
  · have e : j ≠ i := fun e => by
      subst e
      have h : C.X.lookup j = some y := h
      rw [hX] at h; cases h
    rw [other j e]
    exact S.ex j y h
theorem ms_setN (i : Nat) {ov : α → OV} {x : Str} {pos' : Pos} (hN : ∀ j, (𝒴 j).X.N.Nodup) (h : MN κ 𝒴 C e ov oa) (hr : ∀ v, MS κ 𝒴 K E (C.setO i (ov v)) rest Cn xr (k v)) (hi : ∀ j, (𝒴 j).X.N[i]? = some x := by exact fun _ => rfl) (hx : ∀ j, Loc (𝒴 j).X.env.scope x := by first | exact fun _ => .inl rfl | exact fun _ => .inr rfl) (hs : ∀ j, swapsWith e (some (.Name x pos')) pos.line (𝒴 j).X.env = pure false := by exact fun _ => rfl) (hf : ∀ j, (𝒴 j).X.fn x = true ∨ (𝒴 j).X.env.scope.names.lookup x = some .local := by first | exact fun _ => .inl rfl | exact fun _ => .inr rfl)
    (hlt : i < C.N := by exact Nat.le_of_ble_eq_true rfl) (hO : C.O.lookup i = none := by rfl) (hX : C.X.lookup i = none := by rfl) : MS κ 𝒴 K E C (.Assign [.Name x pos'] e pos :: rest) Cn xr (bk κ oa k) :=
  MS.seq (fun j => qs_set i (hN j) (BE.q j) (hi j) (hx j) (hs j) (hf j)) fun n ev gF g S Kc hK en hE => h.run n ev gF g S _ hK.bind _ fun v n1 d gF1 g1 l1 S1 k1 =>
    (hr v).run n1 _ gF1 g1 (S1.set hlt hO hX) _ (good k1) en fun b n2 hb => (hE b n2 hb).keeps l1.lF
/-- name = a comprehension -/
theorem ra_N {tl : TL'} {er : τ → List PyData} {ol : Mk κ τ} (h : RA κ C tl er ol) {n : Nat} {ev : Ev} {gF g : G} (S : Sx C n ev gF g) {Kc : τ → Pn → Prop} (hK : Good κ n ol Kc) (Q : DK) (hQ : ∀ v n' d gF' g', Ext [] gF g gF' g' n' → Sx1 C g n' ev gF' g' (lOV (er v)) d → (∀ p, p.n = n' → Kc v p) → Q d g') : tF tl ev g Q := (rn_F h).run n ev gF g S Kc hK Q hQ
section
variable {elt iter : Expr} {ifs : List Expr} {scope : Scope} {own : List (Str × Nat)} {ts : List Nat} {kb : Bool} {ec : γ → PyData} {oi : Mk κ (List α)} {ft : α → Mk κ Bool} {ff : α → Mk κ γ} {C' : α → Ct} {kl : List γ → Mk κ (Out σ ρ)}
theorem ms_setLcN (i : Nat) {x : Str} {py spos : Pos} (hc : ∀ i, (𝒴 i).X.calm = true) (hN : ∀ i, (𝒴 i).X.N.Nodup) (ok : ∀ i, BlkOk (𝒴 i).X.N (𝒴 i).X.env.scope scope own) (hi : MI κ 𝒴 C tg iter kb ea oi) (hg : MG kb (blkY 𝒴 scope) tg ts (fun _ : Unit => C.out (own.map (·.2))) ea (fun _ => C')) (ht : ∀ x, MTs κ (blkY 𝒴 scope) (C' x) ifs (ft x)) (hf : ∀ x, ME κ (blkY 𝒴 scope) (C' x) elt ec (ff x))
    (hr : ∀ v, MS κ 𝒴 K E (C.setO i (vL ec v)) rest Cn xr (kl v))
    (hsw : ∀ j, swapsWith (.ListComp elt [⟨tg, iter, ifs, 0⟩] scope pos) (some (.Name x py)) spos.line (𝒴 j).X.env = pure true := by exact fun _ => sw_true rfl rfl rfl (by decide +kernel)) (hts : ∀ i ∈ ts, i ∈ own.map (·.2) := by decide) (hy : ∀ j, (𝒴 j).X.N[i]? = some x := by exact fun _ => rfl) (hyl : ∀ j, (𝒴 j).X.env.scope.names.lookup x = some .local := by exact fun _ => rfl)
    (hs : ∀ j x, foldedSetIterable iter (𝒴 j).X.env x = pure x := by intro _ _; rfl)
    (hlt : i < C.N := by exact Nat.le_of_ble_eq_true rfl) (hO : C.O.lookup i = none := by rfl) (hX : C.X.lookup i = none := by rfl) : MS κ 𝒴 K E C (.Assign [.Name x py] (.ListComp elt [⟨tg, iter, ifs, 0⟩] scope pos) spos :: rest) Cn xr (bk κ (bk κ oi fun l => cM κ ft ff l) kl) := by
  obtain ⟨gd, h1, h2⟩ := hg.ex
  exact MS.seq (fun j => qs_setLc i (hc j) (hN j) (BI.q j) (ok j) (fun s H C cl fp => h1 (j, s, H, C, cl, fp)) (fun s H C cl fp => BTs.q (𝒴 := blkY 𝒴 scope) (j, s, H, C, cl, fp)) (fun s H C cl fp => BE.q (𝒴 := blkY 𝒴 scope) (j, s, H, C, cl, fp)) (hsw j) hts (hy j) (hyl j) (hs j)) fun n ev gF g S Kc hK en hE =>
    ra_N (comp_run hi (h2 ()) (fun x => (ht x).r) hf) S hK.bind _ fun v n1 d gF1 g1 l1 S1 k1 => (hr v).run n1 _ gF1 g1 (S1.set hlt hO hX) _ (good k1) en fun b n2 hb => (hE b n2 hb).keeps l1.lF
theorem ms_setLc (i : Nat) {x : Str} {py spos : Pos} (hc : ∀ i, (𝒴 i).X.calm = true) (hN : ∀ i, (𝒴 i).X.N.Nodup) (ok : ∀ i, BlkOk (𝒴 i).X.N (𝒴 i).X.env.scope scope own) (hi : MI κ 𝒴 C tg iter kb ea oi) (hg : MG kb (blkY 𝒴 scope) tg ts (fun _ : Unit => C.out (own.map (·.2))) ea (fun _ => C')) (ht : ∀ x, MTs κ (blkY 𝒴 scope) (C' x) ifs (ft x)) (hf : ∀ x, ME κ (blkY 𝒴 scope) (C' x) elt ec (ff x))
    (hr : ∀ v, MS κ 𝒴 K E (C.setF i (eL ec v)) rest Cn xr (kl v))
    (hsw : ∀ j, swapsWith (.ListComp elt [⟨tg, iter, ifs, 0⟩] scope pos) (some (.Name x py)) spos.line (𝒴 j).X.env = pure true := by exact fun _ => sw_true rfl rfl rfl (by decide +kernel)) (hts : ∀ i ∈ ts, i ∈ own.map (·.2) := by decide) (hy : ∀ j, (𝒴 j).X.N[i]? = some x := by exact fun _ => rfl) (hyl : ∀ j, (𝒴 j).X.env.scope.names.lookup x = some .local := by exact fun _ => rfl)
    (hs : ∀ j x, foldedSetIterable iter (𝒴 j).X.env x = pure x := by intro _ _; rfl)
    (hlt : i < C.N := by exact Nat.le_of_ble_eq_true rfl) (hO : C.O.lookup i = none := by rfl) (hX : C.X.lookup i = none := by rfl) : MS κ 𝒴 K E C (.Assign [.Name x py] (.ListComp elt [⟨tg, iter, ifs, 0⟩] scope pos) spos :: rest) Cn xr (bk κ (bk κ oi fun l => cM κ ft ff l) kl) := by
  obtain ⟨gd, h1, h2⟩ := hg.ex
  exact MS.seq (fun j => qs_setLc i (hc j) (hN j) (BI.q j) (ok j) (fun s H C cl fp => h1 (j, s, H, C, cl, fp)) (fun s H C cl fp => BTs.q (𝒴 := blkY 𝒴 scope) (j, s, H, C, cl, fp)) (fun s H C cl fp => BE.q (𝒴 := blkY 𝒴 scope) (j, s, H, C, cl, fp)) (hsw j) hts (hy j) (hyl j) (hs j)) fun n ev gF g S Kc hK en hE =>
    ra_N (comp_run hi (h2 ()) (fun x => (ht x).r) hf) S hK.bind _ fun v n1 d gF1 g1 l1 S1 k1 => by
      obtain ⟨gF2, l2, S2, r⟩ := S1.freeze l1
      exact (hr v).run n1 _ gF2 g1 (S2.setF (x := .p (eL ec v)) r hlt hO hX) _ (good k1) en fun b n2 hb => (hE b n2 hb).keeps l2.lF
theorem mts_nil : MTs κ 𝒴 C [] (pk κ true) := ⟨qts_nilB⟩
end
/-- a, b = x, y; a target of names -/
theorem ms_asg {ts : List Nat} {C' : α → Ct} (h : ME κ 𝒴 C e ea oa) (hg : MG false 𝒴 tg ts (fun _ : Unit => C) ea (fun _ => C')) (hr : ∀ v, MS κ 𝒴 K E (C' v) rest Cn xr (k v)) (hB : ∀ v, (C' v).B = C.B := by intro _; rfl) (hs : ∀ j, swapsWithSole [tg] e pos.line (𝒴 j).X.env = pure false := by exact fun _ => rfl) (hw : ∀ j, swappedStores [tg] e (𝒴 j).X.env = pure none := by exact fun _ => rfl)
    (h1 : ∀ j, (assignEach [tg] (𝒴 j).X.env).map (·.2) = [assign tg (𝒴 j).X.env] := by exact fun _ => rfl) : MS κ 𝒴 K E C (.Assign [tg] e pos :: rest) Cn xr (bk κ oa k) := by
  obtain ⟨gd, h2, h3⟩ := hg.ex
  exact MS.seq (fun j => qs_asg (BE.q j) (h2 j) (hs j) (hw j) (h1 j)) fun n ev gF g S Kc hK en hE => h.run n ev gF g S _ hK.bind _ fun v n1 d gF1 g1 l1 S1 r1 k1 =>
    h3 () v n1 ev gF1 g1 d S1 (.inl r1) _ fun ev' S2 => (hr v).run n1 ev' gF1 g1 S2 _ (good k1) en fun b n2 hb => by rw [hB]; exact (hE b n2 hb).keeps l1.lF
theorem ms_par (i j : Nat) {x y : Str} {px py pt : Pos} {kt k2 pt2} {ob : Mk κ β} {kk : α × β → Mk κ (Out σ ρ)} (hN : ∀ u, (𝒴 u).X.N.Nodup) (h : MA κ 𝒴 C [a, b] (fun v : α × β => [ea v.1, eb v.2]) (bk κ oa fun x => bk κ ob fun y => pk κ (x, y))) (hr : ∀ v : α × β, MS κ 𝒴 K E ((C.setF i (ea v.1)).setF j (eb v.2)) rest Cn xr (kk v)) (hc : ∀ u, (𝒴 u).X.calm = true := by exact fun _ => rfl)
    (hw : ∀ u, swappedStores [.Tuple [.Name x px, .Name y py] kt pt] (.Tuple [a, b] k2 pt2) (𝒴 u).X.env = pure (some [x, y]) := by exact fun _ => rfl) (hi : ∀ u, (𝒴 u).X.N[i]? = some x := by exact fun _ => rfl) (hj : ∀ u, (𝒴 u).X.N[j]? = some y := by exact fun _ => rfl) (hij : i ≠ j := by decide)
    (hx : ∀ u, (𝒴 u).X.env.scope.names.lookup x = some .local := by exact fun _ => rfl) (hy : ∀ u, (𝒴 u).X.env.scope.names.lookup y = some .local := by exact fun _ => rfl)
    (hs : ∀ u, swapsWithSole [.Tuple [.Name x px, .Name y py] kt pt] (.Tuple [a, b] k2 pt2) pos.line (𝒴 u).X.env = pure false := by exact fun _ => rfl)
    (h1 : i < C.N := by exact Nat.le_of_ble_eq_true rfl) (h2 : j < C.N := by exact Nat.le_of_ble_eq_true rfl) (hO : C.O.lookup i = none := by rfl) (hX : C.X.lookup i = none := by rfl) (hO2 : C.O.lookup j = none := by rfl) (hX2 : C.X.lookup j = none := by rfl) :
    MS κ 𝒴 K E C (.Assign [.Tuple [.Name x px, .Name y py] kt pt] (.Tuple [a, b] k2 pt2) pos :: rest) Cn xr (bk κ (bk κ oa fun x => bk κ ob fun y => pk κ (x, y)) kk) :=
  MS.seq (fun u => qs_par i j (hc u) (hN u) (BA.q u) (hw u) (hi u) (hj u) hij (hx u) (hy u) (hs u)) fun n ev gF g S Kc hK en hE => h.run n ev gF g S _ hK.bind _ fun v n1 ds gF1 g1 l1 S1 r1 k1 => by
    cases r1 with
    | cons r1 r2 => cases r2 with
      | cons r2 r3 =>
        cases r3
        exact ⟨_, _, rfl, (hr v).run n1 _ gF1 g1 ((S1.setF (x := .p (ea v.1)) r1 h1 hO hX).setF (x := .p (eb v.2)) r2 h2 hO2 hX2) _ (good k1) en fun b n2 hb => (hE b n2 hb).keeps l1.lF⟩
theorem ms_expr (h : ME κ 𝒴 C e ea oa) (hr : ∀ v, MS κ 𝒴 K E C rest Cn xr (k v)) (hs : ∀ j, swapsWith e none pos.line (𝒴 j).X.env = pure false := by exact fun _ => rfl) : MS κ 𝒴 K E C (.Expr e pos :: rest) Cn xr (bk κ oa k) :=
  MS.seq (fun j => qs_expr (BE.q j) (hs j)) fun n ev gF g S Kc hK en hE => h.run n ev gF g S _ hK.bind _ fun v n1 d gF1 g1 l1 S1 r1 k1 => (hr v).run n1 _ gF1 g1 S1 _ (good k1) en fun b n2 hb => (hE b n2 hb).keeps l1.lF
/-- return -/
theorem ms_ret (f : α → ρ) (hx : ∀ v, xr (f v) = .val (ea v)) (h : ME κ 𝒴 C e ea oa) : MS κ 𝒴 K E C [.Return (some e) pos] Cn xr (bk κ oa fun v => pk κ (.rt (f v))) :=
  ⟨fun n ev gF g S Kc hK en hE => ⟨_, fun i => qs_one (qs_ret (BE.q i)), h.run n ev gF g S _ hK.bind _ fun v n1 d gF1 g1 l1 S1 r1 k1 => by
    have z : Exit K E C.B en (xr (f v)) n1 := hE (.rt (f v)) n1 (pkg k1)
    rw [hx] at z
    exact z d gF1 g1 S1.bs r1⟩⟩
theorem ms_retN (r : ρ) (hx : xr r = .val .none) : MS κ 𝒴 K E C [.Return none pos] Cn xr (pk κ (.rt r)) :=
  ⟨fun n ev gF g S Kc hK en hE => ⟨_, fun i => qs_one qs_retN, by
    have z : Exit K E C.B en (xr r) n := hE (.rt r) n hK.pk
    rw [hx] at z
    exact z _ gF g S.bs .non⟩⟩
/-- .. a new list -/
theorem ms_retNew {er : τ → List PyData} {ol : Mk κ τ} (f : τ → ρ) (hx : ∀ v, xr (f v) = .new (er v)) (h : MN κ 𝒴 C e (fun v => lOV (er v)) ol) : MS κ 𝒴 K E C [.Return (some e) pos] Cn xr (bk κ ol fun v => pk κ (.rt (f v))) :=
  ⟨fun n ev gF g S Kc hK en hE => ⟨_, fun i => qs_one (qs_ret (BE.q i)), h.run n ev gF g S _ hK.bind _ fun v n1 d gF1 g1 l1 S1 k1 => by
    have z : Exit K E C.B en (xr (f v)) n1 := hE (.rt (f v)) n1 (pkg k1)
    rw [hx] at z
    obtain ⟨fp, f1, h1, h2, h3, h4⟩ := S1.ow
    cases h2 with
    | l h5 h6 =>
      obtain ⟨r, rfl⟩ := owL_to h6
      have q := h4 _ (List.mem_cons_self ..)
      exact z _ _ gF1 g1 S1.bs q.1 q.2.1 h5 r⟩⟩
/-- raise X('m') -/
theorem ms_raise {x : Str} {m : Str} {j : Nat} (r : ρ) (hx : xr r = .err x) (hc : ∀ i, (𝒴 i).X.calm = true := by exact fun _ => rfl) (tk : ∀ i, TkD (𝒴 i) E) (c : ∀ i, ExcC (𝒴 i).X.K (𝒴 i).X.mg x (He.ga K x)) (hg : ∀ i, Gl (𝒴 i).X x := by exact fun _ => rfl) (hdb : (x == ("__debug__" : Str)) = false := by decide) :
    MS κ 𝒴 K E C [.Raise (some (.Call (.Name x p1) [.Constant (.str m) j p2] [] p3)) none pos] Cn xr (pk κ (.rt r)) :=
  ⟨fun n ev gF g S Kc hK en hE => ⟨_, fun i => qs_one (q_raise (hc i) (tk i) (c i) (hg i) hdb), by
    have z : Exit K E C.B en (xr r) n := hE (.rt r) n hK.pk
    rw [hx] at z
    exact z ev gF g S.bs⟩⟩
/-- if -/
theorem ms_if {Cm : σ' → Ct} {oc : Mk κ Bool} {A B : List Stmt} {oA oB : Mk κ (Out σ' ρ)} {km : σ' → Mk κ (Out σ ρ)} (hc : MT κ 𝒴 C c oc) (hA : MS κ 𝒴 K E C A Cm xr oA) (hB : MS κ 𝒴 K E C B Cm xr oB) (hr : ∀ s, MS κ 𝒴 K E (Cm s) rest Cn xr (km s)) (hCB : ∀ s, (Cm s).B = C.B := by intro _; rfl) :
    MS κ 𝒴 K E C (.If c A B pos :: rest) Cn xr (bk κ oc fun x => ob κ (if x = true then oA else oB) km) :=
  MS.seq (fun i => qs_if (BT.q i) (BSs.q i) (BSs.q i)) fun n ev gF g S Kc hK en hE => hc.run n ev gF g S _ hK.bind _ fun x n1 gF1 g1 l1 S1 k1 => by
    have fin : ∀ {D : List Stmt} {oD : Mk κ (Out σ' ρ)}, MS κ 𝒴 K E C D Cm xr oD → (∀ p, p.n = n1 → Gd κ (ob κ oD km) p Kc) → BSs 𝒴 D { en with nx := BSs 𝒴 rest en } ev g1 := fun {D oD} hD kD => by
      refine hD.run n1 ev gF1 g1 S1 _ (bkg kD) _ fun b n2 hb => ?_
      cases b with
      | nx s => exact fun ev' gF2 g2 l2 S2 => (hr s).run n2 ev' gF2 g2 S2 _ (good hb) en fun b n3 h3 => by rw [hCB]; exact (hE b n3 h3).keeps (Keeps.trans l1.lF l2)
      | rt r =>
        have z : Exit K E C.B en (xr r) n2 := hE (.rt r) n2 (pkg hb)
        show Exit K E C.B { en with nx := BSs 𝒴 rest en } (xr r) n2
        generalize xr r = v at z
        cases v <;> exact z
    cases x with
    | true => exact fin hA k1
    | false => exact fin hB k1
theorem ms_ifl {oc : Mk κ Bool} {A B : List Stmt} {oA oB : Mk κ (Out σ ρ)} (hc : MT κ 𝒴 C c oc) (hA : MS κ 𝒴 K E C A Cn xr oA) (hB : MS κ 𝒴 K E C B Cn xr oB) : MS κ 𝒴 K E C [.If c A B pos] Cn xr (bk κ oc fun x => if x = true then oA else oB) :=
  ⟨fun n ev gF g S Kc hK en hE => ⟨_, fun i => qs_one (qs_if (BT.q i) (BSs.q i) (BSs.q i)), hc.run n ev gF g S _ hK.bind _ fun x n1 gF1 g1 l1 S1 k1 => by
    cases x with
    | true => exact hA.run n1 ev gF1 g1 S1 _ (good k1) en fun b n3 h3 => (hE b n3 h3).keeps l1.lF
    | false => exact hB.run n1 ev gF1 g1 S1 _ (good k1) en fun b n3 h3 => (hE b n3 h3).keeps l1.lF⟩⟩
end
end SK
end
section
set_option maxHeartbeats 4000000
namespace SK
open PySem PySem.Spec PyProof.Rows L2

/-! ### loops -/
def forM (κ : Bool) {α σ ρ : Type} (f : α → σ → Mk κ (Out σ ρ)) : List α → σ → Mk κ (Out σ ρ)
  | [], s => pk κ (.nx s)
  | x :: l, s => ob κ (f x s) fun s' => forM κ f l s'
def whileM (κ : Bool) {σ ρ : Type} (c : σ → Mk κ Bool) (f : σ → Mk κ (Out σ ρ)) : Nat → σ → Mk κ (Out σ ρ)
  | 0, _ => lk κ none
  | n + 1, s => bk κ (c s) fun b => if b = true then ob κ (f s) fun s' => whileM κ c f n s' else pk κ (.nx s)
section
variable {ι : Type} {𝒴 : ι → Yx} {κ : Bool} {K : PySem.W.Frag} {E : ExE} {C : Ct} {σ σ' ρ : Type} {Cn : σ → Ct} {xr : ρ → RetV} {o : Mk κ (Out σ ρ)} {st : Stmt} {rest : List Stmt} {e a b c tg iter : Expr} {α β γ τ : Type} {ea : α → PyData} {eb : β → PyData} {oa : Mk κ α} {pos p1 p2 p3 p4 : Pos} {k : α → Mk κ (Out σ ρ)}
theorem exit_en {B : Bs} {en : En} {v : RetV} {n : Nat} (f : Ev → G → Prop) (f2 : Ev → G → Prop) (f3 : Ev → G → Prop) (h : Exit K E B en v n) : Exit K E B { en with nx := f, ct := f2, bk := f3 } v n := by
  cases v <;> exact h
/-- for -/
theorem ms_for {kb : Bool} {Cl : σ' → Ct} {ts : List Nat} {C' : σ' → α → Ct} {oi : Mk κ (List α)} {body : List Stmt} {f : α → σ' → Mk κ (Out σ' ρ)} {km : σ' → Mk κ (Out σ ρ)} (s0 : σ') (hp : ∀ i, PassesOwn (model (𝒴 i).X.prog (𝒴 i).X.w) (𝒴 i).X.A (𝒴 i).X.env (𝒴 i).X.xe)
    (hi : MI κ 𝒴 C tg iter kb ea oi) (hg : MG kb 𝒴 tg ts Cl ea C') (h0 : Sub (Cl s0) C) (hb : ∀ x s, MS κ 𝒴 K E (C' s x) body Cl xr (f x s)) (hr : ∀ s, MS κ 𝒴 K E (Cl s) rest Cn xr (km s))
    (hB : ∀ s, (Cl s).B = C.B := by intro _; rfl) (hB' : ∀ s x, (C' s x).B = C.B := by intro _ _; rfl) (hc : ∀ i, (𝒴 i).X.calm = true := by exact fun _ => rfl) (hs : ∀ i x, foldedSetIterable iter (𝒴 i).X.env x = pure x := by intro _ _; rfl) :
    MS κ 𝒴 K E C (.For tg iter body [] pos :: rest) Cn xr (bk κ oi fun l => ob κ (forM κ f l s0) km) := by
  obtain ⟨gd, h1, h2⟩ := hg.ex
  refine MS.seq (fun i => qs_for (hp i) (hc i) (BI.q i) (h1 i) (BSs.q i) (hs i)) fun n ev gF g S Kc hK en hE => hi.run n ev gF g S _ hK.bind _ fun l n1 Sr gF1 g1 l1 S1 al ok hz k1 => ?_
  have main : ∀ (l : List α) (ds : List D) (s : σ') (n2 : Nat) (ev2 : Ev) (gF2 g2 : G), Keeps gF1 gF2 → Sx (Cl s) n2 ev2 gF2 g2 → All2 (fun d x => PK kb gF1 d (ea x)) ds l → (∀ p, p.n = n2 → Gd κ (ob κ (forM κ f l s) km) p Kc) → loopD Sr.ok gd (BSs 𝒴 body) { en with nx := BSs 𝒴 rest en } ds ev2 g2 := by
    intro l
    induction l with
    | nil =>
      intro ds s n2 ev2 gF2 g2 k12 S2 al k2
      cases al
      have k2' : ∀ p, p.n = n2 → Gd κ (km s) p Kc := fun p hp => by
        have := k2 p hp
        unfold ob at this
        rw [forM, bk_pk] at this
        exact this
      exact (hr s).run n2 ev2 gF2 g2 S2 _ (good k2') en fun b n3 h3 => by rw [hB]; exact (hE b n3 h3).keeps (Keeps.trans l1.lF k12)
    | cons x l ih =>
      intro ds s n2 ev2 gF2 g2 k12 S2 al k2
      cases al with
      | cons r0 al =>
        refine h2 s x n2 ev2 gF2 g2 _ S2 (r0.leo k12) _ fun ev3 S3 => ?_
        have k2' : Good κ n2 (f x s) fun b p => Gd κ (ob κ (obf κ (fun s' => forM κ f l s') b) km) p Kc := fun p hp => by
          have h := k2 p hp
          rw [forM] at h
          exact (Gd.bind (show Gd κ (bk κ (bk κ (f x s) (obf κ fun s' => forM κ f l s')) (obf κ km)) p Kc from h)).bind.imp fun b p hb => Gd.to_bind hb
        refine (hb x s).run n2 ev3 gF2 g2 S3 _ k2' _ fun b n3 h3 => ?_
        cases b with
        | nx s' =>
          intro ev4 gF4 g4 k4 S4
          exact ⟨ok _ (Keeps.trans (Keeps.trans k12 k4) S4.lg), ih _ s' n3 ev4 gF4 g4 (Keeps.trans k12 k4) S4 al h3⟩
        | rt r =>
          show Exit K E (C' s x).B _ (xr r) n3
          rw [hB']
          refine exit_en _ _ _ (hE (.rt r) n3 fun p hp => ?_)
          have h := h3 p hp
          unfold ob at h
          rw [show obf κ (fun s' => forM κ f l s') (Out.rt r) = pk κ (.rt r) from rfl, bk_pk] at h
          exact pkg (κ := κ) (n := n3) (v := Out.rt r) (K := Kc) (fun p hp => by
            have h := h3 p hp
            unfold ob at h
            rw [show obf κ (fun s' => forM κ f l s') (Out.rt r) = pk κ (.rt r) from rfl, bk_pk] at h
            exact h) p hp
  exact main l Sr.ds s0 n1 ev gF1 g1 Keeps.refl (S1.sub h0) al k1
/-- while -/
theorem ms_while {Cl : σ' → Ct} {body : List Stmt} {f : σ' → Mk κ (Out σ' ρ)} {oc : σ' → Mk κ Bool} {km : σ' → Mk κ (Out σ ρ)} (N : Nat) (s0 : σ') (hp : ∀ i, PassesOwn (model (𝒴 i).X.prog (𝒴 i).X.w) (𝒴 i).X.A (𝒴 i).X.env (𝒴 i).X.xe)
    (h0 : Sub (Cl s0) C) (ht : ∀ s, MT κ 𝒴 (Cl s) c (oc s)) (hb : ∀ s, MS κ 𝒴 K E (Cl s) body Cl xr (f s)) (hr : ∀ s, MS κ 𝒴 K E (Cl s) rest Cn xr (km s)) (hB : ∀ s, (Cl s).B = C.B := by intro _; rfl) :
    MS κ 𝒴 K E C (.While c body [] pos :: rest) Cn xr (ob κ (whileM κ oc f N s0) km) := by
  refine MS.seq (fun i => qs_while (hp i) (BT.q i) (BSs.q i)) fun n ev gF g S Kc hK en hE => ?_
  refine ⟨fun m ev2 g2 => ∃ s n2 gF2, Keeps gF gF2 ∧ Sx (Cl s) n2 ev2 gF2 g2 ∧ ∀ p : Pn, p.n = n2 → Gd κ (ob κ (whileM κ oc f m s) km) p Kc, ⟨N, s0, n, gF, Keeps.refl, S.sub h0, hK⟩, ?_⟩
  rintro m ev2 g2 ⟨s, n2, gF2, kp, S2, k2⟩
  cases m with
  | zero =>
    refine False.elim ?_
    have := (Good.bind (κ := κ) (n := n2) (K := Kc) k2) (pn0 n2) rfl
    unfold whileM at this
    cases κ with
    | false => obtain ⟨v, e, _⟩ := this; cases e
    | true => obtain ⟨v, p', e, _⟩ := this; cases e
  | succ m =>
    have k2' : Good κ n2 (oc s) fun b p => Gd κ (ob κ (if b = true then ob κ (f s) fun s' => whileM κ oc f m s' else pk κ (.nx s)) km) p Kc := fun p hp => by
      have h := k2 p hp
      rw [whileM] at h
      exact (Gd.bind (show Gd κ (bk κ (bk κ (oc s) _) (obf κ km)) p Kc from h)).bind.imp fun b p hb => Gd.to_bind hb
    refine (ht s).run n2 ev2 gF2 g2 S2 _ k2' _ fun b n3 gF3 g3 l3 S3 k3 => ?_
    cases b with
    | false =>
      have k4 : ∀ p, p.n = n3 → Gd κ (km s) p Kc := fun p hp => by
        have h := k3 p hp
        unfold ob at h
        rw [if_neg Bool.false_ne_true, bk_pk] at h
        exact h
      exact (hr s).run n3 ev2 gF3 g3 S3 _ (good k4) en fun b n4 h4 => by rw [hB]; exact (hE b n4 h4).keeps (Keeps.trans kp l3.lF)
    | true =>
      have k4 : Good κ n3 (f s) fun b p => Gd κ (ob κ (obf κ (fun s' => whileM κ oc f m s') b) km) p Kc := fun p hp => by
        have h := k3 p hp
        rw [if_pos rfl] at h
        exact (Gd.bind (show Gd κ (bk κ (bk κ (f s) (obf κ fun s' => whileM κ oc f m s')) (obf κ km)) p Kc from h)).bind.imp fun b p hb => Gd.to_bind hb
      refine (hb s).run n3 ev2 gF3 g3 S3 _ k4 _ fun b n4 h4 => ?_
      cases b with
      | nx s' =>
        intro ev5 gF5 g5 k5 S5
        exact ⟨m, Nat.lt_succ_self m, s', n4, gF5, Keeps.trans kp (Keeps.trans l3.lF k5), S5, h4⟩
      | rt r =>
        show Exit K E (Cl s).B _ (xr r) n4
        rw [hB]
        refine exit_en _ _ _ (hE (.rt r) n4 (pkg (κ := κ) (n := n4) (v := Out.rt r) (K := Kc) fun p hp => ?_))
        have h := h4 p hp
        unfold ob at h
        rw [show obf κ (fun s' => whileM κ oc f m s') (Out.rt r) = pk κ (.rt r) from rfl, bk_pk] at h
        exact h
end

/-! ### owned lists are written -/
def updL (i : Nat) (x : OV) : List (Nat × Bool × OV) → List (Nat × Bool × OV)
  | [] => []
  | (j, fl, y) :: r => if j = i then (j, fl, x) :: r else (j, fl, y) :: updL i x r
abbrev Ct.updO (C : Ct) (i : Nat) (x : OV) : Ct := { C with O := updL i x C.O }
theorem OwE.list {B : Bs} {gF g : G} {ev : Ev} {O : List (Nat × Bool × OV)} {fp : List Addr} (h : OwE B gF g ev O fp) (nd : fp.Nodup) {i : Nat} {fl : Bool} {ps : List PyData} (hi : O.lookup i = some (fl, lOV ps)) : ∃ a ds, ev[i]? = some (some (.v (.ref a))) ∧ g.o a = some (.lst ds) ∧ PFL gF ds ps ∧ a ∈ fp ∧ (B.g.o a = none ∨ a ∈ B.M) ∧
    ∀ ds' ps', PFL gF ds' ps' → OwE B gF (g.put a (.lst ds')) ev (updL i (lOV ps') O) fp := by
  induction h with
  | nil => cases hi
  | @cons j fl' x O d f1 f2 h1 h2 hc h3 ih =>
    rw [List.lookup_cons] at hi
    obtain ⟨nd1, nd2, dj⟩ := List.nodup_append.mp nd
    split at hi
    · rename_i hb
      have e : i = j := by simpa using hb
      subst e
      cases hi
      cases h2 with
      | @l a ds xs f5 h5 h6 =>
        obtain ⟨r, rfl⟩ := owL_to h6
        refine ⟨a, ds, h1, h5, r, by simp, (hc a (by simp)).2.imp id (·.2), fun ds' ps' r' => ?_⟩
        unfold updL
        rw [if_pos rfl]
        exact .cons h1 (.l G.put_same (owL_of r')) hc (h3.keep Keeps.refl fun b hb => ⟨fun m e => (G.put_ne (fun z => dj a (by simp) b hb z.symm)).trans e, fun e _ => e⟩)
    · rename_i hb
      obtain ⟨a, ds, e1, e2, e3, e4, e6, e5⟩ := ih nd2 hi
      have ne : j ≠ i := fun e => by subst e; simp at hb
      refine ⟨a, ds, e1, e2, e3, by simp [e4], e6, fun ds' ps' r' => ?_⟩
      unfold updL
      rw [if_neg ne]
      exact .cons h1 (Ow.keep Keeps.refl _ (fun b hb m e => (G.put_ne (fun z => dj b hb a e4 z)).trans e) h2) hc (e5 ds' ps' r')
theorem Sx.list {C : Ct} {n : Nat} {ev : Ev} {gF g : G} (S : Sx C n ev gF g) {i : Nat} {fl : Bool} {ps : List PyData} (hi : C.O.lookup i = some (fl, lOV ps)) : ∃ a ds, ev[i]? = some (some (.v (.ref a))) ∧ g.o a = some (.lst ds) ∧ PFL gF ds ps ∧ gF.o a = none ∧
    ∀ ds' ps', PFL gF ds' ps' → Sx (C.updO i (lOV ps')) n ev gF (g.put a (.lst ds')) := by
  obtain ⟨fp, h1, h2⟩ := S.ow
  obtain ⟨a, ds, e1, e2, e3, e4, e6, e5⟩ := h1.list h2 hi
  have ha := h1.out a e4
  refine ⟨a, ds, e1, e2, e3, ha, fun ds' ps' r => ⟨S.fr, ⟨fp, e5 ds' ps' r, h2⟩, S.ex, ⟨S.bs.lF, fun b m e => ?_, fun b m e hM => ?_, fun b e => ?_, S.bs.disj, S.bs.p, S.bs.n, S.bs.s⟩, S.p, S.len⟩⟩
  · exact (G.put_ne (fun z => by rw [z, ha] at e; cases e)).trans (S.bs.lg b m e)
  · refine (G.put_ne fun z => ?_).trans (S.bs.keep b m e hM)
    subst z
    rcases e6 with q | q
    · rw [q] at e; cases e
    · exact hM q
  · by_cases hb : b = a
    · rw [hb, G.put_same]; simp
    · rw [G.put_ne hb]; exact S.bs.there b e
section
variable {ι : Type} {𝒴 : ι → Yx} {κ : Bool} {K : PySem.W.Frag} {E : ExE} {C : Ct} {σ σ' ρ : Type} {Cn : σ → Ct} {xr : ρ → RetV} {o : Mk κ (Out σ ρ)} {st : Stmt} {rest : List Stmt} {e a b c tg iter : Expr} {α β γ τ : Type} {ea : α → PyData} {eb : β → PyData} {oa : Mk κ α} {oi : Mk κ Int} {pos p1 p2 p3 p4 cpos apos : Pos} {kl : List α → Mk κ (Out σ ρ)} {l : List α} {fl : Bool} {x : Str}
def oApp {α : Type} (l : List α) (x : α) : Option (List α) := if l.length < 1000000 then some (l ++ [x]) else none
/-- x.append(e) -/
theorem ms_append (i : Nat) (h : ME κ 𝒴 C e ea oa) (hr : ∀ l', MS κ 𝒴 K E (C.updO i (vL ea l')) rest Cn xr (kl l')) (hi : C.O.lookup i = some (fl, vL ea l) := by rfl) (hN : ∀ j, (𝒴 j).X.N[i]? = some x := by exact fun _ => rfl) (hv : ∀ j, Vis (𝒴 j).X.env.scope x := by first | exact fun _ => Or.inl rfl | exact fun _ => Or.inr (Or.inl rfl) | exact fun _ => Or.inr (Or.inr rfl))
    (hd : (x == ("__debug__" : Str)) = false := by decide) (hcd : (x == ("__classdict__" : Str)) = false := by decide)
    (hs0 : ∀ j, swapsWith (.Call (.Attribute (.Name x p1) "append" apos) [e] [] cpos) none pos.line (𝒴 j).X.env = pure false := by exact fun _ => rfl)
    (hbase : ∀ j, attributeBase (.Name x p1) "append" (𝒴 j).X.env (eval (.Name x p1) (𝒴 j).X.env) = eval (.Name x p1) (𝒴 j).X.env := by exact fun _ => rfl)
    (hfew : ∀ j, ((backTo cpos (starEach [e] (𝒴 j).X.env)).all (fun x => !x.1) && (backToKw cpos (keywordEach [] (𝒴 j).X.env)).all (fun x => x.1.isSome) && decide ([e].length + ([] : List Keyword).length + (if ([] : List Keyword).isEmpty then 0 else 1) < 30)) = true := by exact fun _ => rfl)
    (hline : (apos.endLine == cpos.line) = true := by rfl) (hs : ∀ j, starEach [e] (𝒴 j).X.env = (false, eval e (𝒴 j).X.env) :: starEach [] (𝒴 j).X.env := by exact fun _ => rfl) (hplain : ∀ j, (backTo cpos (starEach [] (𝒴 j).X.env)).any (·.1) = false := by exact fun _ => rfl) :
    MS κ 𝒴 K E C (.Expr (.Call (.Attribute (.Name x p1) "append" apos) [e] [] cpos) pos :: rest) Cn xr (bk κ oa fun v => bk κ (lk κ (oApp l v)) kl) :=
  MS.seq (fun j => qs_expr (q_bm PySem.F.plainAttrs_list PySem.F.slot_list_append PySem.F.type_list_append m_app (qv i (hN j) (hv j) hd hcd) (qa_cons (BE.q j) qa_nil (hs j)) (hbase j) (hfew j) hline (hs j) (hplain j)) (hs0 j)) fun n ev gF g S Kc hK en hE => by
    obtain ⟨a, ds, e1, e2, e3, _, _⟩ := S.list hi
    refine ⟨_, e1, .lst e2, h.run n ev gF g S _ hK.bind _ fun v n1 d gF1 g1 l1 S1 r1 k1 => ?_⟩
    obtain ⟨a', ds', f1, f2, f3, f4, f5⟩ := S1.list hi
    rw [e1] at f1; cases f1
    obtain ⟨z, ez, kz⟩ := lkg (bkg k1)
    unfold oApp at ez
    split at ez <;> cases ez
    rename_i hz
    have el := f3.length
    rw [List.length_map] at el
    refine ⟨ds', f2, by rw [el]; exact small_lt (by omega), (hr _).run n1 ev gF1 _ (f5 (ds' ++ [d]) ((l ++ [v]).map ea) ?_) _ (good kz) en fun b n2 hb => (hE b n2 hb).keeps l1.lF⟩
    rw [List.map_append]
    exact f3.append (.cons r1 .nil)
/-- x.extend(e) -/
theorem ms_extend (i : Nat) {oa : Mk κ (List α)} (h : ME κ 𝒴 C e (eL ea) oa) (hr : ∀ l', MS κ 𝒴 K E (C.updO i (vL ea l')) rest Cn xr (kl l')) (hi : C.O.lookup i = some (fl, vL ea l) := by rfl) (hN : ∀ j, (𝒴 j).X.N[i]? = some x := by exact fun _ => rfl) (hv : ∀ j, Vis (𝒴 j).X.env.scope x := by first | exact fun _ => Or.inl rfl | exact fun _ => Or.inr (Or.inl rfl) | exact fun _ => Or.inr (Or.inr rfl))
    (hd : (x == ("__debug__" : Str)) = false := by decide) (hcd : (x == ("__classdict__" : Str)) = false := by decide)
    (hs0 : ∀ j, swapsWith (.Call (.Attribute (.Name x p1) "extend" apos) [e] [] cpos) none pos.line (𝒴 j).X.env = pure false := by exact fun _ => rfl)
    (hbase : ∀ j, attributeBase (.Name x p1) "extend" (𝒴 j).X.env (eval (.Name x p1) (𝒴 j).X.env) = eval (.Name x p1) (𝒴 j).X.env := by exact fun _ => rfl)
    (hfew : ∀ j, ((backTo cpos (starEach [e] (𝒴 j).X.env)).all (fun x => !x.1) && (backToKw cpos (keywordEach [] (𝒴 j).X.env)).all (fun x => x.1.isSome) && decide ([e].length + ([] : List Keyword).length + (if ([] : List Keyword).isEmpty then 0 else 1) < 30)) = true := by exact fun _ => rfl)
    (hline : (apos.endLine == cpos.line) = true := by rfl) (hs : ∀ j, starEach [e] (𝒴 j).X.env = (false, eval e (𝒴 j).X.env) :: starEach [] (𝒴 j).X.env := by exact fun _ => rfl) (hplain : ∀ j, (backTo cpos (starEach [] (𝒴 j).X.env)).any (·.1) = false := by exact fun _ => rfl) :
    MS κ 𝒴 K E C (.Expr (.Call (.Attribute (.Name x p1) "extend" apos) [e] [] cpos) pos :: rest) Cn xr (bk κ oa fun v => bk κ (lk κ (oCat l v)) kl) :=
  MS.seq (fun j => qs_expr (q_bm PySem.F.plainAttrs_list PySem.F.slot_list_extend PySem.F.type_list_extend m_ext (qv i (hN j) (hv j) hd hcd) (qa_cons (BE.q j) qa_nil (hs j)) (hbase j) (hfew j) hline (hs j) (hplain j)) (hs0 j)) fun n ev gF g S Kc hK en hE => by
    obtain ⟨a, ds, e1, e2, e3, _, _⟩ := S.list hi
    refine ⟨_, e1, .lst e2, h.run n ev gF g S _ hK.bind _ fun v n1 d gF1 g1 l1 S1 r1 k1 => ?_⟩
    obtain ⟨a', ds', f1, f2, f3, f4, f5⟩ := S1.list hi
    rw [e1] at f1; cases f1
    obtain ⟨z, ez, kz⟩ := lkg (bkg k1)
    obtain ⟨rfl, hz⟩ := oCat_some ez
    have el := f3.length
    rw [List.length_map] at el
    obtain ⟨q, es, rfl, hq, hl⟩ := PX.list r1
    have el2 := hl.length
    rw [List.length_map] at el2
    refine ⟨ds', es, f2, S1.lg _ _ hq, by rw [el, el2]; exact small hz, (hr _).run n1 ev gF1 _ (f5 (ds' ++ es) ((l ++ v).map ea) ?_) _ (good kz) en fun b n2 hb => (hE b n2 hb).keeps l1.lF⟩
    rw [List.map_append]
    exact f3.append hl
def oIns {α : Type} (l : List α) (i : Int) (x : α) : Option (List α) := if l.length < 1000000 ∧ 0 ≤ i ∧ i < 2 ^ 63 then some (l.take i.toNat ++ [x] ++ l.drop i.toNat) else none
theorem ms_insert (i : Nat) {e1 : Expr} (h : MA κ 𝒴 C [e1, e] (fun v : Int × α => [eI v.1, ea v.2]) (bk κ oi fun x => bk κ oa fun r => pk κ (x, r))) (hr : ∀ l', MS κ 𝒴 K E (C.updO i (vL ea l')) rest Cn xr (kl l')) (hi : C.O.lookup i = some (fl, vL ea l) := by rfl) (hN : ∀ j, (𝒴 j).X.N[i]? = some x := by exact fun _ => rfl) (hv : ∀ j, Vis (𝒴 j).X.env.scope x := by first | exact fun _ => Or.inl rfl | exact fun _ => Or.inr (Or.inl rfl) | exact fun _ => Or.inr (Or.inr rfl))
    (hd : (x == ("__debug__" : Str)) = false := by decide) (hcd : (x == ("__classdict__" : Str)) = false := by decide)
    (hs0 : ∀ j, swapsWith (.Call (.Attribute (.Name x p1) "insert" apos) [e1, e] [] cpos) none pos.line (𝒴 j).X.env = pure false := by exact fun _ => rfl)
    (hbase : ∀ j, attributeBase (.Name x p1) "insert" (𝒴 j).X.env (eval (.Name x p1) (𝒴 j).X.env) = eval (.Name x p1) (𝒴 j).X.env := by exact fun _ => rfl)
    (hfew : ∀ j, ((backTo cpos (starEach [e1, e] (𝒴 j).X.env)).all (fun x => !x.1) && (backToKw cpos (keywordEach [] (𝒴 j).X.env)).all (fun x => x.1.isSome) && decide ([e1, e].length + ([] : List Keyword).length + (if ([] : List Keyword).isEmpty then 0 else 1) < 30)) = true := by exact fun _ => rfl)
    (hline : (apos.endLine == cpos.line) = true := by rfl) (hs : ∀ j, starEach [e1, e] (𝒴 j).X.env = (false, eval e1 (𝒴 j).X.env) :: starEach [e] (𝒴 j).X.env := by exact fun _ => rfl) (hplain : ∀ j, (backTo cpos (starEach [e] (𝒴 j).X.env)).any (·.1) = false := by exact fun _ => rfl) :
    MS κ 𝒴 K E C (.Expr (.Call (.Attribute (.Name x p1) "insert" apos) [e1, e] [] cpos) pos :: rest) Cn xr (bk κ (bk κ oi fun x => bk κ oa fun r => pk κ (x, r)) fun v => bk κ (lk κ (oIns l v.1 v.2)) kl) :=
  MS.seq (fun j => qs_expr (q_bm PySem.F.plainAttrs_list PySem.F.slot_list_insert PySem.F.type_list_insert m_ins (qv i (hN j) (hv j) hd hcd) (BA.q j) (hbase j) (hfew j) hline (hs j) (hplain j)) (hs0 j)) fun n ev gF g S Kc hK en hE => by
    obtain ⟨a, ds, e1, e2, e3, _, _⟩ := S.list hi
    refine ⟨_, e1, .lst e2, h.run n ev gF g S _ hK.bind _ fun v n1 es gF1 g1 l1 S1 r1 k1 => ?_⟩
    obtain ⟨a', ds', f1, f2, f3, f4, f5⟩ := S1.list hi
    rw [e1] at f1; cases f1
    obtain ⟨z, ez, kz⟩ := lkg (bkg k1)
    unfold oIns at ez
    split at ez <;> cases ez
    rename_i hz
    have el := f3.length
    rw [List.length_map] at el
    cases r1 with
    | cons r1 r2 => cases r2 with
      | cons r2 r3 =>
        cases r3
        cases r1
        refine ⟨ds', f2, by rw [el]; exact small_lt (by omega), hz.2.1, hz.2.2, (hr _).run n1 ev gF1 _ (f5 _ ((l.take v.1.toNat ++ [v.2] ++ l.drop v.1.toNat).map ea) ?_) _ (good kz) en fun b n2 hb => (hE b n2 hb).keeps l1.lF⟩
        rw [List.map_append, List.map_append, List.map_take, List.map_drop]
        exact ((f3.take _).append (.cons r2 .nil)).append (f3.drop _)
def oSet {α : Type} (l : List α) (i : Int) (x : α) : Option (List α) := (ixN l.length i).map fun j => l.set j x
theorem PXL.set {g : G} : ∀ {ds : List D} {ps : List PyData} {d : D} {p : PyData} (j : Nat), PFL g ds ps → PF g d p → PFL g (ds.set j d) (ps.set j p)
  | _, [], _, _, _, h, _ => by cases h; exact .nil
  | _, q :: ps, _, _, 0, h, r => by cases h with | cons h1 h2 => exact .cons r h2
  | _, q :: ps, _, _, j + 1, h, r => by cases h with | cons h1 h2 => exact .cons h1 (PXL.set j h2 r)
/-- x[i] = e -/
theorem ms_setIx (i : Nat) (h : ME κ 𝒴 C e ea oa) (h2 : ME κ 𝒴 C b eI oi) (hr : ∀ l', MS κ 𝒴 K E (C.updO i (vL ea l')) rest Cn xr (kl l')) (hi : C.O.lookup i = some (fl, vL ea l) := by rfl) (hN : ∀ j, (𝒴 j).X.N[i]? = some x := by exact fun _ => rfl) (hv : ∀ j, Vis (𝒴 j).X.env.scope x := by first | exact fun _ => Or.inl rfl | exact fun _ => Or.inr (Or.inl rfl) | exact fun _ => Or.inr (Or.inr rfl))
    (hd : (x == ("__debug__" : Str)) = false := by decide) (hcd : (x == ("__classdict__" : Str)) = false := by decide)
    (hst : ∀ j v, assign (.Subscript (.Name x p1) b p2) (𝒴 j).X.env v = (do
      let ov ← holding [v] (eval (.Name x p1) (𝒴 j).X.env)
      let iv ← holding [v, ov] (eval b (𝒴 j).X.env)
      standAt p2
      holding [v, ov, iv] (setItem ov iv v)
      release [v, ov, iv] []) := by intro _ _; rfl)
    (hs : ∀ j, swapsWithSole [.Subscript (.Name x p1) b p2] e pos.line (𝒴 j).X.env = pure false := by exact fun _ => rfl) (hw : ∀ j, swappedStores [.Subscript (.Name x p1) b p2] e (𝒴 j).X.env = pure none := by exact fun _ => rfl)
    (h1 : ∀ j, (assignEach [.Subscript (.Name x p1) b p2] (𝒴 j).X.env).map (·.2) = [assign (.Subscript (.Name x p1) b p2) (𝒴 j).X.env] := by exact fun _ => rfl) :
    MS κ 𝒴 K E C (.Assign [.Subscript (.Name x p1) b p2] e pos :: rest) Cn xr (bk κ oa fun v => bk κ oi fun j => bk κ (lk κ (oSet l j v)) kl) :=
  MS.seq (fun j => qs_asg (BE.q j) (qg_sub (qv i (hN j) (hv j) hd hcd) (BE.q j) (hst j)) (hs j) (hw j) (h1 j)) fun n ev gF g S Kc hK en hE => h.run n ev gF g S _ hK.bind _ fun v n1 d gF1 g1 l1 S1 r1 k1 => by
    obtain ⟨a, ds, e1, e2, e3, _, _⟩ := S1.list hi
    refine ⟨_, e1, h2.run n1 ev gF1 g1 S1 _ (bkg k1) _ fun j n2 d2 gF2 g2 l2 S2 r2 k2 => ?_⟩
    obtain ⟨a', ds', f1, f2, f3, f4, f5⟩ := S2.list hi
    rw [e1] at f1; cases f1
    obtain ⟨z, ez, kz⟩ := lkg (bkg k2)
    cases r2
    have el := f3.length
    rw [List.length_map] at el
    unfold oSet at ez
    cases q : ixN l.length j with
    | none => rw [q] at ez; cases ez
    | some m =>
      rw [q] at ez; cases ez
      refine ⟨ds', m, f2, by rw [el]; exact q, (hr _).run n2 ev gF2 _ (f5 _ ((l.set m v).map ea) ?_) _ (good kz) en fun b n3 hb => (hE b n3 hb).keeps (Ext.trans0 l1 l2).lF⟩
      rw [List.map_set]
      exact PXL.set m f3 (oLe l2.lF r1)
/-- an owned list is read -/
theorem re_vO (i : Nat) (hi : C.O.lookup i = some (fl, vL ea l)) {n : Nat} {ev : Ev} {gF g : G} (S : Sx C n ev gF g) : ∃ a ds, ev[i]? = some (some (.v (.ref a))) ∧ items g (.v (.ref a)) = some ds ∧ PFL gF ds (l.map ea) := by
  obtain ⟨a, ds, e1, e2, e3, _, _⟩ := S.list hi
  exact ⟨a, ds, e1, lst_items e2, e3⟩
theorem me_ixO (i : Nat) (hb : ME κ 𝒴 C b eI oi) (hi : C.O.lookup i = some (fl, vL ea l) := by rfl) (hN : ∀ j, (𝒴 j).X.N[i]? = some x := by exact fun _ => rfl) (hv : ∀ j, Vis (𝒴 j).X.env.scope x := by first | exact fun _ => Or.inl rfl | exact fun _ => Or.inr (Or.inl rfl) | exact fun _ => Or.inr (Or.inr rfl))
    (hd : (x == ("__debug__" : Str)) = false := by decide) (hcd : (x == ("__classdict__" : Str)) = false := by decide) (hs : PlainIx b := by exact fun _ _ => rfl) : ME κ 𝒴 C (.Subscript (.Name x p1) b pos) ea (bk κ oi fun y => lk κ (oAt l y)) :=
  ME.mk (fun j => q_ix d_ix (qv i (hN j) (hv j) hd hcd) (BE.q j) hs) ⟨fun n ev gF g S Kc hK Q hQ => by
    obtain ⟨a, ds, e1, e2, e3⟩ := re_vO i hi S
    refine ⟨_, e1, hb.run n ev gF g S _ hK.bind _ fun y n1 d gF1 g1 l1 S1 r1 k1 => ?_⟩
    obtain ⟨a', ds', f1, f2, f3⟩ := re_vO i hi S1
    rw [e1] at f1; cases f1
    obtain ⟨z, ez, kz⟩ := lkg k1
    cases r1
    obtain ⟨d', g1', g2'⟩ := atD_pf f3 (show oAt (l.map ea) y = some (ea z) by rw [oAt_map, ez]; rfl)
    exact ⟨ds', d', f2, g1', hQ z n1 d' gF1 g1 l1 S1 g2' kz⟩⟩
theorem me_lenO (i : Nat) (hm : ∀ i, (𝒴 i).X.mg "len" = none) (hi : C.O.lookup i = some (fl, vL ea l) := by rfl) (hN : ∀ j, (𝒴 j).X.N[i]? = some x := by exact fun _ => rfl) (hv : ∀ j, Vis (𝒴 j).X.env.scope x := by first | exact fun _ => Or.inl rfl | exact fun _ => Or.inr (Or.inl rfl) | exact fun _ => Or.inr (Or.inr rfl))
    (hd : (x == ("__debug__" : Str)) = false := by decide) (hcd : (x == ("__classdict__" : Str)) = false := by decide) (hs : ∀ i, starEach [.Name x p2] (𝒴 i).X.env = (false, eval (.Name x p2) (𝒴 i).X.env) :: starEach [] (𝒴 i).X.env := by exact fun _ => rfl) (hgX : ∀ i, Gl (𝒴 i).X "len" := by exact fun _ => rfl) : ME κ 𝒴 C (.Call (.Name "len" p1) [.Name x p2] [] pos) eI (pk κ (l.length : Int)) :=
  ME.mk (fun j => q_callB c_len (hgX j) (hm j) rfl (qa_cons (qv i (hN j) (hv j) hd hcd) qa_nil (hs j)) (by decide) (by decide) (hs j) rfl) ⟨fun n ev gF g S Kc hK Q hQ => by
    obtain ⟨a, ds, e1, e2, e3⟩ := re_vO i hi S
    have el := e3.length
    rw [List.length_map] at el
    exact ⟨_, e1, ds, e2, by rw [el]; exact hQ _ n _ gF g (Ext.refl S.lg S.nn) S (.int _) hK.pk⟩⟩
theorem re_inO (neg : Bool) (i : Nat) {ta : TE'} [DecidableEq α] {d : Nat} (q : EqE ea d) (hd : d + 1 ≤ 64) (ha : RE κ C ta ea oa) (hi : C.O.lookup i = some (fl, vL ea l)) : RE κ C (tO (dIn neg) ta (tV i)) eB (bk κ oa fun x => pk κ (neg ^^ oMem x l)) :=
  ⟨fun n ev gF g S Kc hK Q hQ => ha.run n ev gF g S _ hK.bind _ fun y n1 d gF1 g1 l1 S1 r1 k1 => by
    obtain ⟨a', ds', f1, f2, f3⟩ := re_vO i hi S1
    refine ⟨_, f1, ea y, ds', l.map ea, f2, PX.up _ (oLe S1.lg r1), PXL.up _ (PXL.leo S1.lg _ f3), q.shaped (by omega) y, (qL q).shaped hd l, ?_⟩
    rw [any_mem q y l]
    exact hQ _ n1 _ gF1 g1 l1 S1 (.bl _) (pkg k1)⟩
/-- it stands still from here on -/
def rmO (i : Nat) : List (Nat × Bool × OV) → List (Nat × Bool × OV)
  | [] => []
  | q :: r => if q.1 = i then r else q :: rmO i r
theorem OwE.take {B : Bs} {gF g : G} {ev : Ev} {O : List (Nat × Bool × OV)} {fp : List Addr} (h : OwE B gF g ev O fp) (nd : fp.Nodup) {i : Nat} {y : OV} (hi : O.lookup i = some (false, y)) : ∃ d f1 f2, ev[i]? = some (some d) ∧ Ow gF g y d f1 ∧ (∀ a ∈ f1, gF.o a = none ∧ B.g.o a = none) ∧ OwE B gF g ev (rmO i O) f2 ∧ (f1 ++ f2).Nodup ∧ ∀ a, a ∈ f1 ++ f2 → a ∈ fp := by
  induction h with
  | nil => cases hi
  | @cons j fl' x O d f1 f2 h1 h2 hc h3 ih =>
    rw [List.lookup_cons] at hi
    obtain ⟨nd1, nd2, dj⟩ := List.nodup_append.mp nd
    split at hi
    · rename_i hb
      have e : i = j := by simpa using hb
      subst e
      cases hi
      refine ⟨d, f1, f2, h1, h2, fun a ha => ⟨(hc a ha).1, (hc a ha).2.elim id fun z => by cases z.1⟩, ?_, nd, fun a ha => ha⟩
      unfold rmO
      rw [if_pos rfl]
      exact h3
    · rename_i hb
      obtain ⟨d', g1, g2, e1, e2, e3, e4, e5, e6⟩ := ih nd2 hi
      have ne : j ≠ i := fun e => by subst e; simp at hb
      obtain ⟨m1, m2, m3⟩ := List.nodup_append.mp e5
      refine ⟨d', g1, f1 ++ g2, e1, e2, e3, ?_, ?_, fun a ha => ?_⟩
      · unfold rmO
        rw [if_neg ne]
        exact .cons h1 h2 hc e4
      · refine List.nodup_append.mpr ⟨m1, List.nodup_append.mpr ⟨nd1, m2, fun a ha b hb => dj a ha b (e6 b (by simp [hb]))⟩, fun a ha b hb => ?_⟩
        rcases List.mem_append.mp hb with q | q
        · exact fun z => dj b q a (e6 a (by simp [ha])) z.symm
        · exact m3 a ha b q
      · rcases List.mem_append.mp ha with q | q
        · exact List.mem_append_right _ (e6 a (by simp [q]))
        · rcases List.mem_append.mp q with q | q
          · exact List.mem_append_left _ q
          · exact List.mem_append_right _ (e6 a (by simp [q]))
abbrev Ct.frz (C : Ct) (i : Nat) (p : PyData) : Ct := { C with O := rmO i C.O, F := (i, .p p) :: C.F }
theorem rmO_lookup {i j : Nat} : ∀ {O : List (Nat × Bool × OV)}, j ≠ i → True := fun _ => trivial
theorem Sx.frz {C : Ct} {n : Nat} {ev : Ev} {gF g : G} (S : Sx C n ev gF g) {i : Nat} {ps : List PyData} (hi : C.O.lookup i = some (false, lOV ps)) : ∃ gF', Keeps gF gF' ∧ Sx (C.frz i (.list ps)) n ev gF' g := by
  obtain ⟨fp, h1, h2⟩ := S.ow
  obtain ⟨d, f1, f2, e1, e2, e3, e4, e5, e6⟩ := h1.take h2 hi
  cases e2 with
  | @l a ds xs f5 h5 h6 =>
    obtain ⟨r, rfl⟩ := owL_to h6
    have ha := e3 a (by simp)
    have kp := new_keeps (m := .lst ds) ha.1
    have nd : (a :: f2).Nodup := e5
    have nin : a ∉ f2 := (List.nodup_cons.mp nd).1
    refine ⟨gF.put a (.lst ds), kp, ⟨fun j y e => ?_, ⟨f2, e4.keep kp fun b hb => ⟨fun _ e => e, fun e _ => (G.put_ne (fun z => nin (by rw [← z]; exact hb))).trans e⟩, (List.nodup_cons.mp nd).2⟩, S.ex, ⟨fun b m e => kp b m (S.bs.lF b m e), fun b m e => ?_, S.bs.keep, S.bs.there, fun b q1 q2 => (G.put_ne (fun z => by rw [z] at q2; exact q2 ha.2)).trans (S.bs.disj b q1 q2), S.bs.p, S.bs.n, S.bs.s⟩, S.p, S.len⟩⟩
    · have e : (if j == i then some (FV.p (.list ps)) else C.F.lookup j) = some y := by
        have : List.lookup j ((i, FV.p (.list ps)) :: C.F) = some y := e
        rw [List.lookup_cons] at this
        split at this <;> simp_all
      by_cases q : j = i
      · subst q
        simp at e; subst e
        exact ⟨_, e1, .lst G.put_same (PXL.leo kp _ r)⟩
      · have : (j == i) = false := by simpa using q
        rw [this] at e
        obtain ⟨d', q1, q2⟩ := S.fr j y (by simpa using e)
        exact ⟨d', q1, q2.leo kp⟩
    · by_cases hb : b = a
      · subst hb; rw [G.put_same] at e; cases e; exact h5
      · rw [G.put_ne hb] at e; exact S.bs.lg b m e
theorem ms_frz (i : Nat) (hr : MS κ 𝒴 K E (C.frz i (eL ea l)) rest Cn xr o) (hi : C.O.lookup i = some (false, vL ea l) := by rfl) : MS κ 𝒴 K E C rest Cn xr o :=
  ⟨fun n ev gF g S Kc hK en hE => by
    obtain ⟨gF', k1, S1⟩ := S.frz hi
    exact hr.run n ev gF' g S1 Kc hK en fun b n2 hb => (hE b n2 hb).keeps k1⟩
end
end SK
end
section
set_option maxHeartbeats 4000000
namespace SK
open PySem PySem.Spec PyProof.Rows L2

/-! ### what a def promises -/
def ExitP (K : PySem.W.Frag) (gF g : G) (n : Nat) (Q : DK) (E : ExK) (v : RetV) : Prop := match v with
  | .val p => ∀ d gF' g', Ext [] gF g gF' g' n → PF gF' d p → Q d g'
  | .new ps => ∀ a ds gF' g', Ext [] gF g gF' g' n → gF'.o a = none → g.o a = none → g'.o a = some (.lst ds) → PFL gF' ds ps → Q (.v (.ref a)) g'
  | .err c => ∀ gF' g', Ext [] gF g gF' g' n → E (exC K c) none g'
def spM (K : PySem.W.Frag) {τ ρ : Type} (er : τ → List PyData) (mf : τ → Option ρ) (xr : ρ → RetV) : Sp' := fun ds g Q E => ∃ gF v r, Keeps gF g ∧ PFL gF ds (er v) ∧ mf v = some r ∧ ExitP K gF g g.n Q E (xr r)
/-- .. that draws -/
def spX (K : PySem.W.Frag) {τ ρ : Type} (er : τ → List PyData) (mf : τ → Mk true ρ) (xr : ρ → RetV) : Sp' := fun ds g Q E => ∃ pa ca ds' gF v n Kc, ds = .v (.ref pa) :: ds' ∧ g.p = some (pa, ca) ∧ g.n ≤ n ∧ Keeps gF g ∧ PFL gF ds' (er v) ∧ Good true n (mf v) Kc ∧ ∀ r n', (∀ p : Pn, p.n = n' → Kc r p) → ExitP K gF g n' Q E (xr r)
def exO (κ : Bool) {σ ρ : Type} (d0 : σ → ρ) (o : Mk κ (Out σ ρ)) : Mk κ ρ := bk κ o fun
  | .nx s => pk κ (d0 s)
  | .rt r => pk κ r
def argF : Nat → List PyData → List (Nat × FV)
  | _, [] => []
  | i, p :: ps => (i, .p p) :: argF (i + 1) ps
theorem argF_at {g : G} : ∀ (k : Nat) {ds : List D} {ps : List PyData}, PFL g ds ps → ∀ i x, (argF k ps).lookup i = some x → k ≤ i ∧ ∃ d, ds[i - k]? = some d ∧ RepF g d x
  | k, _, [], h, i, x, e => by cases e
  | k, _, p :: ps, h, i, x, e => by
    cases h with
    | cons h1 h2 =>
      have e : (if i == k then some (FV.p p) else (argF (k + 1) ps).lookup i) = some x := by
        have : List.lookup i ((k, FV.p p) :: argF (k + 1) ps) = some x := e
        rw [List.lookup_cons] at this
        split at this <;> simp_all
      by_cases q : i = k
      · subst q
        simp at e; subst e
        exact ⟨Nat.le_refl _, _, by rw [Nat.sub_self]; rfl, h1⟩
      · have : (i == k) = false := by simpa using q
        rw [this] at e
        obtain ⟨a, d, b, c⟩ := argF_at (k + 1) h2 i x (by simpa using e)
        refine ⟨by omega, d, ?_, c⟩
        have e2 : i - k = (i - (k + 1)) + 1 := by omega
        rw [e2]
        simpa using b
theorem Ext.up {M : List Addr} {gF g gF' g' : G} {n n' : Nat} (x : Ext M gF g gF' g' n) (h : g.p ≠ none → n ≤ n') : Ext M gF g gF' g' n' :=
  ⟨x.lF, x.lg, x.keep, x.there, x.disj, x.p, fun e => Nat.le_trans (x.n e) (h (by rw [← x.p]; exact e)), x.s⟩
theorem exit_of {K : PySem.W.Frag} {gF g : G} {n : Nat} {Q : DK} {E : ExK} {v : RetV} (h : ExitP K gF g n Q E v) : Exit K (fgX E) ⟨gF, g, []⟩ (fgEn Q) v n := by
  cases v with
  | val p => exact fun d gF' g' x r => fg.here (h d gF' g' x r)
  | new ps => exact fun a ds gF' g' x e1 e2 e3 r => fg.here (h a ds gF' g' x e1 e2 e3 r)
  | err c => exact fun ev' gF' g' x => fgX.here (h gF' g' x)
section
variable {P : Program} {w : World} {K : PySem.W.Frag} {mg : Str → Option Value} {base : Heap} {k : Nat} {x : Str} {params : Arguments} {body : List Stmt} {scope : Scope} {N ps : List Str} {σ τ ρ : Type} {er : τ → List PyData} {xr : ρ → RetV}
theorem sx_start {ds : List D} {qs : List PyData} {gF g : G} {X : List (Nat × D)} {ds' : List D} {k0 : Nat} (hl : ds.length ≤ N.length) (h1 : ∀ i x, (argF k0 qs).lookup i = some x → ∃ d, ds[i]? = some d ∧ RepF gF d x) (h2 : ∀ i d, X.lookup i = some d → ds[i]? = some d) (kp : Keeps gF g) : Sx ⟨argF k0 qs, [], X, g.p, N.length, ⟨gF, g, []⟩⟩ g.n (startE N ds) gF g := by
  have at_ : ∀ i d, ds[i]? = some d → (startE N ds)[i]? = some (some d) := fun i d e => by
    unfold startE
    have : i < ds.length := (List.getElem?_eq_some_iff.mp e).1
    rw [List.getElem?_append_left (by simpa using this), List.getElem?_map, e]
    rfl
  refine ⟨fun i x e => ?_, ⟨[], .nil, .nil⟩, fun i d e => at_ i d (h2 i d e), Ext.refl kp (fun _ => Nat.le_refl _), rfl, ?_⟩
  · obtain ⟨d, e1, e2⟩ := h1 i x e
    exact ⟨d, at_ i d e1, e2⟩
  · unfold startE
    simp
    omega
theorem kn_m (F : ∃ fd, FunD K x x params body scope [] [] (He.ga K x) fd) (hm : mg x = some (.ref (He.ga K x))) (S : FnScope N ps scope)
    (hb : ∀ (kV doc pm : Value) (an : Option Addr) (cdv ct : Value) (us : List Value), us.length = ps.length → bindArgs (PySem.W.fnOf x x params body scope .none kV doc pm an cdv ct) ⟨us, []⟩ = pure (ps.zip us))
    (hlen : ∀ v, (er v).length = ps.length) (hN : ps.length ≤ N.length) (d0 : σ → ρ) (h0 : ∀ s, xr (d0 s) = .val .none) (Cn : Bs → Option (Addr × Addr) → σ → Ct) (mb : τ → Option (Out σ ρ))
    (hCn : ∀ B p s, (Cn B p s).B = B)
    (hbody : ∀ (f : Addr) (cdv : Value) (A : Around) (outer : List Env) (s : Shared) (H : Hp) (g : G) (E' : XK) (E0 : ExK) (v : τ) (B : Bs) (p : Option (Addr × Addr)), RoomG k (A.deeper (envOfC x scope s.heap.objs.size f cdv)) → TkD (yOf P w K mg base N x scope f cdv A outer s H g E') (fgX E0) →
      MS false (fun _ : Unit => yOf P w K mg base N x scope f cdv A outer s H g E') K (fgX E0) ⟨argF 0 (er v), [], [], p, N.length, B⟩ body (Cn B p) xr (mb v)) :
    Kn P w K mg base (k + 1) x (spM K er (fun v => exO false d0 (mb v)) xr) :=
  kn_mk F hm S hb (fun ds g Q E ⟨gF, v, r, _, l, _⟩ => l.length.trans (hlen v)) fun f cdv A outer s H g ds Q E E' hr ⟨gF, v, r, kp, l, e, ex⟩ tk => by
    have m := hbody f cdv A outer s H g E' E v ⟨gF, g, []⟩ g.p hr tk
    have hl : ds.length ≤ N.length := by rw [l.length, hlen]; exact hN
    have sx := sx_start (N := N) (X := []) (ds' := ds) (k0 := 0) hl (fun i x e => by obtain ⟨_, d, e1, e2⟩ := argF_at 0 l i x e; exact ⟨d, by simpa using e1, e2⟩) (fun i d e => by cases e) kp
    have e : Option.bind (mb v) (fun
      | .nx s => some (d0 s)
      | .rt r => some r) = some r := e
    obtain ⟨b, eb, hb⟩ : ∃ b, mb v = some b ∧ (match b with
      | .nx s => r = d0 s
      | .rt r' => r = r') := by
      cases q : mb v with
      | none => rw [q] at e; cases e
      | some b =>
        rw [q] at e
        refine ⟨b, rfl, ?_⟩
        cases b <;> exact (Option.some.inj e).symm
    obtain ⟨t, ht, hw⟩ := m.run g.n _ gF g sx (fun b' p => b' = b ∧ p.n = g.n) (fun p hp => ⟨b, eb, rfl, hp⟩) (fgEn Q) fun b' n' hb' => by
      obtain ⟨eb', en'⟩ := hb' (pn0 n') rfl
      have en' : n' = g.n := en'
      subst eb' en'
      cases b' with
      | nx s0 =>
        intro ev' gF' g' _ S'
        have bs := S'.bs
        rw [hCn] at bs
        have hb : r = d0 s0 := hb
        subst hb
        rw [h0] at ex
        exact fg.here (ex _ gF' g' bs .non)
      | rt r' =>
        have hb : r = r' := hb
        subst hb
        exact exit_of ex
    exact ⟨t, ht (), hw⟩
/-- .. that draws -/
theorem kn_x {p0 : Str} {ps : List Str} (F : ∃ fd, FunD K x x params body scope [] [] (He.ga K x) fd) (hm : mg x = some (.ref (He.ga K x))) (S : FnScope N (p0 :: ps) scope)
    (hb : ∀ (kV doc pm : Value) (an : Option Addr) (cdv ct : Value) (us : List Value), us.length = (p0 :: ps).length → bindArgs (PySem.W.fnOf x x params body scope .none kV doc pm an cdv ct) ⟨us, []⟩ = pure ((p0 :: ps).zip us))
    (hlen : ∀ v, (er v).length = ps.length) (hN : ps.length + 1 ≤ N.length) (d0 : σ → ρ) (h0 : ∀ s, xr (d0 s) = .val .none) (Cn : Bs → Addr → Addr → σ → Ct) (mb : τ → Mk true (Out σ ρ))
    (hCn : ∀ B p q s, (Cn B p q s).B = B)
    (hbody : ∀ (f : Addr) (cdv : Value) (A : Around) (outer : List Env) (s : Shared) (H : Hp) (g : G) (E' : XK) (E0 : ExK) (v : τ) (B : Bs) (pa ca : Addr), RoomG k (A.deeper (envOfC x scope s.heap.objs.size f cdv)) → TkD (yOf P w K mg base N x scope f cdv A outer s H g E') (fgX E0) →
      MS true (fun _ : Unit => yOf P w K mg base N x scope f cdv A outer s H g E') K (fgX E0) ⟨argF 1 (er v), [], [(0, .v (.ref pa))], some (pa, ca), N.length, B⟩ body (Cn B pa ca) xr (mb v)) :
    Kn P w K mg base (k + 1) x (spX K er (fun v => exO true d0 (mb v)) xr) :=
  kn_mk F hm S hb (fun ds g Q E ⟨pa, ca, ds', gF, v, n, Kc, e, _, _, _, l, _⟩ => by rw [e]; simp [l.length, hlen]) fun f cdv A outer s H g ds Q E E' hr ⟨pa, ca, ds', gF, v, n, Kc, ed, hp, hn, kp, l, hK, ex⟩ tk => by
    subst ed
    have m := hbody f cdv A outer s H g E' E v ⟨gF, g, []⟩ pa ca hr tk
    have hl : (D.v (.ref pa) :: ds').length ≤ N.length := by simp [l.length, hlen]; exact hN
    have sx := sx_start (N := N) (X := [(0, .v (.ref pa))]) (ds' := ds') (k0 := 1) hl (fun i x e => by
      obtain ⟨h1, d, e1, e2⟩ := argF_at 1 l i x e
      refine ⟨d, ?_, e2⟩
      have : i = (i - 1) + 1 := by omega
      rw [this]
      simpa using e1) (fun i d e => by
      have : (if i == 0 then some (D.v (.ref pa)) else none) = some d := by
        rw [List.lookup_cons] at e
        split at e <;> simp_all
      by_cases q : i = 0
      · subst q; simpa using this
      · simp [q] at this) kp
    rw [hp] at sx
    have sx' : Sx ⟨argF 1 (er v), [], [(0, .v (.ref pa))], some (pa, ca), N.length, ⟨gF, g, []⟩⟩ n (startE N (D.v (.ref pa) :: ds')) gF g := ⟨sx.fr, sx.ow, sx.ex, sx.bs.up fun _ => hn, sx.p, sx.len⟩
    obtain ⟨t, ht, hw⟩ := m.run n _ gF g sx' (fun b p => Gd true (match b with
      | .nx s => pk true (d0 s)
      | .rt r => pk true r) p Kc) (fun p hp => (Gd.bind (show Gd true (bk true (mb v) _) p Kc from hK p hp)).imp fun b p h => by cases b <;> exact h) (fgEn Q) fun b n' hb => by
      cases b with
      | nx s0 =>
        intro ev' gF' g' _ S'
        have bs := S'.bs
        rw [hCn] at bs
        have z := ex (d0 s0) n' (pkg hb)
        rw [h0] at z
        exact fg.here (z _ gF' g' bs .non)
      | rt r => exact exit_of (ex r n' (pkg hb))
    exact ⟨t, ht (), hw⟩
end

/-! ### calls -/
inductive Res (α : Type) where
  | ok (a : α)
  | er (c : Str)
def Res.get {α : Type} : Res α → Option α
  | .ok a => some a
  | .er _ => none
def xV {α : Type} (ea : α → PyData) : α → RetV := fun v => .val (ea v)
def xL {α : Type} (ea : α → PyData) : List α → RetV := fun v => .new (v.map ea)
def xR {α : Type} (ea : α → PyData) : Res α → RetV
  | .ok a => .val (ea a)
  | .er c => .err c
def xRL {α : Type} (ea : α → PyData) : Res (List α) → RetV
  | .ok a => .new (a.map ea)
  | .er c => .err c
section
variable {ι : Type} {𝒴 : ι → Yx} {κ : Bool} {K : PySem.W.Frag} {E : ExE} {C : Ct} {e : Expr} {es : List Expr} {k : Nat} {x : Str} {τ ρ γ α : Type} {er : τ → List PyData} {xr : ρ → RetV} {ec : γ → PyData} {ea : α → PyData} {oa : Mk κ τ} {mf : τ → Option ρ} {pos p1 p2 : Pos}
theorem ext_call {gF g gF1 g1 gF' g' : G} {n1 : Nat} (l : Ext [] gF g gF1 g1 n1) (y : Ext [] gF1 g1 gF' g' g1.n) : Ext [] gF1 g1 gF' g' n1 := y.up fun h => l.n h
theorem me_call (c : ∀ i, Kn.of (𝒴 i).X k x (spM K er mf xr)) (hr : ∀ i, RoomG k (𝒴 i).X.A) (tk : ∀ i, TkD (𝒴 i) E) {f : ρ → Option γ} (hf : ∀ r z, f r = some z → xr r = .val (ec z)) (ha : MA κ 𝒴 C (e :: es) er oa) (hg : ∀ i, Gl (𝒴 i).X x := by exact fun _ => rfl) (hdb : (x == ("__debug__" : Str)) = false := by decide)
    (he : ∀ i, starEach (e :: es) (𝒴 i).X.env = (false, eval e (𝒴 i).X.env) :: starEach es (𝒴 i).X.env := by exact fun _ => rfl) (hpl : ∀ i, (backTo pos (starEach es (𝒴 i).X.env)).any (·.1) = false := by exact fun _ => rfl) : ME κ 𝒴 C (.Call (.Name x p1) (e :: es) [] pos) ec (bk κ oa fun v => lk κ ((mf v).bind f)) :=
  ME.mk (fun i => q_call (c i) (hr i) (tk i) (hg i) (BA.q i) hdb (he i) (hpl i)) ⟨fun n ev gF g S Kc hK Q hQ => ha.run n ev gF g S _ hK.bind _ fun v n1 ds gF1 g1 l1 S1 r1 k1 => by
    obtain ⟨z, ez, kz⟩ := lkg k1
    cases q : mf v with
    | none => rw [q] at ez; cases ez
    | some r =>
      rw [q] at ez
      refine ⟨gF1, v, r, S1.lg, r1, q, ?_⟩
      rw [hf r z ez]
      exact fun d gF2 g2 y r2 => hQ z n1 d gF2 g2 (Ext.trans0 l1 (ext_call l1 y)) (S1.ext (ext_call l1 y)) r2 kz⟩
/-- a def that gives a new list -/
theorem mn_call (c : ∀ i, Kn.of (𝒴 i).X k x (spM K er mf xr)) (hr : ∀ i, RoomG k (𝒴 i).X.A) (tk : ∀ i, TkD (𝒴 i) E) {er' : γ → List PyData} {f : ρ → Option γ} (hf : ∀ r z, f r = some z → xr r = .new (er' z)) (ha : MA κ 𝒴 C (e :: es) er oa) (hg : ∀ i, Gl (𝒴 i).X x := by exact fun _ => rfl) (hdb : (x == ("__debug__" : Str)) = false := by decide)
    (he : ∀ i, starEach (e :: es) (𝒴 i).X.env = (false, eval e (𝒴 i).X.env) :: starEach es (𝒴 i).X.env := by exact fun _ => rfl) (hpl : ∀ i, (backTo pos (starEach es (𝒴 i).X.env)).any (·.1) = false := by exact fun _ => rfl) : MN κ 𝒴 C (.Call (.Name x p1) (e :: es) [] pos) (fun v => lOV (er' v)) (bk κ oa fun v => lk κ ((mf v).bind f)) :=
  MN.mk (fun i => q_call (c i) (hr i) (tk i) (hg i) (BA.q i) hdb (he i) (hpl i)) ⟨fun n ev gF g S Kc hK Q hQ => ha.run n ev gF g S _ hK.bind _ fun v n1 ds gF1 g1 l1 S1 r1 k1 => by
    obtain ⟨z, ez, kz⟩ := lkg k1
    cases q : mf v with
    | none => rw [q] at ez; cases ez
    | some r =>
      rw [q] at ez
      refine ⟨gF1, v, r, S1.lg, r1, q, ?_⟩
      rw [hf r z ez]
      refine fun a ds' gF2 g2 y h1 h2 h3 r2 => hQ z n1 _ gF2 g2 (Ext.trans0 l1 (ext_call l1 y)) ?_ kz
      have S2 := S1.ext (ext_call l1 y)
      obtain ⟨fp, w1, w2⟩ := S1.ow
      have w1' := w1.keep (gF' := gF2) (g' := g2) y.lF fun b hb => ⟨fun m e => y.keep0 b m e, fun e1 e2 => y.disj b e1 e2⟩
      refine ⟨S2.fr, ⟨fp, [a], w1', .l h3 (owL_of r2), ?_, fun b hb => ?_⟩, S2.ex, S2.bs, S2.p, S2.len⟩
      · rw [List.singleton_append, List.nodup_cons]
        exact ⟨fun hm => w1.there a hm h2, w2⟩
      · have e : b = a := by simpa using hb
        subst e
        refine ⟨h1, ?_, l1.no _ h2⟩
        cases q : C.B.g.o b with
        | none => rfl
        | some m => exact absurd h2 (S1.bs.there b (by rw [q]; simp))⟩
/-! calls that may raise -/
structure RRe (κ : Bool) (K : PySem.W.Frag) (E : ExE) (C : Ct) (t : TE') {α : Type} (enc : α → PyData) (o : Mk κ (Res α)) : Prop where
  run : ∀ n ev gF g, Sx C n ev gF g → ∀ Kc, Good κ n o Kc → ∀ Q : DK, (∀ v n' d gF' g', Ext [] gF g gF' g' n' → Sx C n' ev gF' g' → PF gF' d (enc v) → (∀ p, p.n = n' → Kc (.ok v) p) → Q d g') →
    (∀ c n' gF' g', Ext [] gF g gF' g' n' → Sx C n' ev gF' g' → (∀ p, p.n = n' → Kc (.er c) p) → E (exC K c) none ev g') → t ev g Q
abbrev MRe {ι : Type} (κ : Bool) (𝒴 : ι → Yx) (K : PySem.W.Frag) (E : ExE) (C : Ct) (e : Expr) {α : Type} (enc : α → PyData) (o : Mk κ (Res α)) : Prop := RRe κ K E C (BE 𝒴 e) enc o
theorem mr_call {f : ρ → Res α} (c : ∀ i, Kn.of (𝒴 i).X k x (spM K er mf xr)) (hr : ∀ i, RoomG k (𝒴 i).X.A) (tk : ∀ i, TkD (𝒴 i) E) (hf : ∀ r, xr r = xR ea (f r)) (ha : MA κ 𝒴 C (e :: es) er oa) (hg : ∀ i, Gl (𝒴 i).X x := by exact fun _ => rfl) (hdb : (x == ("__debug__" : Str)) = false := by decide)
    (he : ∀ i, starEach (e :: es) (𝒴 i).X.env = (false, eval e (𝒴 i).X.env) :: starEach es (𝒴 i).X.env := by exact fun _ => rfl) (hpl : ∀ i, (backTo pos (starEach es (𝒴 i).X.env)).any (·.1) = false := by exact fun _ => rfl) : MRe κ 𝒴 K E C (.Call (.Name x p1) (e :: es) [] pos) ea (bk κ oa fun v => lk κ ((mf v).map f)) :=
  ⟨fun n ev gF g S Kc hK Q hQ hQe => ⟨_, fun i => q_call (c i) (hr i) (tk i) (hg i) (BA.q i) hdb (he i) (hpl i), ha.run n ev gF g S _ hK.bind _ fun v n1 ds gF1 g1 l1 S1 r1 k1 => by
    obtain ⟨z, ez, kz⟩ := lkg k1
    cases q : mf v with
    | none => rw [q] at ez; cases ez
    | some r =>
      rw [q] at ez
      cases ez
      refine ⟨gF1, v, r, S1.lg, r1, q, ?_⟩
      rw [hf r]
      cases h : f r with
      | ok a => rw [h] at kz; exact fun d gF2 g2 y r2 => hQ a n1 d gF2 g2 (Ext.trans0 l1 (ext_call l1 y)) (S1.ext (ext_call l1 y)) r2 kz
      | er c => rw [h] at kz; exact fun gF2 g2 y => hQe c n1 gF2 g2 (Ext.trans0 l1 (ext_call l1 y)) (S1.ext (ext_call l1 y)) kz⟩⟩
variable {σ ρ' : Type} {Cn : σ → Ct} {xr' : ρ' → RetV} {rest : List Stmt} {or : Mk κ (Res α)} {kr : α → Mk κ (Out σ ρ')}
/-- what follows a value; an error leaves -/
def rb (κ : Bool) {α σ ρ : Type} (ke : Str → ρ) (o : Mk κ (Res α)) (k : α → Mk κ (Out σ ρ)) : Mk κ (Out σ ρ) := bk κ o fun
  | .ok a => k a
  | .er c => pk κ (.rt (ke c))
theorem rb_run {ke : Str → ρ'} {n : Nat} {Kc : Out σ ρ' → Pn → Prop} (h : Good κ n (rb κ ke or kr) Kc) : Good κ n or fun r p => Gd κ (match r with
    | .ok a => kr a
    | .er c => pk κ (.rt (ke c))) p Kc := fun p hp => (Gd.bind (show Gd κ (bk κ or _) p Kc from h p hp)).imp fun r p q => by cases r <;> exact q
theorem ms_exprE (ke : Str → ρ') (hx : ∀ c, xr' (ke c) = .err c) (h : MRe κ 𝒴 K E C e ea or) (hr : ∀ v, MS κ 𝒴 K E C rest Cn xr' (kr v)) (hs : ∀ j, swapsWith e none pos.line (𝒴 j).X.env = pure false := by exact fun _ => rfl) : MS κ 𝒴 K E C (.Expr e pos :: rest) Cn xr' (rb κ ke or kr) :=
  MS.seq (fun j => qs_expr (BE.q j) (hs j)) fun n ev gF g S Kc hK en hE => h.run n ev gF g S _ (rb_run hK) _ (fun v n1 d gF1 g1 l1 S1 r1 k1 => (hr v).run n1 _ gF1 g1 S1 _ (good k1) en fun b n2 hb => (hE b n2 hb).keeps l1.lF) fun c n1 gF1 g1 l1 S1 k1 => by
    have z : Exit K E C.B en (xr' (ke c)) n1 := hE (.rt (ke c)) n1 (pkg k1)
    rw [hx] at z
    exact z ev gF1 g1 S1.bs
theorem ms_setE (ke : Str → ρ') (hx : ∀ c, xr' (ke c) = .err c) (i : Nat) {x : Str} {pos' : Pos} (hN : ∀ j, (𝒴 j).X.N.Nodup) (h : MRe κ 𝒴 K E C e ea or) (hr : ∀ v, MS κ 𝒴 K E (C.setF i (ea v)) rest Cn xr' (kr v)) (hi : ∀ j, (𝒴 j).X.N[i]? = some x := by exact fun _ => rfl) (hxx : ∀ j, Loc (𝒴 j).X.env.scope x := by first | exact fun _ => .inl rfl | exact fun _ => .inr rfl) (hs : ∀ j, swapsWith e (some (.Name x pos')) pos.line (𝒴 j).X.env = pure false := by exact fun _ => rfl) (hf : ∀ j, (𝒴 j).X.fn x = true ∨ (𝒴 j).X.env.scope.names.lookup x = some .local := by first | exact fun _ => .inl rfl | exact fun _ => .inr rfl)
    (hlt : i < C.N := by exact Nat.le_of_ble_eq_true rfl) (hO : C.O.lookup i = none := by rfl) (hX : C.X.lookup i = none := by rfl) : MS κ 𝒴 K E C (.Assign [.Name x pos'] e pos :: rest) Cn xr' (rb κ ke or kr) :=
  MS.seq (fun j => qs_set i (hN j) (BE.q j) (hi j) (hxx j) (hs j) (hf j)) fun n ev gF g S Kc hK en hE => h.run n ev gF g S _ (rb_run hK) _ (fun v n1 d gF1 g1 l1 S1 r1 k1 => (hr v).run n1 _ gF1 g1 (S1.setF (x := .p (ea v)) r1 hlt hO hX) _ (good k1) en fun b n2 hb => (hE b n2 hb).keeps l1.lF) fun c n1 gF1 g1 l1 S1 k1 => by
    have z : Exit K E C.B en (xr' (ke c)) n1 := hE (.rt (ke c)) n1 (pkg k1)
    rw [hx] at z
    exact z ev gF1 g1 S1.bs
theorem ms_retE (f : α → ρ') (ke : Str → ρ') (hf : ∀ v, xr' (f v) = .val (ea v)) (hx : ∀ c, xr' (ke c) = .err c) (h : MRe κ 𝒴 K E C e ea or) : MS κ 𝒴 K E C [.Return (some e) pos] Cn xr' (rb κ ke or fun v => pk κ (.rt (f v))) :=
  ⟨fun n ev gF g S Kc hK en hE => ⟨_, fun i => qs_one (qs_ret (BE.q i)), h.run n ev gF g S _ (rb_run hK) _ (fun v n1 d gF1 g1 l1 S1 r1 k1 => by
    have z : Exit K E C.B en (xr' (f v)) n1 := hE (.rt (f v)) n1 (pkg k1)
    rw [hf] at z
    exact z d gF1 g1 S1.bs r1) fun c n1 gF1 g1 l1 S1 k1 => by
    have z : Exit K E C.B en (xr' (ke c)) n1 := hE (.rt (ke c)) n1 (pkg k1)
    rw [hx] at z
    exact z ev gF1 g1 S1.bs⟩⟩
end

/-! ### calls that draw -/
/-- the pen as a value -/
structure RPen (C : Ct) (t : TE') (pa : Addr) : Prop where
  run : ∀ n ev gF g, Sx C n ev gF g → ∀ Q : DK, (∀ gF' g', Ext [] gF g gF' g' n → Sx C n ev gF' g' → Q (.v (.ref pa)) g') → t ev g Q
abbrev MPen {ι : Type} (𝒴 : ι → Yx) (C : Ct) (e : Expr) (pa : Addr) : Prop := RPen C (BE 𝒴 e) pa
section
variable {ι : Type} {𝒴 : ι → Yx} {K : PySem.W.Frag} {E : ExE} {C : Ct} {e e0 : Expr} {es : List Expr} {k : Nat} {x : Str} {τ ρ γ α : Type} {er : τ → List PyData} {xr : ρ → RetV} {ec : γ → PyData} {ea : α → PyData} {oa : Mk true τ} {mf : τ → Mk true ρ} {pos p1 p2 : Pos} {pa ca : Addr}
theorem mpen_v (i : Nat) {y : Str} (hX : C.X.lookup i = some (.v (.ref pa)) := by rfl) (hN : ∀ j, (𝒴 j).X.N[i]? = some y := by exact fun _ => rfl) (hv : ∀ j, Vis (𝒴 j).X.env.scope y := by first | exact fun _ => Or.inl rfl | exact fun _ => Or.inr (Or.inl rfl) | exact fun _ => Or.inr (Or.inr rfl))
    (hd : (y == ("__debug__" : Str)) = false := by decide) (hcd : (y == ("__classdict__" : Str)) = false := by decide) : MPen 𝒴 C (.Name y pos) pa := ⟨fun n ev gF g S Q hQ => ⟨_, fun j => qv i (hN j) (hv j) hd hcd, _, S.ex i _ hX, hQ gF g (Ext.refl S.lg S.nn) S⟩⟩
theorem me_callX (c : ∀ i, Kn.of (𝒴 i).X k x (spX K er mf xr)) (hr : ∀ i, RoomG k (𝒴 i).X.A) (tk : ∀ i, TkD (𝒴 i) E) {f : ρ → Option γ} (hf : ∀ r z, f r = some z → xr r = .val (ec z)) (h0 : MPen 𝒴 C e0 pa) (ha : MA true 𝒴 C es er oa) (hp : C.p = some (pa, ca) := by rfl) (hg : ∀ i, Gl (𝒴 i).X x := by exact fun _ => rfl) (hdb : (x == ("__debug__" : Str)) = false := by decide)
    (he : ∀ i, starEach (e0 :: es) (𝒴 i).X.env = (false, eval e0 (𝒴 i).X.env) :: starEach es (𝒴 i).X.env := by exact fun _ => rfl) (hpl : ∀ i, (backTo pos (starEach es (𝒴 i).X.env)).any (·.1) = false := by exact fun _ => rfl) : ME true 𝒴 C (.Call (.Name x p1) (e0 :: es) [] pos) ec (bk true oa fun v => bk true (mf v) fun r => lk true (f r)) :=
  ME.mk (fun i => q_call (c i) (hr i) (tk i) (hg i) (qa_cons (BE.q i) (BA.q i) (he i)) hdb (he i) (hpl i)) ⟨fun n ev gF g S Kc hK Q hQ => h0.run n ev gF g S _ fun gF0 g0 l0 S0 => ha.run n ev gF0 g0 S0 _ hK.bind _ fun v n1 ds gF1 g1 l1 S1 r1 k1 => by
    refine ⟨pa, ca, ds, gF1, v, n1, fun r p => Gd true (lk true (f r)) p Kc, rfl, S1.p.trans hp, S1.nn (by rw [S1.p, hp]; simp), S1.lg, r1, bkg k1, fun r n2 k2 => ?_⟩
    obtain ⟨z, ez, kz⟩ := lkg k2
    rw [hf r z ez]
    exact fun d gF2 g2 y r2 => hQ z n2 d gF2 g2 (Ext.trans0 l0 (Ext.trans0 l1 y)) (S1.ext y) r2 kz⟩
theorem mn_callX (c : ∀ i, Kn.of (𝒴 i).X k x (spX K er mf xr)) (hr : ∀ i, RoomG k (𝒴 i).X.A) (tk : ∀ i, TkD (𝒴 i) E) {er' : γ → List PyData} {f : ρ → Option γ} (hf : ∀ r z, f r = some z → xr r = .new (er' z)) (h0 : MPen 𝒴 C e0 pa) (ha : MA true 𝒴 C es er oa) (hp : C.p = some (pa, ca) := by rfl) (hg : ∀ i, Gl (𝒴 i).X x := by exact fun _ => rfl) (hdb : (x == ("__debug__" : Str)) = false := by decide)
    (he : ∀ i, starEach (e0 :: es) (𝒴 i).X.env = (false, eval e0 (𝒴 i).X.env) :: starEach es (𝒴 i).X.env := by exact fun _ => rfl) (hpl : ∀ i, (backTo pos (starEach es (𝒴 i).X.env)).any (·.1) = false := by exact fun _ => rfl) : MN true 𝒴 C (.Call (.Name x p1) (e0 :: es) [] pos) (fun v => lOV (er' v)) (bk true oa fun v => bk true (mf v) fun r => lk true (f r)) :=
  MN.mk (fun i => q_call (c i) (hr i) (tk i) (hg i) (qa_cons (BE.q i) (BA.q i) (he i)) hdb (he i) (hpl i)) ⟨fun n ev gF g S Kc hK Q hQ => h0.run n ev gF g S _ fun gF0 g0 l0 S0 => ha.run n ev gF0 g0 S0 _ hK.bind _ fun v n1 ds gF1 g1 l1 S1 r1 k1 => by
    refine ⟨pa, ca, ds, gF1, v, n1, fun r p => Gd true (lk true (f r)) p Kc, rfl, S1.p.trans hp, S1.nn (by rw [S1.p, hp]; simp), S1.lg, r1, bkg k1, fun r n2 k2 => ?_⟩
    obtain ⟨z, ez, kz⟩ := lkg k2
    rw [hf r z ez]
    refine fun a ds' gF2 g2 y h1 h2 h3 r2 => hQ z n2 _ gF2 g2 (Ext.trans0 l0 (Ext.trans0 l1 y)) ?_ kz
    have S2 := S1.ext y
    obtain ⟨fp, w1, w2⟩ := S1.ow
    have w1' := w1.keep (gF' := gF2) (g' := g2) y.lF fun b hb => ⟨fun m e => y.keep0 b m e, fun e1 e2 => y.disj b e1 e2⟩
    refine ⟨S2.fr, ⟨fp, [a], w1', .l h3 (owL_of r2), ?_, fun b hb => ?_⟩, S2.ex, S2.bs, S2.p, S2.len⟩
    · rw [List.singleton_append, List.nodup_cons]
      exact ⟨fun hm => w1.there a hm h2, w2⟩
    · have e : b = a := by simpa using hb
      subst e
      refine ⟨h1, ?_, l0.no _ (l1.no _ h2)⟩
      cases q : C.B.g.o b with
      | none => rfl
      | some m => exact absurd h2 (S1.bs.there b (by rw [q]; simp))⟩
end
end SK
end
section
set_option maxHeartbeats 4000000
namespace SK
open PySem PySem.Spec PyProof.Rows L2

/-! ### handy forms of the rules -/
def eQ {α : Type} (e : α → PyData) : Bool × List α → PyData := fun x => if x.1 = true then .list (x.2.map e) else .tuple (x.2.map e)
theorem sqQ {α : Type} {e : α → PyData} : Sq' (eQ e) (fun x => x.2.map e) := fun x => by
  obtain ⟨b, l⟩ := x
  cases b
  · exact .inl rfl
  · exact .inr rfl
section
variable {ι : Type} {𝒴 : ι → Yx} {κ : Bool} {K : PySem.W.Frag} {E : ExE} {C : Ct} {e a b c tg : Expr} {es : List Expr} {k : Nat} {x : Str} {τ ρ γ α β σ : Type} {er : τ → List PyData} {xr : ρ → RetV} {ec : γ → PyData} {ea : α → PyData} {eb : β → PyData} {oa : Mk κ α} {ob : Mk κ β} {ot : Mk κ τ} {pos p1 p2 : Pos} {fl : Bool} {l : List α}
theorem me_enc {eb : α → PyData} (h : ME κ 𝒴 C e ea oa) (hf : ∀ v, ea v = eb v := by intro _; rfl) : ME κ 𝒴 C e eb oa := by
  have : ea = eb := funext hf
  rwa [this] at h
theorem mf_enc {er er' : τ → List PyData} (h : MF κ 𝒴 C e er ot) (hf : ∀ v, er v = er' v := by intro _; rfl) : MF κ 𝒴 C e er' ot := by
  have : er = er' := funext hf
  rwa [this] at h
theorem me_get {oa : Mk κ (Option α)} (h : ME κ 𝒴 C e (eO ea) oa) : ME κ 𝒴 C e ea (bk κ oa fun v => lk κ v) := ⟨fun n ev gF g S K hK Q hQ => h.run n ev gF g S _ hK.bind Q fun v n' d gF' g' l S' r k => by
  obtain ⟨w, ew, kw⟩ := lkg k
  subst ew
  exact hQ w n' d gF' g' l S' r kw⟩
theorem me_isN {f : α → Bool} {j} (hf : ∀ v, f v = noneP (ea v)) (ha : ME κ 𝒴 C a ea oa) : ME κ 𝒴 C (.Compare a [.Is] [.Constant .none j p1] pos) eB (bk κ oa fun x => pk κ (f x)) := ME.mk (fun i => q_cmp d_is (BE.q i) qc_non) (re_is hf ha)
theorem mt_isN {f : α → Bool} {j} (hf : ∀ v, f v = noneP (ea v)) (ha : ME κ 𝒴 C a ea oa) : MT κ 𝒴 C (.Compare a [.Is] [.Constant .none j p1] pos) (bk κ oa fun x => pk κ (f x)) := MT.mk (fun i => qt_cmp d_is (BE.q i) qc_non) (re_is hf ha).tB
theorem me_isnotN {f : α → Bool} {j} (hf : ∀ v, f v = noneP (ea v)) (ha : ME κ 𝒴 C a ea oa) : ME κ 𝒴 C (.Compare a [.IsNot] [.Constant .none j p1] pos) eB (bk κ oa fun x => pk κ (!f x)) := ME.mk (fun i => q_cmp d_isnot (BE.q i) qc_non) (re_isnot hf ha)
theorem mt_isnotN {f : α → Bool} {j} (hf : ∀ v, f v = noneP (ea v)) (ha : ME κ 𝒴 C a ea oa) : MT κ 𝒴 C (.Compare a [.IsNot] [.Constant .none j p1] pos) (bk κ oa fun x => pk κ (!f x)) := MT.mk (fun i => qt_cmp d_isnot (BE.q i) qc_non) (re_isnot hf ha).tB
/-- in an owned list -/
theorem mt_inO (neg : Bool) (i : Nat) [DecidableEq α] {d : Nat} {op : CmpOp} {y : Str} (q : EqE ea d) (hd : d + 1 ≤ 64) (ho : op = if neg then .NotIn else .In) (hu : ∀ j, (𝒴 j).X.A.units + 65 < cLine) (ha : ME κ 𝒴 C a ea oa) (hi : C.O.lookup i = some (fl, vL ea l) := by rfl) (hN : ∀ j, (𝒴 j).X.N[i]? = some y := by exact fun _ => rfl) (hv : ∀ j, Vis (𝒴 j).X.env.scope y := by first | exact fun _ => Or.inl rfl | exact fun _ => Or.inr (Or.inl rfl) | exact fun _ => Or.inr (Or.inr rfl))
    (hdb : (y == ("__debug__" : Str)) = false := by decide) (hcd : (y == ("__classdict__" : Str)) = false := by decide) (hm : behindInMarks op (.Name y p1) = false := by first | exact nomark _ | rfl | with_unfolding_all rfl) : MT κ 𝒴 C (.Compare a [op] [.Name y p1] pos) (bk κ oa fun x => pk κ (neg ^^ oMem x l)) :=
  MT.mk (fun j => qt_cmp (opIn neg ho (hu j)) (BE.q j) (qv i (hN j) (hv j) hdb hcd) hm) (re_inO neg i q hd ha hi).tB
theorem me_inO (neg : Bool) (i : Nat) [DecidableEq α] {d : Nat} {op : CmpOp} {y : Str} (q : EqE ea d) (hd : d + 1 ≤ 64) (ho : op = if neg then .NotIn else .In) (hu : ∀ j, (𝒴 j).X.A.units + 65 < cLine) (ha : ME κ 𝒴 C a ea oa) (hi : C.O.lookup i = some (fl, vL ea l) := by rfl) (hN : ∀ j, (𝒴 j).X.N[i]? = some y := by exact fun _ => rfl) (hv : ∀ j, Vis (𝒴 j).X.env.scope y := by first | exact fun _ => Or.inl rfl | exact fun _ => Or.inr (Or.inl rfl) | exact fun _ => Or.inr (Or.inr rfl))
    (hdb : (y == ("__debug__" : Str)) = false := by decide) (hcd : (y == ("__classdict__" : Str)) = false := by decide) (hm : behindInMarks op (.Name y p1) = false := by first | exact nomark _ | rfl | with_unfolding_all rfl) : ME κ 𝒴 C (.Compare a [op] [.Name y p1] pos) eB (bk κ oa fun x => pk κ (neg ^^ oMem x l)) :=
  ME.mk (fun j => q_cmp (opIn neg ho (hu j)) (BE.q j) (qv i (hN j) (hv j) hdb hcd) hm) (re_inO neg i q hd ha hi)
/-- a op b op c, ints -/
theorem re_chI (u v : CmpI) {oa ob oc : Mk κ Int} {ta tb tc : TE'} (ha : RE κ C ta eI oa) (hb : RE κ C tb eI ob) (hc : RE κ C tc eI oc) : RE κ C (tCh u.rd v.rd ta tb tc) eB (bk κ oa fun x => bk κ ob fun y => if u.f x y = true then bk κ oc fun z => pk κ (v.f y z) else pk κ false) :=
  ⟨fun n ev gF g S K hK Q hQ => ha.run n ev gF g S _ hK.bind _ fun x n1 d1 gF1 g1 l1 S1 r1 k1 => hb.run n1 ev gF1 g1 S1 _ (bkg k1) _ fun y n2 d2 gF2 g2 l2 S2 r2 k2 => by
    cases r1; cases r2
    show u.rd (iD x) (iD y) g2 _
    rw [CmpI.rd_eq]
    refine ⟨_, rfl, ?_⟩
    cases h : u.f x y with
    | true =>
      rw [h] at k2
      rw [if_pos rfl]
      exact hc.run n2 ev gF2 g2 S2 _ (bkg k2) _ fun z n3 d3 gF3 g3 l3 S3 r3 k3 => by
        cases r3
        show v.rd (iD y) (iD z) g3 _
        rw [CmpI.rd_eq]
        exact hQ _ n3 _ gF3 g3 (Ext.trans0 l1 (Ext.trans0 l2 l3)) S3 (.bl _) (pkg k3)
    | false =>
      rw [h] at k2
      rw [if_neg Bool.false_ne_true]
      exact hQ false n2 _ gF2 g2 (Ext.trans0 l1 l2) S2 (.bl _) (pkg k2)⟩
theorem me_chI (u v : CmpI) {oa ob oc : Mk κ Int} {op op' : CmpOp} (ha : ME κ 𝒴 C a eI oa) (hb : ME κ 𝒴 C b eI ob) (hc : ME κ 𝒴 C c eI oc) (h1 : op = u.op := by rfl) (h2 : op' = v.op := by rfl) (hm : lastMarks [op, op'] [b, c] = false := by with_unfolding_all rfl) :
    ME κ 𝒴 C (.Compare a [op, op'] [b, c] pos) eB (bk κ oa fun x => bk κ ob fun y => if u.f x y = true then bk κ oc fun z => pk κ (v.f y z) else pk κ false) := by subst h1 h2; exact ME.mk (fun i => q_chain u.d v.d (BE.q i) (BE.q i) (BE.q i) hm) (re_chI u v ha hb hc)
theorem mt_chI (u v : CmpI) {oa ob oc : Mk κ Int} {op op' : CmpOp} (ha : ME κ 𝒴 C a eI oa) (hb : ME κ 𝒴 C b eI ob) (hc : ME κ 𝒴 C c eI oc) (h1 : op = u.op := by rfl) (h2 : op' = v.op := by rfl) (hm : lastMarks [op, op'] [b, c] = false := by with_unfolding_all rfl) :
    MT κ 𝒴 C (.Compare a [op, op'] [b, c] pos) (bk κ oa fun x => bk κ ob fun y => if u.f x y = true then bk κ oc fun z => pk κ (v.f y z) else pk κ false) := by subst h1 h2; exact MT.mk (fun i => qt_chain u.d v.d (BE.q i) (BE.q i) (BE.q i) hm) (re_chI u v ha hb hc).tB
/-- calls, in plain form -/
theorem me_callV {mf : τ → Option γ} (c : ∀ i, Kn.of (𝒴 i).X k x (spM K er mf (xV ec))) (hr : ∀ i, RoomG k (𝒴 i).X.A) (tk : ∀ i, TkD (𝒴 i) E) (ha : MA κ 𝒴 C (e :: es) er ot) (hg : ∀ i, Gl (𝒴 i).X x := by exact fun _ => rfl) (hdb : (x == ("__debug__" : Str)) = false := by decide)
    (he : ∀ i, starEach (e :: es) (𝒴 i).X.env = (false, eval e (𝒴 i).X.env) :: starEach es (𝒴 i).X.env := by exact fun _ => rfl) (hpl : ∀ i, (backTo pos (starEach es (𝒴 i).X.env)).any (·.1) = false := by exact fun _ => rfl) : ME κ 𝒴 C (.Call (.Name x p1) (e :: es) [] pos) ec (bk κ ot fun v => lk κ (mf v)) := by
  have h := me_call (pos := pos) (p1 := p1) c hr tk (f := some) (fun r z h => by cases h; rfl) ha hg hdb he hpl
  have q : (fun v => lk κ ((mf v).bind some)) = fun v => lk κ (mf v) := funext fun v => by cases mf v <;> rfl
  rw [q] at h
  exact h
theorem me_callR {mf : τ → Option (Res γ)} (c : ∀ i, Kn.of (𝒴 i).X k x (spM K er mf (xR ec))) (hr : ∀ i, RoomG k (𝒴 i).X.A) (tk : ∀ i, TkD (𝒴 i) E) (ha : MA κ 𝒴 C (e :: es) er ot) (hg : ∀ i, Gl (𝒴 i).X x := by exact fun _ => rfl) (hdb : (x == ("__debug__" : Str)) = false := by decide)
    (he : ∀ i, starEach (e :: es) (𝒴 i).X.env = (false, eval e (𝒴 i).X.env) :: starEach es (𝒴 i).X.env := by exact fun _ => rfl) (hpl : ∀ i, (backTo pos (starEach es (𝒴 i).X.env)).any (·.1) = false := by exact fun _ => rfl) : ME κ 𝒴 C (.Call (.Name x p1) (e :: es) [] pos) ec (bk κ ot fun v => lk κ ((mf v).bind Res.get)) :=
  me_call (pos := pos) (p1 := p1) c hr tk (f := Res.get) (fun r z h => by cases r <;> cases h; rfl) ha hg hdb he hpl
theorem mn_callV {mf : τ → Option (List γ)} (c : ∀ i, Kn.of (𝒴 i).X k x (spM K er mf (xL ec))) (hr : ∀ i, RoomG k (𝒴 i).X.A) (tk : ∀ i, TkD (𝒴 i) E) (ha : MA κ 𝒴 C (e :: es) er ot) (hg : ∀ i, Gl (𝒴 i).X x := by exact fun _ => rfl) (hdb : (x == ("__debug__" : Str)) = false := by decide)
    (he : ∀ i, starEach (e :: es) (𝒴 i).X.env = (false, eval e (𝒴 i).X.env) :: starEach es (𝒴 i).X.env := by exact fun _ => rfl) (hpl : ∀ i, (backTo pos (starEach es (𝒴 i).X.env)).any (·.1) = false := by exact fun _ => rfl) : MN κ 𝒴 C (.Call (.Name x p1) (e :: es) [] pos) (vL ec) (bk κ ot fun v => lk κ (mf v)) := by
  have h := mn_call (pos := pos) (p1 := p1) (er' := fun l : List γ => l.map ec) c hr tk (f := some) (fun r z h => by cases h; rfl) ha hg hdb he hpl
  have q : (fun v => lk κ ((mf v).bind some)) = fun v => lk κ (mf v) := funext fun v => by cases mf v <;> rfl
  rw [q] at h
  exact h
def Res.getL {α : Type} : Res (List α) → Option (List α) := Res.get
theorem mn_callR {mf : τ → Option (Res (List γ))} (c : ∀ i, Kn.of (𝒴 i).X k x (spM K er mf (xRL ec))) (hr : ∀ i, RoomG k (𝒴 i).X.A) (tk : ∀ i, TkD (𝒴 i) E) (ha : MA κ 𝒴 C (e :: es) er ot) (hg : ∀ i, Gl (𝒴 i).X x := by exact fun _ => rfl) (hdb : (x == ("__debug__" : Str)) = false := by decide)
    (he : ∀ i, starEach (e :: es) (𝒴 i).X.env = (false, eval e (𝒴 i).X.env) :: starEach es (𝒴 i).X.env := by exact fun _ => rfl) (hpl : ∀ i, (backTo pos (starEach es (𝒴 i).X.env)).any (·.1) = false := by exact fun _ => rfl) : MN κ 𝒴 C (.Call (.Name x p1) (e :: es) [] pos) (vL ec) (bk κ ot fun v => lk κ ((mf v).bind Res.get)) :=
  mn_call (pos := pos) (p1 := p1) (er' := fun l : List γ => l.map ec) c hr tk (f := Res.get) (fun r z h => by cases r <;> cases h; rfl) ha hg hdb he hpl
theorem mr_callR {mf : τ → Option (Res γ)} (c : ∀ i, Kn.of (𝒴 i).X k x (spM K er mf (xR ec))) (hr : ∀ i, RoomG k (𝒴 i).X.A) (tk : ∀ i, TkD (𝒴 i) E) (ha : MA κ 𝒴 C (e :: es) er ot) (hg : ∀ i, Gl (𝒴 i).X x := by exact fun _ => rfl) (hdb : (x == ("__debug__" : Str)) = false := by decide)
    (he : ∀ i, starEach (e :: es) (𝒴 i).X.env = (false, eval e (𝒴 i).X.env) :: starEach es (𝒴 i).X.env := by exact fun _ => rfl) (hpl : ∀ i, (backTo pos (starEach es (𝒴 i).X.env)).any (·.1) = false := by exact fun _ => rfl) : MRe κ 𝒴 K E C (.Call (.Name x p1) (e :: es) [] pos) ec (bk κ ot fun v => lk κ (mf v)) := by
  have h := mr_call (pos := pos) (p1 := p1) (f := fun r : Res γ => r) c hr tk (fun r => rfl) ha hg hdb he hpl
  simpa using h
/-- a raising def that gives a new list, which stands still from here on -/
theorem mr_callRL {mf : τ → Option (Res (List γ))} (c : ∀ i, Kn.of (𝒴 i).X k x (spM K er mf (xRL ec))) (hr : ∀ i, RoomG k (𝒴 i).X.A) (tk : ∀ i, TkD (𝒴 i) E) (ha : MA κ 𝒴 C (e :: es) er ot) (hg : ∀ i, Gl (𝒴 i).X x := by exact fun _ => rfl) (hdb : (x == ("__debug__" : Str)) = false := by decide)
    (he : ∀ i, starEach (e :: es) (𝒴 i).X.env = (false, eval e (𝒴 i).X.env) :: starEach es (𝒴 i).X.env := by exact fun _ => rfl) (hpl : ∀ i, (backTo pos (starEach es (𝒴 i).X.env)).any (·.1) = false := by exact fun _ => rfl) : MRe κ 𝒴 K E C (.Call (.Name x p1) (e :: es) [] pos) (eL ec) (bk κ ot fun v => lk κ (mf v)) :=
  ⟨fun n ev gF g S Kc hK Q hQ hQe => ⟨_, fun i => q_call (c i) (hr i) (tk i) (hg i) (BA.q i) hdb (he i) (hpl i), ha.run n ev gF g S _ hK.bind _ fun v n1 ds gF1 g1 l1 S1 r1 k1 => by
    obtain ⟨r, q, kz⟩ := lkg k1
    refine ⟨gF1, v, r, S1.lg, r1, q, ?_⟩
    cases r with
    | ok l =>
      refine fun a ds' gF2 g2 y h1 h2 h3 r2 => ?_
      have S2 := S1.ext (ext_call l1 y)
      obtain ⟨fp, w1, w2⟩ := S1.ow
      have w1' := w1.keep (gF' := gF2) (g' := g2) y.lF fun b hb => ⟨fun m e => y.keep0 b m e, fun e1 e2 => y.disj b e1 e2⟩
      have S3 : Sx1 C g n1 ev gF2 g2 (lOV (l.map ec)) (.v (.ref a)) := by
        refine ⟨S2.fr, ⟨fp, [a], w1', .l h3 (owL_of r2), ?_, fun b hb => ?_⟩, S2.ex, S2.bs, S2.p, S2.len⟩
        · rw [List.singleton_append, List.nodup_cons]
          exact ⟨fun hm => w1.there a hm h2, w2⟩
        · have e : b = a := by simpa using hb
          subst e
          refine ⟨h1, ?_, l1.no _ h2⟩
          cases q : C.B.g.o b with
          | none => rfl
          | some m => exact absurd h2 (S1.bs.there b (by rw [q]; simp))
      obtain ⟨gF3, l3, S4, r4⟩ := S3.freeze (Ext.trans0 l1 (ext_call l1 y))
      exact hQ l n1 _ gF3 g2 l3 S4 r4 kz
    | er c => exact fun gF2 g2 y => hQe c n1 gF2 g2 (Ext.trans0 l1 (ext_call l1 y)) (S1.ext (ext_call l1 y)) kz⟩⟩
end
/-! ### calls that draw -/
section
variable {ι : Type} {𝒴 : ι → Yx} {K : PySem.W.Frag} {E : ExE} {C : Ct} {e e0 : Expr} {es : List Expr} {k : Nat} {x : Str} {τ ρ γ α : Type} {er : τ → List PyData} {ec : γ → PyData} {oa : Mk true τ} {pos p1 p2 : Pos} {pa ca : Addr}
theorem bk_lk {α : Type} {o : Mk true α} : (bk true o fun r => lk true (some r)) = o := by
  funext p
  show Option.bind (o p) _ = o p
  cases h : o p with
  | none => rfl
  | some q => rfl
theorem me_callXV {mf : τ → Mk true γ} (c : ∀ i, Kn.of (𝒴 i).X k x (spX K er mf (xV ec))) (hr : ∀ i, RoomG k (𝒴 i).X.A) (tk : ∀ i, TkD (𝒴 i) E) (h0 : MPen 𝒴 C e0 pa) (ha : MA true 𝒴 C es er oa) (hp : C.p = some (pa, ca) := by rfl) (hg : ∀ i, Gl (𝒴 i).X x := by exact fun _ => rfl) (hdb : (x == ("__debug__" : Str)) = false := by decide)
    (he : ∀ i, starEach (e0 :: es) (𝒴 i).X.env = (false, eval e0 (𝒴 i).X.env) :: starEach es (𝒴 i).X.env := by exact fun _ => rfl) (hpl : ∀ i, (backTo pos (starEach es (𝒴 i).X.env)).any (·.1) = false := by exact fun _ => rfl) : ME true 𝒴 C (.Call (.Name x p1) (e0 :: es) [] pos) ec (bk true oa fun v => mf v) := by
  have h := me_callX (pos := pos) (p1 := p1) c hr tk (f := some) (fun r z h => by cases h; rfl) h0 ha hp hg hdb he hpl
  have q : (fun v => bk true (mf v) fun r => lk true (some r)) = fun v => mf v := funext fun v => bk_lk
  rw [q] at h
  exact h
theorem mn_callXV {mf : τ → Mk true (List γ)} (c : ∀ i, Kn.of (𝒴 i).X k x (spX K er mf (xL ec))) (hr : ∀ i, RoomG k (𝒴 i).X.A) (tk : ∀ i, TkD (𝒴 i) E) (h0 : MPen 𝒴 C e0 pa) (ha : MA true 𝒴 C es er oa) (hp : C.p = some (pa, ca) := by rfl) (hg : ∀ i, Gl (𝒴 i).X x := by exact fun _ => rfl) (hdb : (x == ("__debug__" : Str)) = false := by decide)
    (he : ∀ i, starEach (e0 :: es) (𝒴 i).X.env = (false, eval e0 (𝒴 i).X.env) :: starEach es (𝒴 i).X.env := by exact fun _ => rfl) (hpl : ∀ i, (backTo pos (starEach es (𝒴 i).X.env)).any (·.1) = false := by exact fun _ => rfl) : MN true 𝒴 C (.Call (.Name x p1) (e0 :: es) [] pos) (vL ec) (bk true oa fun v => mf v) := by
  have h := mn_callX (pos := pos) (p1 := p1) (er' := fun l : List γ => l.map ec) c hr tk (f := some) (fun r z h => by cases h; rfl) h0 ha hp hg hdb he hpl
  have q : (fun v => bk true (mf v) fun r => lk true (some r)) = fun v => mf v := funext fun v => bk_lk
  rw [q] at h
  exact h
end
/-! ### ends of blocks -/
section
variable {ι : Type} {𝒴 : ι → Yx} {κ : Bool} {K : PySem.W.Frag} {E : ExE} {C : Ct} {σ ρ : Type} {Cn : σ → Ct} {xr : ρ → RetV} {rest : List Stmt} {α : Type} {ea : α → PyData} {l : List α} {x : Str} {p1 pos : Pos}
theorem ms_none : MS κ 𝒴 K E C rest Cn xr (lk κ none) := ⟨fun n ev gF g S Kc hK en hE => by
  obtain ⟨v, e, _⟩ := Good.lk (κ := κ) hK
  cases e⟩
/-- an owned list is handed out -/
theorem ms_retO (i : Nat) (f : List α → ρ) (hx : ∀ v, xr (f v) = .new (v.map ea)) (hi : C.O.lookup i = some (false, vL ea l) := by rfl) (hN : ∀ j, (𝒴 j).X.N[i]? = some x := by exact fun _ => rfl) (hv : ∀ j, Vis (𝒴 j).X.env.scope x := by first | exact fun _ => Or.inl rfl | exact fun _ => Or.inr (Or.inl rfl) | exact fun _ => Or.inr (Or.inr rfl))
    (hd : (x == ("__debug__" : Str)) = false := by decide) (hcd : (x == ("__classdict__" : Str)) = false := by decide) : MS κ 𝒴 K E C [.Return (some (.Name x p1)) pos] Cn xr (pk κ (.rt (f l))) :=
  ⟨fun n ev gF g S Kc hK en hE => ⟨_, fun j => qs_one (qs_ret (qv i (hN j) (hv j) hd hcd)), by
    obtain ⟨fp, h1, h2⟩ := S.ow
    obtain ⟨d, f1, f2, e1, e2, e3, e4, e5, e6⟩ := h1.take h2 hi
    cases e2 with
    | l h5 h6 =>
      obtain ⟨r, rfl⟩ := owL_to h6
      have z : Exit K E C.B en (xr (f l)) n := hE (.rt (f l)) n hK.pk
      rw [hx] at z
      have q := e3 _ (List.mem_cons_self ..)
      exact ⟨_, e1, z _ _ gF g S.bs q.1 q.2 h5 r⟩⟩⟩
theorem sub_of {C C' : Ct} (hF : SubF C'.F C.F) (hO : C.O = C'.O := by rfl) (hX : C.X = C'.X := by rfl) (hp : C.p = C'.p := by rfl) (hB : C.B = C'.B := by rfl) (hN : C.N = C'.N := by rfl) : Sub C C' :=
  ⟨hF.at, fun B gF g ev fp h => ⟨fp, by rw [hO]; exact h, List.Sublist.refl _⟩, fun i x h => by rw [← hX]; exact h, hp, hB, hN⟩
end
/-! ### the same data under another type -/
section
variable {α β γ δ α' β' γ' δ' : Type} {ea : α → PyData} {eb : β → PyData} {ec : γ → PyData} {ed : δ → PyData} {ea' : α' → PyData} {eb' : β' → PyData} {ec' : γ' → PyData} {ed' : δ' → PyData} {f : α → α'} {h : β → β'} {k : γ → γ'} {m : δ → δ'}
theorem cov_T (p : ∀ v, ea v = ea' (f v)) : ∀ v, eT ea v = eT ea' (v.map f) := fun v => by
  unfold eT
  rw [List.map_map]
  exact congrArg PyData.tuple (List.map_congr_left fun x _ => p x)
theorem cov_L (p : ∀ v, ea v = ea' (f v)) : ∀ v, eL ea v = eL ea' (v.map f) := fun v => by
  unfold eL
  rw [List.map_map]
  exact congrArg PyData.list (List.map_congr_left fun x _ => p x)
theorem cov_O (p : ∀ v, ea v = ea' (f v)) : ∀ v, eO ea v = eO ea' (v.map f) := fun v => by
  cases v with
  | none => rfl
  | some a => exact p a
theorem cov_P2 (p : ∀ v, ea v = ea' (f v)) (q : ∀ v, eb v = eb' (h v)) : ∀ v : α × β, eP2 ea eb v = eP2 ea' eb' (f v.1, h v.2) := fun v => by
  unfold eP2
  rw [p, q]
theorem cov_P3 (p : ∀ v, ea v = ea' (f v)) (q : ∀ v, eb v = eb' (h v)) (r : ∀ v, ec v = ec' (k v)) : ∀ v : α × β × γ, eP3 ea eb ec v = eP3 ea' eb' ec' (f v.1, h v.2.1, k v.2.2) := fun v => by
  unfold eP3
  rw [p, q, r]
theorem cov_P4 (p : ∀ v, ea v = ea' (f v)) (q : ∀ v, eb v = eb' (h v)) (r : ∀ v, ec v = ec' (k v)) (s : ∀ v, ed v = ed' (m v)) : ∀ v : α × β × γ × δ, eP4 ea eb ec ed v = eP4 ea' eb' ec' ed' (f v.1, h v.2.1, k v.2.2.1, m v.2.2.2) := fun v => by
  unfold eP4
  rw [p, q, r, s]
end
/-! ### data as it is written -/
section
variable {ι : Type} {𝒴 : ι → Yx} {κ : Bool} {C : Ct} {e : Expr} {es : List Expr} {α : Type} {ea : α → PyData} {p : PyData} {ps : List PyData} {pos p1 : Pos} {x : Str}
abbrev ML {ι : Type} (κ : Bool) (𝒴 : ι → Yx) (C : Ct) (e : Expr) (p : PyData) : Prop := ME κ 𝒴 C e (fun _ : Unit => p) (pk κ ())
abbrev MLs {ι : Type} (κ : Bool) (𝒴 : ι → Yx) (C : Ct) (es : List Expr) (ps : List PyData) : Prop := MA κ 𝒴 C es (fun _ : Unit => ps) (pk κ ())
theorem ml_of {v : α} (h : ME κ 𝒴 C e ea (pk κ v)) : ML κ 𝒴 C e (ea v) := ⟨fun n ev gF g S K hK Q hQ => h.run n ev gF g S (fun v' p => v' = v ∧ K () p) (fun p hp => Gd.to_lk (κ := κ) (o := some v) rfl ⟨rfl, hK.pk p hp⟩) Q fun v' n' d gF' g' l S' r k => by
  have e := (k (pn0 n') rfl).1
  subst e
  exact hQ () n' d gF' g' l S' r fun p hp => (k p hp).2⟩
theorem ml_int {i : Int} {j} : ML κ 𝒴 C (.Constant (.int i) j pos) (.int i) := ml_of me_int
theorem ml_bl {i : Bool} {j} : ML κ 𝒴 C (.Constant (.bool i) j pos) (.bool i) := ml_of me_bl
theorem ml_str {i : Str} {j} : ML κ 𝒴 C (.Constant (.str i) j pos) (.str i) := ml_of me_str
theorem ml_non {j} : ML κ 𝒴 C (.Constant .none j pos) .none := ml_of me_non
theorem ml_neg {i : Int} (h : ML κ 𝒴 C e (.int i)) : ML κ 𝒴 C (.UnaryOp .USub e pos) (.int (-i)) :=
  ME.mk (fun i => q_neg (BE.q i)) ⟨fun n ev gF g S K hK Q hQ => h.run n ev gF g S K hK _ fun _ n1 d gF1 g1 l1 S1 r1 k1 => by
    cases r1
    exact ⟨i, rfl, hQ () n1 _ gF1 g1 l1 S1 (.int _) k1⟩⟩
theorem mls_nil : MLs κ 𝒴 C [] [] := MA.mk (fun _ => qa_nil) ⟨fun n ev gF g S K hK Q hQ => hQ () n [] gF g (Ext.refl S.lg S.nn) S .nil hK.pk⟩
theorem mls_cons (h : ML κ 𝒴 C e p) (hr : MLs κ 𝒴 C es ps) (hs : ∀ i, starEach (e :: es) (𝒴 i).X.env = (false, eval e (𝒴 i).X.env) :: starEach es (𝒴 i).X.env := by exact fun _ => rfl) : MLs κ 𝒴 C (e :: es) (p :: ps) :=
  MA.mk (fun i => qa_cons (BE.q i) (BA.q i) (hs i)) ⟨fun n ev gF g S K hK Q hQ => h.run n ev gF g S K hK _ fun _ n1 d gF1 g1 l1 S1 r1 k1 =>
    hr.run n1 ev gF1 g1 S1 K (fun p hp => Gd.to_lk (κ := κ) (o := some ()) rfl (k1 p hp)) _ fun _ n2 ds gF2 g2 l2 S2 r2 k2 => hQ () n2 _ gF2 g2 (Ext.trans0 l1 l2) S2 (.cons (oLe l2.lF r1) r2) k2⟩
theorem ml_tup {x1} (h : MLs κ 𝒴 C es ps) (hz : ps.length ≤ 1000 := by exact Nat.le_of_ble_eq_true rfl) : ML κ 𝒴 C (.Tuple es x1 pos) (.tuple ps) := me_tup h fun _ => hz
theorem mfl_lst (h : MLs κ 𝒴 C es ps) (hz : ps.length ≤ 1000 := by exact Nat.le_of_ble_eq_true rfl) : MF κ 𝒴 C (.List es pos) (fun _ : Unit => ps) (pk κ ()) := mf_lst h fun _ => hz
theorem ml_lst (h : MLs κ 𝒴 C es ps) (hz : ps.length ≤ 1000 := by exact Nat.le_of_ble_eq_true rfl) : ML κ 𝒴 C (.List es pos) (.list ps) := me_F (mfl_lst h hz)
theorem me_lit (h : ML κ 𝒴 C e p) : ME κ 𝒴 C e eA (pk κ p) := ⟨fun n ev gF g S K hK Q hQ => h.run n ev gF g S (fun _ q => K p q) (fun q hq => Gd.to_lk (κ := κ) (o := some ()) rfl (hK.pk q hq)) Q fun _ n' d gF' g' l S' r k => hQ p n' d gF' g' l S' r k⟩
theorem mf_lit (h : MLs κ 𝒴 C es ps) (hz : ps.length ≤ 1000 := by exact Nat.le_of_ble_eq_true rfl) : MF κ 𝒴 C (.List es pos) (fun l => l.map eA) (pk κ ps) := ⟨fun n ev gF g S K hK Q hQ => (mfl_lst h hz).run n ev gF g S (fun _ q => K ps q) (fun q hq => Gd.to_lk (κ := κ) (o := some ()) rfl (hK.pk q hq)) Q fun _ n' ds gF' g' l S' r k => hQ ps n' ds gF' g' l S' (by simpa [eA] using r) k⟩
/-- typed literals -/
theorem me_litT {v : α} (h : ML κ 𝒴 C e p) (hv : p = ea v := by rfl) : ME κ 𝒴 C e ea (pk κ v) := ⟨fun n ev gF g S K hK Q hQ => h.run n ev gF g S (fun _ q => K v q) (fun q hq => Gd.to_lk (κ := κ) (o := some ()) rfl (hK.pk q hq)) Q fun _ n' d gF' g' l S' r k => hQ v n' d gF' g' l S' (hv ▸ r) k⟩
theorem mf_litT {l : List α} (h : MLs κ 𝒴 C es ps) (hl : ps = l.map ea := by rfl) (hz : ps.length ≤ 1000 := by exact Nat.le_of_ble_eq_true rfl) : MF κ 𝒴 C (.List es pos) (fun l => l.map ea) (pk κ l) := ⟨fun n ev gF g S K hK Q hQ => (mfl_lst h hz).run n ev gF g S (fun _ q => K l q) (fun q hq => Gd.to_lk (κ := κ) (o := some ()) rfl (hK.pk q hq)) Q fun _ n' ds gF' g' y S' r k => hQ l n' ds gF' g' y S' (hl ▸ r) k⟩
end
/-! ### data read as typed -/
def dI : PyData → Option Int
  | .int i => some i
  | _ => none
def dB : PyData → Option Bool
  | .bool i => some i
  | _ => none
def dS : PyData → Option Str
  | .str i => some i
  | _ => none
def dN : PyData → Option Unit
  | .none => some ()
  | _ => none
def dA : PyData → Option PyData := some
def dAll {α : Type} (f : PyData → Option α) : List PyData → Option (List α)
  | [] => some []
  | p :: ps => (f p).bind fun a => (dAll f ps).bind fun l => some (a :: l)
def dT {α : Type} (f : PyData → Option α) : PyData → Option (List α)
  | .tuple ps => dAll f ps
  | _ => none
def dL {α : Type} (f : PyData → Option α) : PyData → Option (List α)
  | .list ps => dAll f ps
  | _ => none
def dO {α : Type} (f : PyData → Option α) : PyData → Option (Option α)
  | .none => some none
  | p => (f p).map some
def dP2 {α β : Type} (f : PyData → Option α) (h : PyData → Option β) : PyData → Option (α × β)
  | .tuple [p, q] => (f p).bind fun a => (h q).bind fun b => some (a, b)
  | _ => none
def dP3 {α β γ : Type} (f : PyData → Option α) (h : PyData → Option β) (k : PyData → Option γ) : PyData → Option (α × β × γ)
  | .tuple [p, q, r] => (f p).bind fun a => (h q).bind fun b => (k r).bind fun c => some (a, b, c)
  | _ => none
def Dec {α : Type} (f : PyData → Option α) (e : α → PyData) : Prop := ∀ p v, f p = some v → p = e v
theorem cI : Dec dI eI := fun p v h => by cases p <;> simp [dI] at h; subst h; rfl
theorem cB : Dec dB eB := fun p v h => by cases p <;> simp [dB] at h; subst h; rfl
theorem cS : Dec dS eS := fun p v h => by cases p <;> simp [dS] at h; subst h; rfl
theorem cN : Dec dN eN := fun p v h => by cases p <;> simp [dN] at h; rfl
theorem cA : Dec dA eA := fun p v h => by cases h; rfl
section
variable {α β γ : Type} {f : PyData → Option α} {h : PyData → Option β} {k : PyData → Option γ} {ea : α → PyData} {eb : β → PyData} {ec : γ → PyData}
theorem cAll (c : Dec f ea) : ∀ (ps : List PyData) (l : List α), dAll f ps = some l → ps = l.map ea
  | [], l, e => by cases e; rfl
  | p :: ps, l, e => by
    unfold dAll at e
    cases q : f p with
    | none => rw [q] at e; cases e
    | some a =>
      cases q2 : dAll f ps with
      | none => rw [q, q2] at e; cases e
      | some r => rw [q, q2] at e; cases e; rw [c p a q, cAll c ps r q2]; rfl
theorem cT (c : Dec f ea) : Dec (SK.dT f) (eT ea) := fun p v e => by
  cases p <;> simp [SK.dT] at e
  rw [cAll c _ _ e]; rfl
theorem cL (c : Dec f ea) : Dec (SK.dL f) (eL ea) := fun p v e => by
  cases p <;> simp [SK.dL] at e
  rw [cAll c _ _ e]; rfl
theorem cO (c : Dec f ea) : Dec (SK.dO f) (eO ea) := fun p v e => by
  unfold SK.dO at e
  split at e
  · cases e; rfl
  · cases q : f p with
    | none => rw [q] at e; cases e
    | some a => rw [q] at e; cases e; exact c p a q
theorem cP2 (c : Dec f ea) (d : Dec h eb) : Dec (SK.dP2 f h) (eP2 ea eb) := fun p v e => by
  unfold SK.dP2 at e
  split at e
  · rename_i x y
    cases q : f x with
    | none => rw [q] at e; cases e
    | some a =>
      cases q2 : h y with
      | none => rw [q, q2] at e; cases e
      | some b => rw [q, q2] at e; cases e; rw [c x a q, d y b q2]; rfl
  · cases e
theorem cP3 (c : Dec f ea) (d : Dec h eb) (g : Dec k ec) : Dec (SK.dP3 f h k) (eP3 ea eb ec) := fun p v e => by
  unfold SK.dP3 at e
  split at e
  · rename_i x y z
    cases q : f x with
    | none => rw [q] at e; cases e
    | some a =>
      cases q2 : h y with
      | none => rw [q, q2] at e; cases e
      | some b =>
        cases q3 : k z with
        | none => rw [q, q2, q3] at e; cases e
        | some w => rw [q, q2, q3] at e; cases e; rw [c x a q, d y b q2, g z w q3]; rfl
  · cases e
end
end SK
end
section
set_option maxHeartbeats 4000000
namespace SK
open PySem PySem.Spec PyProof.Rows L2

/-! ### the law's own draws: what their defs promise -/
def sp__law_spread : Sp' := fun ds g Q E => ∃ c a : Int, ds = [iD c, iD a] ∧ 0 ≤ a ∧ a < 2 ^ 31 ∧ ∀ v : Int, 0 ≤ v → Q (iD v) g
def spPrimes : List Int := [2147483629, 2147483587, 2147483579, 2147483563, 2147483549, 2147483543, 2147483497, 2147483489, 2147483477, 2147483423, 2147483399, 2147483353, 2147483323]
theorem prime_at {i : Int} (h0 : 0 ≤ i) (h1 : i < 13) : ∃ q : Int, atD (isD spPrimes) i = some (iD q) ∧ 0 < q ∧ q < 2147483648 := by
  have : i = 0 ∨ i = 1 ∨ i = 2 ∨ i = 3 ∨ i = 4 ∨ i = 5 ∨ i = 6 ∨ i = 7 ∨ i = 8 ∨ i = 9 ∨ i = 10 ∨ i = 11 ∨ i = 12 := by omega
  rcases this with h | h | h | h | h | h | h | h | h | h | h | h | h <;> subst h <;> exact ⟨_, rfl, by decide, by decide⟩
def sp1__law_take : Sp' := fun ds g Q E => ∃ pa ca cs i c m, ds = [.v (.ref pa), iD m] ∧ Pen g pa ca cs i c ∧ 0 < m ∧ m < 2 ^ 30 ∧ 0 ≤ i ∧ i < 2 ^ 31 ∧ 0 ≤ c ∧
  ∀ k i' c', 0 ≤ k → k < m → 0 ≤ i' → i' ≤ i + 1 → 0 ≤ c' → Q (iD k) (g.put pa (.lst [.v (.ref ca), iD i', iD c']))
def sp__law_take : Sp' := fun ds g Q E => ∃ pa ca m, ds = [.v (.ref pa), iD m] ∧ g.p = some (pa, ca) ∧ 0 < m ∧ m < 2 ^ 30 ∧ g.n < 2 ^ 31 ∧ ∀ k : Int, 0 ≤ k → k < m → Q (iD k) { g with n := g.n + 1 }
theorem pen_ix0 {g : G} {pa ca : Addr} {x y : Int} (h : g.o pa = some (.lst [.v (.ref ca), iD x, iD y])) {ta : TE'} {e : Ev} (a : Vl ta e g (.v (.ref pa))) : Vl (tO dIx ta (tK (.v (.int 0)))) e g (.v (.ref ca)) := vl_ix a vl_k (lst_items h) rfl
theorem pen_ix1 {g : G} {pa ca : Addr} {x y : Int} (h : g.o pa = some (.lst [.v (.ref ca), iD x, iD y])) {ta : TE'} {e : Ev} (a : Vl ta e g (.v (.ref pa))) : Vl (tO dIx ta (tK (.v (.int 1)))) e g (iD x) := vl_ix a vl_k (lst_items h) rfl
theorem pen_ix2 {g : G} {pa ca : Addr} {x y : Int} (h : g.o pa = some (.lst [.v (.ref ca), iD x, iD y])) {ta : TE'} {e : Ev} (a : Vl ta e g (.v (.ref pa))) : Vl (tO dIx ta (tK (.v (.int 2)))) e g (iD y) := vl_ix a vl_k (lst_items h) rfl
def sp__law_one : Sp' := fun ds g Q E => ∃ pa ca d xs, ds = [.v (.ref pa), d] ∧ g.p = some (pa, ca) ∧ g.n < 2 ^ 31 ∧ items g d = some xs ∧ xs ≠ [] ∧ xs.length < 2 ^ 30 ∧ ∀ x ∈ xs, Q x (g.tick 1)
/-- one of some data -/
theorem one_lt {te : TE'} {e : Ev} {g : G} {pa ca : Addr} {ps : List PyData} {Q : DK} {E : ExE} (h : Lt te e g (.list ps)) (he : e[0]? = some (some (.v (.ref pa)))) (hp : g.p = some (pa, ca)) (hn : g.n < 2 ^ 31) (h0 : ps ≠ []) (hz : ps.length < 2 ^ 30)
    (k : ∀ p ∈ ps, ∀ g' d, Le (g.tick 1) g' → PF g' d p → Q d g') : uFn sp__law_one E (uCons (tV 0) (uCons te uNil)) e g Q :=
  ⟨_, he, h g .refl _ fun g' d l r => by
    obtain ⟨a, ds, rfl, ha, hl⟩ := r.list
    obtain ⟨p1, p2⟩ := l.pen hp
    have hlen := hl.length
    refine ⟨pa, ca, _, ds, rfl, p1, Nat.lt_of_le_of_lt p2 hn, lst_items ha, fun z => h0 (by subst z; exact List.eq_nil_of_length_eq_zero hlen.symm), by omega, fun x hx => ?_⟩
    obtain ⟨i, hi, e1⟩ := List.mem_iff_getElem.mp hx
    have hi' : i < ps.length := by omega
    obtain ⟨d', e2, r2⟩ := hl.get (List.getElem?_eq_getElem hi')
    rw [List.getElem?_eq_getElem hi, e1] at e2
    cases e2
    exact k _ (List.getElem_mem hi') _ _ l.tick r2.tick⟩
theorem seq_one {te : TE'} {e : Ev} {g : G} {pa ca : Addr} {ps : List PyData} {E : ExE} {j : Nat} {u : TS'} {Z : En} (h : Lt te e g (.list ps)) (he : e[0]? = some (some (.v (.ref pa)))) (hp : g.p = some (pa, ca)) (hn : g.n < 2 ^ 31) (h0 : ps ≠ []) (hz : ps.length < 2 ^ 30)
    (k : ∀ p ∈ ps, ∀ g' d, Le (g.tick 1) g' → PF g' d p → u Z (e.set j (some d)) g') : sSeq (sAsg (uFn sp__law_one E (uCons (tV 0) (uCons te uNil))) (vName j)) u Z e g := one_lt h he hp hn h0 hz k
def sp1__law_anew : Sp' := fun ds g Q E => ∃ pa ca cs i c, ds = [.v (.ref pa)] ∧ Pen g pa ca cs i c ∧ Q (.v (.ref pa)) (g.put pa (.lst [.v (.ref ca), iD i, iD 0]))
def sp__law_anew : Sp' := fun ds g Q E => ∃ pa ca, ds = [.v (.ref pa)] ∧ g.p = some (pa, ca) ∧ Q (.v (.ref pa)) g
def sp1__law_open : Sp' := fun ds g Q E => ∃ a ns, ds = [.v (.ref a)] ∧ g.s = some (a, ns) ∧ ns.length ≤ 63 ∧ g.p = none ∧ ∀ g' pa ca cs, Le g g' → g.o pa = none → g.o ca = none → Pen g' pa ca cs 0 0 → Q (.v (.ref pa)) g'
def sp__law_open : Sp' := fun ds g Q E => ∃ a ns, ds = [.v (.ref a)] ∧ g.s = some (a, ns) ∧ ns.length ≤ 63 ∧ g.p = none ∧ ∀ pa ca, Q (.v (.ref pa)) { g with p := some (pa, ca), n := 0 }
theorem enum_ints (ns : List Int) : ∀ d ∈ enumD (isD ns), ∃ i c : Int, d = .k [iD i, iD c] ∧ 0 ≤ i := by
  intro d hd
  obtain ⟨i, hi, rfl⟩ := List.mem_map.mp hd
  have hi' : i < ns.length := by have := List.mem_range.mp hi; rwa [isD_len] at this
  refine ⟨i, ns[i], ?_, by omega⟩
  have e : (isD ns)[i]? = some (iD ns[i]) := isD_get (List.getElem?_eq_getElem hi')
  rw [List.getD_eq_getElem?_getD, e]
  rfl

/-! ### as mirrors -/
def m__law_take : Int → Mk true Int := fun v p => if 0 < v ∧ v < 2 ^ 30 ∧ p.n < 2 ^ 31 then some (((p.w 0 % v.toNat : Nat) : Int), ⟨fun i => p.w (i + 1), p.n + 1⟩) else none
def m__law_one {α : Type} (l : List α) : Mk true α := fun p => if l.length < 2 ^ 30 ∧ p.n < 2 ^ 31 then (l[p.w 0 % l.length]?).map fun a => (a, ⟨fun i => p.w (i + 1), p.n + 1⟩) else none
theorem tick_ext {gF g : G} {n : Nat} (kp : Keeps gF g) (hn : g.n ≤ n) : Ext [] gF g gF { g with n := g.n + 1 } (n + 1) :=
  ⟨fun _ _ e => e, kp, fun _ _ e _ => e, fun _ e => e, fun _ e _ => e, rfl, fun _ => Nat.succ_le_succ hn, rfl⟩
theorem pn_cons {n k : Nat} {p' : Pn} (h : p'.n = n + 1) : (⟨fun i => (⟨fun i => if i = 0 then k else p'.w (i - 1), n⟩ : Pn).w (i + 1), n + 1⟩ : Pn) = p' := by
  obtain ⟨w, m⟩ := p'
  cases h
  rfl
section
variable {P : Program} {w : World} {K : PySem.W.Frag} {mg : Str → Option Value} {base : Heap} {k : Nat}
theorem take_x (F : Kn P w K mg base k "_law_take" sp__law_take) : Kn P w K mg base k "_law_take" (spX K (fun v => [eI v]) m__law_take (xV eI)) :=
  F.imp (Nat.le_refl _) fun ds g Q E ⟨pa, ca, ds', gF, v, n, Kc, ed, hp, hn, kp, l, hK, ex⟩ => by
    cases l with
    | cons r1 r2 =>
      cases r2
      cases r1
      obtain ⟨z, p', e, _⟩ := hK (pn0 n) rfl
      have c : 0 < v ∧ v < 2 ^ 30 ∧ n < 2 ^ 31 := by
        refine Classical.byContradiction fun h => ?_
        have : m__law_take v (pn0 n) = none := if_neg h
        rw [this] at e; cases e
      refine ⟨pa, ca, v, ed, hp, c.1, c.2.1, Nat.lt_of_le_of_lt hn c.2.2, fun k h0 h1 => ?_⟩
      refine ex k (n + 1) (fun p' hp' => ?_) _ gF _ (tick_ext kp hn) (.int _)
      obtain ⟨z2, q2, e2, k2⟩ := hK ⟨fun i => if i = 0 then k.toNat else p'.w (i - 1), n⟩ rfl
      have e3 : m__law_take v ⟨fun i => if i = 0 then k.toNat else p'.w (i - 1), n⟩ = some (((k.toNat % v.toNat : Nat) : Int), ⟨fun i => (⟨fun i => if i = 0 then k.toNat else p'.w (i - 1), n⟩ : Pn).w (i + 1), n + 1⟩) := if_pos c
      rw [pn_cons hp'] at e3
      rw [e3] at e2
      cases e2
      have : ((k.toNat % v.toNat : Nat) : Int) = k := by
        rw [Nat.mod_eq_of_lt (by omega)]
        omega
      rwa [this] at k2
end
section
variable {ι : Type} {𝒴 : ι → Yx} {K : PySem.W.Frag} {E : ExE} {C : Ct} {e e0 : Expr} {k : Nat} {α : Type} {ea : α → PyData} {es' : List α → PyData} {oa : Mk true (List α)} {pos p1 p2 : Pos} {pa ca : Addr}
theorem me_one (c : ∀ i, Kn.of (𝒴 i).X k "_law_one" sp__law_one) (hr : ∀ i, RoomG k (𝒴 i).X.A) (tk : ∀ i, TkD (𝒴 i) E) (hq : Sq' es' (fun l => l.map ea)) (h0 : MPen 𝒴 C e0 pa) (ha : MA true 𝒴 C [e] (fun v => [es' v]) oa) (hp : C.p = some (pa, ca) := by rfl) (hg : ∀ i, Gl (𝒴 i).X "_law_one" := by exact fun _ => rfl)
    (he : ∀ i, starEach [e0, e] (𝒴 i).X.env = (false, eval e0 (𝒴 i).X.env) :: starEach [e] (𝒴 i).X.env := by exact fun _ => rfl) (hpl : ∀ i, (backTo pos (starEach [e] (𝒴 i).X.env)).any (·.1) = false := by exact fun _ => rfl) : ME true 𝒴 C (.Call (.Name "_law_one" p1) [e0, e] [] pos) ea (bk true oa fun l => m__law_one l) :=
  ME.mk (fun i => q_call (c i) (hr i) (tk i) (hg i) (qa_cons (BE.q i) (BA.q i) (he i)) (by decide) (he i) (hpl i)) ⟨fun n ev gF g S Kc hK Q hQ => h0.run n ev gF g S _ fun gF0 g0 l0 S0 => ha.run n ev gF0 g0 S0 _ hK.bind _ fun l n1 ds gF1 g1 l1 S1 r1 k1 => by
    cases r1 with
    | cons r1 r2 =>
      cases r2
      obtain ⟨xs, hi, hl⟩ := items_pf r1 (hq l)
      have hn1 : g1.n ≤ n1 := S1.nn (by rw [S1.p, hp]; simp)
      have hlen := hl.length
      rw [List.length_map] at hlen
      obtain ⟨z, p', e, _⟩ := k1 (pn0 n1) rfl
      have c : (l.length < 2 ^ 30 ∧ n1 < 2 ^ 31) := by
        refine Classical.byContradiction fun h => ?_
        have : m__law_one l (pn0 n1) = none := if_neg h
        rw [this] at e; cases e
      have ne : l ≠ [] := fun h => by
        subst h
        have : m__law_one ([] : List α) (pn0 n1) = none := by
          unfold m__law_one
          split <;> rfl
        rw [this] at e; cases e
      refine ⟨pa, ca, _, xs, rfl, S1.p.trans hp, Nat.lt_of_le_of_lt hn1 c.2, items_keep S1.lg hi, fun h => ne (List.eq_nil_of_length_eq_zero (by rw [← hlen, h]; rfl)), by omega, fun x hx => ?_⟩
      obtain ⟨j, hj, e1⟩ := List.mem_iff_getElem.mp hx
      have hj' : j < l.length := by omega
      obtain ⟨d', e2, r2⟩ := hl.get (show (l.map ea)[j]? = some (ea l[j]) by rw [List.getElem?_map, List.getElem?_eq_getElem hj']; rfl)
      rw [List.getElem?_eq_getElem hj, e1] at e2
      cases e2
      have y := tick_ext S1.lg hn1
      refine hQ l[j] (n1 + 1) _ gF1 _ (Ext.trans0 l0 (Ext.trans0 l1 y)) (S1.ext y) r2 fun p' hp' => ?_
      obtain ⟨z2, q2, e2, k2⟩ := k1 ⟨fun i => if i = 0 then j else p'.w (i - 1), n1⟩ rfl
      have e3 : m__law_one l ⟨fun i => if i = 0 then j else p'.w (i - 1), n1⟩ = some (l[j], ⟨fun i => (⟨fun i => if i = 0 then j else p'.w (i - 1), n1⟩ : Pn).w (i + 1), n1 + 1⟩) := by
        unfold m__law_one
        rw [if_pos c]
        have : j % l.length = j := Nat.mod_eq_of_lt hj'
        simp only [this, if_true, List.getElem?_eq_getElem hj']
        rfl
      rw [pn_cons hp'] at e3
      rw [e3] at e2
      cases e2
      exact k2⟩
theorem mpen_anew (c : ∀ i, Kn.of (𝒴 i).X k "_law_anew" sp__law_anew) (hr : ∀ i, RoomG k (𝒴 i).X.A) (tk : ∀ i, TkD (𝒴 i) E) (h0 : MPen 𝒴 C e0 pa) (hp : C.p = some (pa, ca) := by rfl) (hg : ∀ i, Gl (𝒴 i).X "_law_anew" := by exact fun _ => rfl)
    (he : ∀ i, starEach [e0] (𝒴 i).X.env = (false, eval e0 (𝒴 i).X.env) :: starEach [] (𝒴 i).X.env := by exact fun _ => rfl) (hpl : ∀ i, (backTo pos (starEach [] (𝒴 i).X.env)).any (·.1) = false := by exact fun _ => rfl) : MPen 𝒴 C (.Call (.Name "_law_anew" p1) [e0] [] pos) pa :=
  ⟨fun n ev gF g S Q hQ => ⟨_, fun i => q_call (c i) (hr i) (tk i) (hg i) (qa_cons (BE.q i) qa_nil (he i)) (by decide) (he i) (hpl i), h0.run n ev gF g S _ fun gF0 g0 l0 S0 => ⟨pa, ca, rfl, S0.p.trans hp, hQ gF0 g0 l0 S0⟩⟩⟩
/-- t.count(x) -/
def oCnt {β : Type} [DecidableEq β] (l : List β) (y : β) : Int := ((l.count y : Nat) : Int)
theorem me_count {β : Type} {κ : Bool} [DecidableEq β] {eb : β → PyData} {d : Nat} {a b : Expr} {apos : Pos} {oa : Mk κ (List β)} {ob : Mk κ β} (hu : ∀ i, (𝒴 i).X.A.units + 65 < cLine) (q : EqE eb d) (hd : d ≤ 60) (ha : ME κ 𝒴 C a (eT eb) oa) (hb : ME κ 𝒴 C b eb ob)
    (hbase : ∀ i, attributeBase a "count" (𝒴 i).X.env (eval a (𝒴 i).X.env) = eval a (𝒴 i).X.env := by exact fun _ => rfl)
    (hfew : ∀ i, ((backTo pos (starEach [b] (𝒴 i).X.env)).all (fun x => !x.1) && (backToKw pos (keywordEach [] (𝒴 i).X.env)).all (fun x => x.1.isSome) && decide ([b].length + ([] : List Keyword).length + (if ([] : List Keyword).isEmpty then 0 else 1) < 30)) = true := by exact fun _ => rfl)
    (hline : (apos.endLine == pos.line) = true := by rfl) (hs : ∀ i, starEach [b] (𝒴 i).X.env = (false, eval b (𝒴 i).X.env) :: starEach [] (𝒴 i).X.env := by exact fun _ => rfl) (hplain : ∀ i, (backTo pos (starEach [] (𝒴 i).X.env)).any (·.1) = false := by exact fun _ => rfl) :
    ME κ 𝒴 C (.Call (.Attribute a "count" apos) [b] [] pos) eI (bk κ oa fun l => bk κ ob fun y => pk κ (oCnt l y)) :=
  ME.mk (fun i => q_bm PySem.F.plainAttrs_tuple PySem.F.slot_tuple_count PySem.F.type_tuple_count (m_tcnt (hu i)) (BE.q i) (qa_cons (BE.q i) qa_nil (hs i)) (hbase i) (hfew i) hline (hs i) (hplain i)) ⟨fun n ev gF g S Kc hK Q hQ => ha.run n ev gF g S _ hK.bind _ fun l n1 d1 gF1 g1 l1 S1 r1 k1 => by
    obtain ⟨ds, rfl, hl⟩ := PF.tuple r1
    refine ⟨.tup, hb.run n1 ev gF1 g1 S1 _ (bkg k1) _ fun y n2 d2 gF2 g2 l2 S2 r2 k2 => ?_⟩
    obtain ⟨lay1, lay2⟩ := lay_all q l
    refine ⟨ds, eb y, l.map eb, d2, rfl, rfl, PXL.up _ (PXL.leo S2.lg _ (PXL.leo l2.lF _ hl)), PX.up _ (oLe S2.lg r2), ?_, ?_, by omega, ?_⟩
    · exact PyData.plainAll_of_canLay0 _ lay1
    · exact PyData.plain_of_canLay0 _ (q.lay y).1
    · have : (l.map eb).countP (fun z => PyData.eqv z (eb y)) = l.count y := by
        rw [List.countP_map, List.count]
        refine List.countP_congr fun x _ => ?_
        simp [Function.comp, q.eqv]
      rw [this]
      exact hQ _ n2 _ gF2 g2 (Ext.trans0 l1 l2) S2 (.int _) (pkg k2)⟩
end
end SK
end
section
set_option maxHeartbeats 4000000
namespace SK
open PySem PySem.Spec PyProof.Rows L2

/-! ### a try's body: an error leaves with what is known of Cx -/
structure MB {ι : Type} (κ : Bool) (𝒴 : ι → Yx) (K : PySem.W.Frag) (E : ExE) (Cx C : Ct) (sts : List Stmt) {σ : Type} (Cm : σ → Ct) (o : Mk κ (Res σ)) : Prop where
  run : ∀ n ev gF g, Sx C n ev gF g → ∀ Kc, Good κ n o Kc → ∀ en : En, (∀ s n' ev' gF' g', (∀ p, p.n = n' → Kc (.ok s) p) → Keeps gF gF' → Sx (Cm s) n' ev' gF' g' → en.nx ev' g') →
    (∀ c n' ev' gF' g', (∀ p, p.n = n' → Kc (.er c) p) → Keeps gF gF' → Sx Cx n' ev' gF' g' → E (exC K c) none ev' g') → BSs 𝒴 sts en ev g
section
variable {ι : Type} {𝒴 : ι → Yx} {κ : Bool} {K : PySem.W.Frag} {E : ExE} {Cx C : Ct} {σ : Type} {Cm : σ → Ct} {e c : Expr} {rest : List Stmt} {α : Type} {ea : α → PyData} {or : Mk κ (Res α)} {kr : α → Mk κ (Res σ)} {pos : Pos}
/-- what follows a value; an error stays one -/
def rr (κ : Bool) {α σ : Type} (o : Mk κ (Res α)) (k : α → Mk κ (Res σ)) : Mk κ (Res σ) := bk κ o fun
  | .ok a => k a
  | .er c => pk κ (.er c)
theorem rr_run {n : Nat} {Kc : Res σ → Pn → Prop} (h : Good κ n (rr κ or kr) Kc) : Good κ n or fun r p => Gd κ (match r with
    | .ok a => kr a
    | .er c => pk κ (.er c)) p Kc := fun p hp => (Gd.bind (show Gd κ (bk κ or _) p Kc from h p hp)).imp fun r p q => by cases r <;> exact q
theorem mb_nil {s : σ} (h : Sub (Cm s) C) : MB κ 𝒴 K E Cx C [] Cm (pk κ (.ok s)) := ⟨fun n ev gF g S Kc hK en hN hE => ⟨_, fun i => qs_nil, hN s n ev gF g hK.pk Keeps.refl (S.sub h)⟩⟩
theorem mb_exprE (hx : Sub Cx C) (h : MRe κ 𝒴 K E C e ea or) (hr : ∀ v, MB κ 𝒴 K E Cx C rest Cm (kr v)) (hs : ∀ j, swapsWith e none pos.line (𝒴 j).X.env = pure false := by exact fun _ => rfl) : MB κ 𝒴 K E Cx C (.Expr e pos :: rest) Cm (rr κ or kr) :=
  ⟨fun n ev gF g S Kc hK en hN hE => ⟨_, fun i => qs_cons (qs_expr (BE.q i) (hs i)) (BSs.q i), h.run n ev gF g S _ (rr_run hK) _ (fun v n1 d gF1 g1 l1 S1 r1 k1 => (hr v).run n1 ev gF1 g1 S1 _ (good k1) en (fun s n2 ev' gF2 g2 k2 l2 S2 => hN s n2 ev' gF2 g2 k2 (Keeps.trans l1.lF l2) S2) fun c n2 ev' gF2 g2 k2 l2 S2 => hE c n2 ev' gF2 g2 k2 (Keeps.trans l1.lF l2) S2)
    fun c n1 gF1 g1 l1 S1 k1 => hE c n1 ev gF1 g1 (pkg k1) l1.lF (S1.sub hx)⟩⟩
theorem mb_setE (hx : Sub Cx C) (i : Nat) {x : Str} {pos' : Pos} (hN : ∀ j, (𝒴 j).X.N.Nodup) (h : MRe κ 𝒴 K E C e ea or) (hr : ∀ v, MB κ 𝒴 K E Cx (C.setF i (ea v)) rest Cm (kr v)) (hi : ∀ j, (𝒴 j).X.N[i]? = some x := by exact fun _ => rfl) (hxx : ∀ j, Loc (𝒴 j).X.env.scope x := by first | exact fun _ => .inl rfl | exact fun _ => .inr rfl) (hs : ∀ j, swapsWith e (some (.Name x pos')) pos.line (𝒴 j).X.env = pure false := by exact fun _ => rfl) (hf : ∀ j, (𝒴 j).X.fn x = true ∨ (𝒴 j).X.env.scope.names.lookup x = some .local := by first | exact fun _ => .inl rfl | exact fun _ => .inr rfl)
    (hlt : i < C.N := by exact Nat.le_of_ble_eq_true rfl) (hO : C.O.lookup i = none := by rfl) (hX : C.X.lookup i = none := by rfl) : MB κ 𝒴 K E Cx C (.Assign [.Name x pos'] e pos :: rest) Cm (rr κ or kr) :=
  ⟨fun n ev gF g S Kc hK en hN' hE => ⟨_, fun j => qs_cons (qs_set i (hN j) (BE.q j) (hi j) (hxx j) (hs j) (hf j)) (BSs.q j), h.run n ev gF g S _ (rr_run hK) _ (fun v n1 d gF1 g1 l1 S1 r1 k1 => (hr v).run n1 _ gF1 g1 (S1.setF (x := .p (ea v)) r1 hlt hO hX) _ (good k1) en (fun s n2 ev' gF2 g2 k2 l2 S2 => hN' s n2 ev' gF2 g2 k2 (Keeps.trans l1.lF l2) S2) fun c n2 ev' gF2 g2 k2 l2 S2 => hE c n2 ev' gF2 g2 k2 (Keeps.trans l1.lF l2) S2)
    fun c n1 gF1 g1 l1 S1 k1 => hE c n1 ev gF1 g1 (pkg k1) l1.lF (S1.sub hx)⟩⟩
theorem mb_if {oc : Mk κ Bool} {A B : List Stmt} {oA oB : Mk κ (Res σ)} (hc : MT κ 𝒴 C c oc) (hA : MB κ 𝒴 K E Cx C A Cm oA) (hB : MB κ 𝒴 K E Cx C B Cm oB) : MB κ 𝒴 K E Cx C [.If c A B pos] Cm (bk κ oc fun x => if x = true then oA else oB) :=
  ⟨fun n ev gF g S Kc hK en hN hE => ⟨_, fun i => qs_one (qs_if (BT.q i) (BSs.q i) (BSs.q i)), hc.run n ev gF g S _ hK.bind _ fun x n1 gF1 g1 l1 S1 k1 => by
    cases x with
    | true => exact hA.run n1 ev gF1 g1 S1 _ (good k1) en (fun s n2 ev' gF2 g2 k2 l2 S2 => hN s n2 ev' gF2 g2 k2 (Keeps.trans l1.lF l2) S2) fun c n2 ev' gF2 g2 k2 l2 S2 => hE c n2 ev' gF2 g2 k2 (Keeps.trans l1.lF l2) S2
    | false => exact hB.run n1 ev gF1 g1 S1 _ (good k1) en (fun s n2 ev' gF2 g2 k2 l2 S2 => hN s n2 ev' gF2 g2 k2 (Keeps.trans l1.lF l2) S2) fun c n2 ev' gF2 g2 k2 l2 S2 => hE c n2 ev' gF2 g2 k2 (Keeps.trans l1.lF l2) S2⟩⟩
end
/-! ### handlers -/
abbrev suY {ι : Type} (𝒴 : ι → Yx) : ι × Hp × G × Addr × List (Addr × Obj) → Yx := fun q => (𝒴 q.1).suite q.2.1 q.2.2.1 q.2.2.2.1 q.2.2.2.2
structure MH {ι : Type} (κ : Bool) (𝒴 : ι → Yx) (K : PySem.W.Frag) (E : ExE) (C : Ct) (hds : List ExceptHandler) {σ ρ : Type} (Cm : σ → Ct) (xr : ρ → RetV) (oh : Str → Mk κ (Out σ ρ)) : Prop where
  ex : ∃ l : List (Value × TS'), (∀ i, QHs (𝒴 i) hds l) ∧ ∀ c n ev gF g, Sx C n ev gF g → ∀ Kc, Good κ n (oh c) Kc → ∀ en : En, (∀ b n', (∀ p, p.n = n' → Kc b p) → EndOk K E C.B Cm xr en gF n' b) → hsD K E en l (exC K c) none ev g
section
variable {ι : Type} {𝒴 : ι → Yx} {κ : Bool} {K : PySem.W.Frag} {E : ExE} {C : Ct} {σ σ' ρ : Type} {Cm : σ → Ct} {Cn : σ' → Ct} {xr : ρ → RetV} {hds : List ExceptHandler} {oh : Str → Mk κ (Out σ ρ)} {pos : Pos}
theorem mh_nil (ke : Str → ρ) (hx : ∀ c, xr (ke c) = .err c) : MH κ 𝒴 K E C [] Cm xr (fun c => pk κ (.rt (ke c))) :=
  ⟨[], fun i => .nil, fun c n ev gF g S Kc hK en hE => by
    have z : Exit K E C.B en (xr (ke c)) n := hE (.rt (ke c)) n hK.pk
    rw [hx] at z
    exact z ev gF g S.bs⟩
theorem mh_none : MH κ 𝒴 K E C [] Cm xr (fun c => lk κ none) :=
  ⟨[], fun i => .nil, fun c n ev gF g S Kc hK en hE => by
    obtain ⟨v, e, _⟩ := Good.lk (κ := κ) hK
    cases e⟩
theorem mh_cons {x : Str} {b₀ : Stmt} {suite : List Stmt} {np pos' : Pos} {o1 : Mk κ (Out σ ρ)} (tb : Str → Option Bool) (hn : ∀ i, Names (𝒴 i).X x (exC K x)) (ht : ∀ c b, tb c = some b → PySem.W.exmOne K (exC K c) (exC K x) = some b) (h1 : MS κ (suY 𝒴) K E C (b₀ :: suite) Cm xr o1) (hr : MH κ 𝒴 K E C hds Cm xr oh) :
    MH κ 𝒴 K E C (.ExceptHandler (some (.Name x np)) none (b₀ :: suite) pos' :: hds) Cm xr (fun c => bk κ (lk κ (tb c)) fun b => if b = true then o1 else oh c) := by
  obtain ⟨l, h2, h3⟩ := hr.ex
  refine ⟨(exC K x, BSs (suY 𝒴) (b₀ :: suite)) :: l, fun i => .cons (hn i) (fun Hb gb a pn => BSs.q (𝒴 := suY 𝒴) (i, Hb, gb, a, pn)) (h2 i), fun c n ev gF g S Kc hK en hE => ?_⟩
  obtain ⟨b, eb, kb⟩ := Good.lk (κ := κ) hK.bind
  refine ⟨b, ht c b eb, fun e => ?_, fun e => ?_⟩
  · subst e
    exact h1.run n ev gF g S _ (good kb) en hE
  · subst e
    exact h3 c n ev gF g S _ (good kb) en hE
/-- what follows a try's body: the rest, or a handler and then the rest -/
def tr (κ : Bool) {σ σ' ρ : Type} (o : Mk κ (Res σ)) (km : σ → Mk κ (Out σ' ρ)) (oh : Str → Mk κ (Out σ ρ)) : Mk κ (Out σ' ρ) := bk κ o fun
  | .ok s => km s
  | .er c => ob κ (oh c) km
/-- try: body except ..: -/
abbrev trY {ι : Type} (𝒴 : ι → Yx) (E' : ExE) : { q : ι × Hp × G × List (Addr × Obj) × (Value → Shared → Prop) // TkD ((𝒴 q.1).tr q.2.1 q.2.2.1 q.2.2.2.1 q.2.2.2.2) E' ∧ PassesOwn (model (𝒴 q.1).X.prog (𝒴 q.1).X.w) (𝒴 q.1).X.A (𝒴 q.1).X.env q.2.2.2.2 } → Yx := fun q => (𝒴 q.1.1).tr q.1.2.1 q.1.2.2.1 q.1.2.2.2.1 q.1.2.2.2.2
theorem ms_try {body rest : List Stmt} {h₀ : ExceptHandler} {oB : Mk κ (Res σ)} {km : σ → Mk κ (Out σ' ρ)} (tk : ∀ i, TkD (𝒴 i) E) (hK : ∀ i, (𝒴 i).X.K = K) (hb : ∀ E', (∀ i, TkD (trY 𝒴 E' i) E') → (∀ i, PassesOwn (model (trY 𝒴 E' i).X.prog (trY 𝒴 E' i).X.w) (trY 𝒴 E' i).X.A (trY 𝒴 E' i).X.env (trY 𝒴 E' i).X.xe) → MB κ (trY 𝒴 E') K E' C C body Cm oB) (hh : MH κ 𝒴 K E C (h₀ :: hds) Cm xr oh) (hr : ∀ s, MS κ 𝒴 K E (Cm s) rest Cn xr (km s)) (hCB : ∀ s, (Cm s).B = C.B := by intro _; rfl)
    (hs : ∀ i, (𝒴 i).X.stack = (𝒴 i).X.env :: (𝒴 i).X.outer := by exact fun _ => rfl) (hf : ∀ i, (𝒴 i).X.env.frame = some (𝒴 i).X.env.locals := by exact fun _ => rfl) :
    MS κ 𝒴 K E C (.Try body (h₀ :: hds) [] [] pos :: rest) Cn xr (tr κ oB km oh) := by
  obtain ⟨l, h2, h3⟩ := hh.ex
  refine MS.seq (t := sTry K E (fun E' => BSs (trY 𝒴 E') body) l) (fun i => ?_) fun n ev gF g S Kc hKc en hE E' hE' => ?_
  · have h := q_try (pos := pos) (hs i) (hf i) (tk i) (t := fun E' => BSs (trY 𝒴 E') body) (fun Hb gb pn xe E' h4 h5 => BSs.q (𝒴 := trY 𝒴 E') ⟨(i, Hb, gb, pn, xe), h4, h5⟩) (h2 i)
    rw [hK i] at h
    exact h
  have hK' : Good κ n oB fun r p => Gd κ (match r with
      | .ok s => km s
      | .er c => ob κ (oh c) km) p Kc := fun p hp => (Gd.bind (show Gd κ (bk κ oB _) p Kc from hKc p hp)).imp fun r p q => by cases r <;> exact q
  have nxt : ∀ (s : σ) (n1 : Nat) (ev1 : Ev) (gF1 g1 : G), (∀ p, p.n = n1 → Gd κ (km s) p Kc) → Keeps gF gF1 → Sx (Cm s) n1 ev1 gF1 g1 → BSs 𝒴 rest en ev1 g1 := fun s n1 ev1 gF1 g1 k1 l1 S1 =>
    (hr s).run n1 ev1 gF1 g1 S1 _ (good k1) en fun b n2 hb => by rw [hCB]; exact (hE b n2 hb).keeps l1
  refine (hb E' (fun q => q.2.1) (fun q => q.2.2)).run n ev gF g S _ hK' _ (fun s n1 ev1 gF1 g1 k1 l1 S1 => nxt s n1 ev1 gF1 g1 k1 l1 S1) fun c n1 ev1 gF1 g1 k1 l1 S1 => hE' _ _ _ _ ?_
  refine h3 c n1 ev1 gF1 g1 S1 _ (Good.bind (κ := κ) (n := n1) (K := Kc) (show Good κ n1 (bk κ (oh c) (obf κ km)) Kc from k1)) _ fun b n2 hb => ?_
  cases b with
  | nx s => exact fun ev2 gF2 g2 l2 S2 => nxt s n2 ev2 gF2 g2 hb (Keeps.trans l1 l2) S2
  | rt r =>
    have z : Exit K E C.B en (xr r) n2 := hE (.rt r) n2 (pkg hb)
    show Exit K E C.B { en with nx := BSs 𝒴 rest en } (xr r) n2
    generalize xr r = v at z
    cases v <;> exact z
end

/-! ### the law -/
def gE : G := ⟨fun _ => none, none, 0, none⟩
def spLaw (ml : Mk true Bool) : Sp' := fun ds g Q E => ∃ a ns, ds = [.v (.ref a)] ∧ g.s = some (a, ns) ∧ ns.length ≤ 63 ∧ g.p = none ∧ (∀ p, p.n = 0 → ∃ p', ml p = some (true, p')) ∧ ∀ g', Q (.v (.bl true)) g'
theorem kn_law {P : Program} {w : World} {K : PySem.W.Frag} {mg : Str → Option Value} {k : Nat} {params : Arguments} {body : List Stmt} {scope : Scope} {N : List Str} {px : Pos} {ps0 p1 p2 p3 : Pos} {x1 x0 : Str}
    (F : ∃ fd, FunD K "law" "law" params (.Assign [.Name x1 px] (.Call (.Name "_law_open" p1) [.Name x0 p2] [] p3) ps0 :: body) scope [] [] (He.ga K "law") fd) (hm : mg "law" = some (.ref (He.ga K "law"))) (S : FnScope N [x0] scope)
    (hb : ∀ (kV doc pm : Value) (an : Option Addr) (cdv ct : Value) (us : List Value), us.length = [x0].length → bindArgs (PySem.W.fnOf "law" "law" params (.Assign [.Name x1 px] (.Call (.Name "_law_open" p1) [.Name x0 p2] [] p3) ps0 :: body) scope .none kV doc pm an cdv ct) ⟨us, []⟩ = pure ([x0].zip us))
    (hN : 2 ≤ N.length) (hO : ∀ base : Heap, Kn P w K mg base k "_law_open" sp__law_open) (Cn : Bs → Addr → Addr → Empty → Ct) (mb : Mk true (Out Empty Bool))
    (hset : ∀ (base : Heap) (f : Addr) (cdv : Value) (A : Around) (outer : List Env) (s : Shared) (H : Hp) (g : G) (E' : XK) (E0 : ExK), RoomG k (A.deeper (envOfC "law" scope s.heap.objs.size f cdv)) → TkD (yOf P w K mg base N "law" scope f cdv A outer s H g E') (fgX E0) →
      QS (yOf P w K mg base N "law" scope f cdv A outer s H g E') (.Assign [.Name x1 px] (.Call (.Name "_law_open" p1) [.Name x0 p2] [] p3) ps0) (sAsg (uFn sp__law_open (fgX E0) (uCons (tV 0) uNil)) (vName 1)))
    (hbody : ∀ (base : Heap) (f : Addr) (cdv : Value) (A : Around) (outer : List Env) (s : Shared) (H : Hp) (g : G) (E' : XK) (E0 : ExK) (B : Bs) (pa ca : Addr), RoomG k (A.deeper (envOfC "law" scope s.heap.objs.size f cdv)) → TkD (yOf P w K mg base N "law" scope f cdv A outer s H g E') (fgX E0) →
      MS true (fun _ : Unit => yOf P w K mg base N "law" scope f cdv A outer s H g E') K (fgX E0) ⟨[], [], [(1, .v (.ref pa))], some (pa, ca), N.length, B⟩ body (Cn B pa ca) (xV eB) mb) :
    ∃ fd : FuncData, (∀ (s : Shared) (u : Value), BindsTo s fd ⟨[u], []⟩ [(x0, u)]) ∧ ∀ base : Heap, FnG P w K mg base (k + 1) (He.ga K "law") fd [x0] (spLaw (exO true Empty.elim mb)) := by
  obtain ⟨fd, F⟩ := F
  have bd := FunD.bindsA (ps := [x0]) F hb
  refine ⟨fd, fun s u => bd s [u] rfl, fun base => fng_of F S (fun ds g Q E ⟨a, ns, e, _⟩ => by rw [e]; rfl) fun cdv A outer s H g ds Q E E' hr ⟨a, ns, ed, hs, hz, hp, hml, hq⟩ tk => ?_⟩
  · subst ed
    refine ⟨_, qs_cons (hset base _ cdv A outer s H g E' E hr tk) (BSs.q (𝒴 := fun _ : Unit => yOf P w K mg base N "law" scope _ cdv A outer s H g E') ()), ?_⟩
    have h0 : (startE N [D.v (.ref a)])[0]? = some (some (.v (.ref a))) := rfl
    refine ⟨_, h0, a, ns, rfl, hs, hz, hp, fun pa ca => ?_⟩
    have m := hbody base _ cdv A outer s H g E' E ⟨gE, { g with p := some (pa, ca), n := 0 }, []⟩ pa ca hr tk
    have hlen : (startE N [D.v (.ref a)]).length = N.length := by
      unfold startE
      simp
      omega
    have sx : Sx ⟨[], [], [(1, .v (.ref pa))], some (pa, ca), N.length, ⟨gE, { g with p := some (pa, ca), n := 0 }, []⟩⟩ 0 ((startE N [D.v (.ref a)]).set 1 (some (D.v (.ref pa)))) gE { g with p := some (pa, ca), n := 0 } := by
      refine ⟨(fun i x e => by cases e), ⟨[], .nil, .nil⟩, fun i d e => ?_, Ext.refl (fun b m e => by cases e) (fun _ => Nat.le_refl _), rfl, (by rw [List.length_set]; exact hlen)⟩
      have : (if i == 1 then some (D.v (.ref pa)) else none) = some d := by
        have e : List.lookup i [(1, D.v (.ref pa))] = some d := e
        rw [List.lookup_cons] at e
        split at e <;> simp_all
      by_cases q : i = 1
      · subst q
        simp at this; subst this
        exact List.getElem?_set_self (by rw [hlen]; exact hN)
      · simp [q] at this
    refine m.run 0 _ gE _ sx (fun b _ => b = .rt true) (fun p hp' => ?_) _ fun b n' hb' => ?_
    · obtain ⟨p', e⟩ := hml p hp'
      have e : Option.bind (mb p) _ = some (true, p') := e
      cases q : mb p with
      | none => rw [q] at e; cases e
      | some y =>
        obtain ⟨b, p1⟩ := y
        rw [q] at e
        cases b with
        | nx s => exact s.elim
        | rt r => cases e; exact ⟨_, _, q, rfl⟩
    · have := hb' (pn0 n') rfl
      subst this
      exact fun d gF' g' _ r => by
        have : d = .v (.bl true) := PX.bool_ r
        subst this
        exact fg.here (hq g')
end SK
end
section
set_option maxHeartbeats 4000000
namespace SK
open PySem PySem.Spec PyProof.Rows L2

/-! ### mirrors without draws, as values -/
section
variable {α β γ σ σ' ρ : Type}
theorem lkF (o : Option α) : lk false o = o := rfl
theorem bkF (a : α) (f : α → Option β) : bk false (some a) f = f a := rfl
theorem bkF_n (f : α → Option β) : bk false (none : Option α) f = none := rfl
theorem bkF_if (c : Prop) [Decidable c] (a b : Option α) (f : α → Option β) : bk false (if c then a else b) f = if c then bk false a f else bk false b f := by split <;> rfl
theorem bkF_bk (o : Option α) (f : α → Option β) (g : β → Option γ) : bk false (bk false o f) g = bk false o fun x => bk false (f x) g := by
  cases o <;> rfl
theorem obF_rt (r : ρ) (k : σ → Option (Out σ' ρ)) : ob false (some (Out.rt r)) k = some (Out.rt r) := rfl
theorem obF_nx (s : σ) (k : σ → Option (Out σ' ρ)) : ob false (some (Out.nx s : Out σ ρ)) k = k s := rfl
theorem obF_if (c : Prop) [Decidable c] (a b : Option (Out σ ρ)) (k : σ → Option (Out σ' ρ)) : ob false (if c then a else b) k = if c then ob false a k else ob false b k := by split <;> rfl
theorem obF_bk (o : Option α) (f : α → Option (Out σ ρ)) (k : σ → Option (Out σ' ρ)) : ob false (bk false o f) k = bk false o fun x => ob false (f x) k := by cases o <;> rfl
theorem exF_rt (d : σ → ρ) (r : ρ) : exO false d (some (Out.rt r)) = some r := rfl
theorem exF_nx (d : σ → ρ) (s : σ) : exO false d (some (Out.nx s)) = some (d s) := rfl
theorem exF_if (c : Prop) [Decidable c] (d : σ → ρ) (a b : Option (Out σ ρ)) : exO false d (if c then a else b) = if c then exO false d a else exO false d b := by split <;> rfl
theorem exF_bk (d : σ → ρ) (o : Option α) (f : α → Option (Out σ ρ)) : exO false d (bk false o f) = bk false o fun x => exO false d (f x) := by cases o <;> rfl
theorem rbF_ok (ke : Str → ρ) (a : α) (k : α → Option (Out σ ρ)) : rb false ke (some (Res.ok a)) k = k a := rfl
theorem rbF_er (ke : Str → ρ) (c : Str) (k : α → Option (Out σ ρ)) : rb false ke (some (Res.er c)) k = some (Out.rt (ke c)) := rfl
theorem rrF_ok (a : α) (k : α → Option (Res σ)) : rr false (some (Res.ok a)) k = k a := rfl
theorem rrF_er (c : Str) (k : α → Option (Res σ)) : rr false (some (Res.er c)) k = some (Res.er c) := rfl
theorem rrF_if (c : Prop) [Decidable c] (a b : Option (Res α)) (k : α → Option (Res σ)) : rr false (if c then a else b) k = if c then rr false a k else rr false b k := by split <;> rfl
theorem trF_ok (s : σ) (km : σ → Option (Out σ' ρ)) (oh : Str → Option (Out σ ρ)) : tr false (some (Res.ok s)) km oh = km s := rfl
theorem trF_er (c : Str) (km : σ → Option (Out σ' ρ)) (oh : Str → Option (Out σ ρ)) : tr false (some (Res.er c)) km oh = ob false (oh c) km := rfl
theorem trF_if (c : Prop) [Decidable c] (a b : Option (Res σ)) (km : σ → Option (Out σ' ρ)) (oh : Str → Option (Out σ ρ)) : tr false (if c then a else b) km oh = if c then tr false a km oh else tr false b km oh := by split <;> rfl
theorem if_some (c : Prop) [Decidable c] (a b : α) : (if c then some a else some b) = some (if c then a else b) := by split <;> rfl
theorem mM_some (f : α → Option β) (g : α → β) : ∀ l : List α, (∀ x ∈ l, f x = some (g x)) → mM false f l = some (l.map g)
  | [], _ => rfl
  | x :: l, h => by
    show bk false (f x) _ = _
    rw [h x (List.mem_cons_self ..), bkF, mM_some f g l fun y hy => h y (List.mem_cons_of_mem _ hy)]
    rfl
theorem cM_some (t : α → Option Bool) (u : α → Bool) (f : α → Option β) (g : α → β) : ∀ l : List α, (∀ x ∈ l, t x = some (u x)) → (∀ x ∈ l, u x = true → f x = some (g x)) → cM false t f l = some ((l.filter u).map g)
  | [], _, _ => rfl
  | x :: l, h, h' => by
    have ih := cM_some t u f g l (fun y hy => h y (List.mem_cons_of_mem _ hy)) fun y hy => h' y (List.mem_cons_of_mem _ hy)
    show bk false (t x) _ = _
    rw [h x (List.mem_cons_self ..), bkF]
    cases q : u x with
    | true =>
      rw [if_pos rfl, h' x (List.mem_cons_self ..) q, bkF, ih, List.filter_cons_of_pos q]
      rfl
    | false => rw [if_neg (by simp), ih, List.filter_cons_of_neg (by simp [q])]
/-- a loop that only goes on -/
theorem forM_fold (f : α → σ → Option (Out σ ρ)) (g : σ → α → σ) : ∀ (l : List α) (s : σ), (∀ x ∈ l, ∀ s, f x s = some (.nx (g s x))) → forM false f l s = some (.nx (l.foldl g s))
  | [], s, _ => rfl
  | x :: l, s, h => by
    show ob false (f x s) _ = _
    rw [h x (List.mem_cons_self ..) s, obF_nx, forM_fold f g l _ fun y hy => h y (List.mem_cons_of_mem _ hy)]
    rfl
/-- .. with something known of the state -/
theorem forM_inv (f : α → σ → Option (Out σ ρ)) (I : List α → σ → Prop) : ∀ (l : List α) (s : σ), I l s → (∀ x l s, I (x :: l) s → ∃ s', f x s = some (.nx s') ∧ I l s') → ∃ s', forM false f l s = some (.nx s') ∧ I [] s'
  | [], s, h, _ => ⟨s, rfl, h⟩
  | x :: l, s, h, hs => by
    obtain ⟨s1, e, h1⟩ := hs x l s h
    obtain ⟨s2, e2, h2⟩ := forM_inv f I l s1 h1 hs
    refine ⟨s2, ?_, h2⟩
    show ob false (f x s) _ = _
    rw [e, obF_nx, e2]
/-- a search -/
def fnd : Option ρ → Out Unit ρ
  | some r => .rt r
  | none => .nx ()
theorem fnd_ob (o : Option ρ) : ob false (some (fnd o)) (fun _ => some (Out.nx () : Out Unit ρ)) = some (fnd o) := by cases o <;> rfl
theorem fnd_if (c : Prop) [Decidable c] (r : ρ) : (if c then some (Out.rt r : Out Unit ρ) else some (Out.nx ())) = some (fnd (if c then some r else none)) := by split <;> rfl
theorem forM_find (f : α → Unit → Option (Out Unit ρ)) (g : α → Option ρ) : ∀ (l : List α), (∀ x ∈ l, f x () = some (fnd (g x))) → forM false f l () = some (fnd (l.findSome? g))
  | [], _ => rfl
  | x :: l, h => by
    show ob false (f x ()) _ = _
    rw [h x (List.mem_cons_self ..), List.findSome?_cons]
    cases g x with
    | some r => rfl
    | none => exact forM_find f g l fun y hy => h y (List.mem_cons_of_mem _ hy)
theorem cmp_lt (x y : Int) : CmpI.f .lt x y = decide (x < y) := rfl
theorem cmp_le (x y : Int) : CmpI.f .le x y = decide (x ≤ y) := rfl
theorem cmp_gt (x y : Int) : CmpI.f .gt x y = decide (y < x) := rfl
theorem cmp_ge (x y : Int) : CmpI.f .ge x y = decide (y ≤ x) := rfl
end
/-! evaluates a mirror without draws: simp (implicitDefEqProofs := false) only [lkF, bkF, bkF_n, bkF_if, bkF_bk, obF_rt, obF_nx, obF_if, obF_bk, exF_rt, exF_nx, exF_if, exF_bk, rbF_ok, rbF_er, rrF_ok, rrF_er, rrF_if, trF_ok, trF_er, trF_if, cmp_lt, cmp_le, cmp_gt, cmp_ge, id_eq, if_true, if_false, Bool.false_eq_true, reduceIte, Bool.not_true, Bool.not_false, Bool.false_xor, Bool.true_xor] -/

/-! ### mirrors with draws: what holds behind them -/
section
variable {κ : Bool} {α β σ σ' ρ : Type} {p : Pn}
theorem gd_bk {o : Mk κ α} {f : α → Mk κ β} {K : β → Pn → Prop} : Gd κ (bk κ o f) p K ↔ Gd κ o p fun v p' => Gd κ (f v) p' K := ⟨Gd.bind, Gd.to_bind⟩
theorem gd_pk {a : α} {K : α → Pn → Prop} : Gd κ (lk κ (some a)) p K ↔ K a p := by
  cases κ with
  | false => exact ⟨fun ⟨v, e, k⟩ => by cases e; exact k, fun k => ⟨a, rfl, k⟩⟩
  | true => exact ⟨fun ⟨v, p', e, k⟩ => by cases e; exact k, fun k => ⟨a, p, rfl, k⟩⟩
theorem gd_lk {o : Option α} {K : α → Pn → Prop} : Gd κ (lk κ o) p K ↔ ∃ v, o = some v ∧ K v p := by
  cases o with
  | none =>
    cases κ with
    | false => exact ⟨fun ⟨v, e, k⟩ => (by cases e), fun ⟨v, e, k⟩ => (by cases e)⟩
    | true => exact ⟨fun ⟨v, p', e, k⟩ => (by cases e), fun ⟨v, e, k⟩ => (by cases e)⟩
  | some a => rw [gd_pk]; exact ⟨fun k => ⟨a, rfl, k⟩, fun ⟨v, e, k⟩ => by cases e; exact k⟩
theorem gd_bpk {a : α} {f : α → Mk κ β} {K : β → Pn → Prop} : Gd κ (bk κ (lk κ (some a)) f) p K ↔ Gd κ (f a) p K := by rw [gd_bk, gd_pk]
theorem gd_if {c : Prop} [Decidable c] {a b : Mk κ α} {K : α → Pn → Prop} : Gd κ (if c then a else b) p K ↔ if c then Gd κ a p K else Gd κ b p K := by split <;> rfl
theorem gd_ifT {c : Prop} {i : Decidable c} {a b : Pn → Option (α × Pn)} {K : α → Pn → Prop} : Gd true (@ite (Pn → Option (α × Pn)) c i a b) p K = @ite Prop c i (Gd true a p K) (Gd true b p K) := propext gd_if
theorem gd_ifF {c : Prop} {i : Decidable c} {a b : Option α} {K : α → Pn → Prop} : Gd false (@ite (Option α) c i a b) p K = @ite Prop c i (Gd false a p K) (Gd false b p K) := propext gd_if
def obK (κ : Bool) (k : σ → Mk κ (Out σ' ρ)) (K : Out σ' ρ → Pn → Prop) : Out σ ρ → Pn → Prop
  | .nx s, p => Gd κ (k s) p K
  | .rt r, p => K (.rt r) p
theorem gd_ob {o : Mk κ (Out σ ρ)} {k : σ → Mk κ (Out σ' ρ)} {K : Out σ' ρ → Pn → Prop} : Gd κ (ob κ o k) p K ↔ Gd κ o p (obK κ k K) := by
  unfold ob
  rw [gd_bk]
  have : (fun v p' => Gd κ (obf κ k v) p' K) = obK κ k K := by
    funext v p'
    cases v with
    | nx s => rfl
    | rt r => exact propext gd_pk
  rw [this]
theorem obK_nx {k : σ → Mk κ (Out σ' ρ)} {K : Out σ' ρ → Pn → Prop} {s : σ} : obK κ k K (.nx s : Out σ ρ) p = Gd κ (k s) p K := rfl
theorem obK_rt {k : σ → Mk κ (Out σ' ρ)} {K : Out σ' ρ → Pn → Prop} {r : ρ} : obK κ k K (.rt r : Out σ ρ) p = K (.rt r) p := rfl
def exK (d : σ → ρ) (K : ρ → Pn → Prop) : Out σ ρ → Pn → Prop
  | .nx s, p => K (d s) p
  | .rt r, p => K r p
theorem gd_ex {d : σ → ρ} {o : Mk κ (Out σ ρ)} {K : ρ → Pn → Prop} : Gd κ (exO κ d o) p K ↔ Gd κ o p (exK d K) := by
  unfold exO
  rw [gd_bk]
  have : (fun v p' => Gd κ ((match v with
    | Out.nx s => pk κ (d s)
    | Out.rt r => pk κ r : Mk κ ρ)) p' K) = exK d K := by
    funext v p'
    cases v <;> exact propext gd_pk
  rw [← this]
  all_goals exact Iff.of_eq (congrArg _ (by funext v p'; cases v <;> rfl))
theorem exK_nx {d : σ → ρ} {K : ρ → Pn → Prop} {s : σ} : exK d K (.nx s) p = K (d s) p := rfl
theorem exK_rt {d : σ → ρ} {K : ρ → Pn → Prop} {r : ρ} : exK d K (.rt r) p = K r p := rfl
/-- a draw -/
theorem gd_take {m : Int} {K : Int → Pn → Prop} (hm : 0 < m) (hz : m < 2 ^ 30) (hp : p.n < 2 ^ 31) (h : ∀ (k : Int) (p' : Pn), 0 ≤ k → k < m → p'.n = p.n + 1 → K k p') : Gd true (m__law_take m) p K := by
  refine ⟨_, _, if_pos ⟨hm, hz, hp⟩, h _ _ (by omega) ?_ rfl⟩
  have : p.w 0 % m.toNat < m.toNat := Nat.mod_lt _ (by omega)
  omega
theorem gd_one {l : List α} {K : α → Pn → Prop} (hl : l ≠ []) (hz : l.length < 2 ^ 30) (hp : p.n < 2 ^ 31) (h : ∀ (x : α) (p' : Pn), x ∈ l → p'.n = p.n + 1 → K x p') : Gd true (m__law_one l) p K := by
  have hl' : 0 < l.length := List.length_pos_iff.mpr hl
  have hi : p.w 0 % l.length < l.length := Nat.mod_lt _ hl'
  have e : l[p.w 0 % l.length]? = some (l[p.w 0 % l.length]) := List.getElem?_eq_getElem hi
  refine ⟨l[p.w 0 % l.length], ⟨fun i => p.w (i + 1), p.n + 1⟩, ?_, h _ _ (List.getElem_mem hi) rfl⟩
  unfold m__law_one
  rw [if_pos ⟨hz, hp⟩, e]
  rfl
/-- a loop, by an invariant -/
theorem gd_for {f : α → σ → Mk κ (Out σ ρ)} {K : Out σ ρ → Pn → Prop} (I : List α → σ → Pn → Prop) : ∀ {l : List α} {s : σ} {p : Pn}, I l s p → (∀ x l s p, I (x :: l) s p → Gd κ (f x s) p fun r p' => match r with
    | .nx s' => I l s' p'
    | .rt r => K (.rt r) p') → (∀ s p, I [] s p → K (.nx s) p) → Gd κ (forM κ f l s) p K
  | [], s, p, h, _, hk => gd_pk.mpr (hk s p h)
  | x :: l, s, p, h, hs, hk => by
    show Gd κ (ob κ (f x s) _) p K
    rw [gd_ob]
    refine (hs x l s p h).imp fun r p' q => ?_
    cases r with
    | nx s' => exact gd_for I q hs hk
    | rt r => exact q
/-- a comprehension, by an invariant of what is made -/
theorem gd_cM {t : α → Mk κ Bool} {f : α → Mk κ β} {K : List β → Pn → Prop} (I : List α → List β → Pn → Prop) : ∀ {l : List α} {p : Pn} (acc : List β), I l acc p → (∀ x l acc p, I (x :: l) acc p → Gd κ (t x) p fun b p' => if b = true then Gd κ (f x) p' fun y p'' => I l (acc ++ [y]) p'' else I l acc p') → (∀ acc p, I [] acc p → K acc p) → Gd κ (cM κ t f l) p fun r p' => K (acc ++ r) p'
  | [], p, acc, h, _, hk => gd_pk.mpr (by rw [List.append_nil]; exact hk acc p h)
  | x :: l, p, acc, h, hs, hk => by
    show Gd κ (bk κ (t x) _) p _
    rw [gd_bk]
    refine (hs x l acc p h).imp fun b p' q => ?_
    cases b with
    | true =>
      rw [if_pos rfl] at q ⊢
      rw [gd_bk]
      refine q.imp fun y p'' q' => ?_
      rw [gd_bk]
      refine (gd_cM I (acc ++ [y]) q' hs hk).imp fun r p3 q3 => gd_pk.mpr ?_
      rwa [List.append_assoc] at q3
    | false =>
      rw [if_neg (by simp)] at q ⊢
      exact gd_cM I acc q hs hk
end
end SK
end
section
set_option maxHeartbeats 4000000
namespace Q92
open PySem PySem.Spec PyProof.Rows L2 SK
def top (i : Nat) : Stmt := PySem.Challenge.pw_surekeys_k92_refusals_of_counts.main.body.getD i (.Pass ⟨0, 0, 0, 0⟩)
abbrev S_is_integer : Stmt := top 6
abbrev S_is_between : Stmt := top 7
abbrev S_is_value : Stmt := top 13
abbrev S_is_column : Stmt := top 14
abbrev S_is_value_of : Stmt := top 15
abbrev S_is_columns : Stmt := top 16
abbrev S_is_row_of : Stmt := top 17
abbrev S_count_unknown : Stmt := top 18
abbrev S_is_table_of : Stmt := top 19
abbrev S_is_set_for : Stmt := top 20
abbrev S_is_set_of : Stmt := top 21
abbrev S_is_demand_of : Stmt := top 22
abbrev S_require_columns : Stmt := top 23
abbrev S_require_table : Stmt := top 24
abbrev S_require_demand : Stmt := top 25
abbrev S_do_meet : Stmt := top 27
abbrev S_find_meetings : Stmt := top 28
abbrev S_find_unknown : Stmt := top 30
abbrev S_with_entry : Stmt := top 31
abbrev S_are_alike : Stmt := top 32
abbrev S_find_twins : Stmt := top 34
abbrev S_find_new_entry : Stmt := top 35
abbrev S_explore : Stmt := top 36
abbrev S_find_common : Stmt := top 37
abbrev S_is_unknown : Stmt := top 38
abbrev S_is_twins : Stmt := top 39
abbrev S_is_endless : Stmt := top 41
abbrev S_count_all : Stmt := top 42
abbrev S_are_sure : Stmt := top 43
abbrev S_find_count_tree : Stmt := top 44
abbrev S_find_tree_number : Stmt := top 46
abbrev S_find_split_number : Stmt := top 45
abbrev S_find_count : Stmt := top 47
abbrev S_kept_count : Stmt := top 48
abbrev S_count_tree : Stmt := top 49
abbrev S_tree_number : Stmt := top 50
abbrev S_value_counts : Stmt := top 51
abbrev S__law_spread : Stmt := top 53
abbrev S__law_open : Stmt := top 54
abbrev S__law_take : Stmt := top 55
abbrev S__law_anew : Stmt := top 56
abbrev S__law_one : Stmt := top 57
abbrev S__law_set : Stmt := top 58
abbrev S__law_bad_set : Stmt := top 59
abbrev S__law_columns : Stmt := top 60
abbrev S__law_value : Stmt := top 61
abbrev S__law_table : Stmt := top 62
abbrev S__law_bad_columns : Stmt := top 63
abbrev S__law_bad_table : Stmt := top 64
abbrev S__law_told : Stmt := top 65
abbrev S__law_bad_demand : Stmt := top 66
abbrev S_law : Stmt := top 67
def fa : List He.Fa := [.free "all", .free "any", .free "bool", .free "enumerate", .free "int", .free "isinstance", .free "len", .free "list", .free "max", .free "range", .free "repr", .free "set", .free "sorted", .free "str", .free "sum", .free "tuple", .free "zip", .glo "is_integer", .glo "is_between", .glo "is_value", .glo "is_column", .glo "is_value_of", .glo "is_columns", .glo "is_row_of", .glo "count_unknown", .glo "is_table_of", .glo "is_set_for", .glo "is_set_of", .glo "is_demand_of", .glo "require_columns", .glo "require_table", .glo "require_demand", .glo "do_meet", .glo "find_meetings", .glo "find_unknown", .glo "with_entry", .glo "are_alike", .glo "find_twins", .glo "find_new_entry", .glo "explore", .glo "find_common", .glo "is_unknown", .glo "is_twins", .glo "is_endless", .glo "count_all", .glo "are_sure", .glo "find_count_tree", .glo "find_tree_number", .glo "find_split_number", .glo "find_count", .glo "kept_count", .glo "count_tree", .glo "tree_number", .glo "value_counts", .glo "_law_spread", .glo "_law_open", .glo "_law_take", .glo "_law_anew", .glo "_law_one", .glo "_law_set", .glo "_law_bad_set", .glo "_law_columns", .glo "_law_value", .glo "_law_table", .glo "_law_bad_columns", .glo "_law_bad_table", .glo "_law_told", .glo "_law_bad_demand", .glo "law", .glo "KeyRuleError", .glo "InvalidColumns", .glo "InvalidTable", .glo "InvalidDemand", .int "MOST_COLUMNS" 4, .int "MOST_ROWS" 8, .int "MOST_UNKNOWN" 6, .int "MOST_SETS" 4, .exc "InvalidColumns", .exc "InvalidDemand", .exc "InvalidTable", .exm "InvalidColumns" "InvalidColumns" true, .exm "InvalidColumns" "InvalidDemand" false, .exm "InvalidColumns" "InvalidTable" false, .exm "InvalidDemand" "InvalidColumns" false, .exm "InvalidDemand" "InvalidDemand" true, .exm "InvalidDemand" "InvalidTable" false, .exm "InvalidTable" "InvalidColumns" false, .exm "InvalidTable" "InvalidDemand" false, .exm "InvalidTable" "InvalidTable" true]
def fn : List He.DefD := [⟨("is_integer", none), "is_integer", "is_integer", defArgs S_is_integer, defBody S_is_integer, defScope S_is_integer, [], []⟩, ⟨("is_between", none), "is_between", "is_between", defArgs S_is_between, defBody S_is_between, defScope S_is_between, [], []⟩, ⟨("is_value", none), "is_value", "is_value", defArgs S_is_value, defBody S_is_value, defScope S_is_value, [], []⟩, ⟨("is_column", none), "is_column", "is_column", defArgs S_is_column, defBody S_is_column, defScope S_is_column, [], []⟩, ⟨("is_value_of", none), "is_value_of", "is_value_of", defArgs S_is_value_of, defBody S_is_value_of, defScope S_is_value_of, [], []⟩, ⟨("is_columns", none), "is_columns", "is_columns", defArgs S_is_columns, defBody S_is_columns, defScope S_is_columns, [], []⟩, ⟨("is_row_of", none), "is_row_of", "is_row_of", defArgs S_is_row_of, defBody S_is_row_of, defScope S_is_row_of, [], []⟩, ⟨("count_unknown", none), "count_unknown", "count_unknown", defArgs S_count_unknown, defBody S_count_unknown, defScope S_count_unknown, [], []⟩, ⟨("is_table_of", none), "is_table_of", "is_table_of", defArgs S_is_table_of, defBody S_is_table_of, defScope S_is_table_of, [], []⟩, ⟨("is_set_for", none), "is_set_for", "is_set_for", defArgs S_is_set_for, defBody S_is_set_for, defScope S_is_set_for, [], []⟩, ⟨("is_set_of", none), "is_set_of", "is_set_of", defArgs S_is_set_of, defBody S_is_set_of, defScope S_is_set_of, [], []⟩, ⟨("is_demand_of", none), "is_demand_of", "is_demand_of", defArgs S_is_demand_of, defBody S_is_demand_of, defScope S_is_demand_of, [], []⟩, ⟨("require_columns", none), "require_columns", "require_columns", defArgs S_require_columns, defBody S_require_columns, defScope S_require_columns, [], []⟩, ⟨("require_table", none), "require_table", "require_table", defArgs S_require_table, defBody S_require_table, defScope S_require_table, [], []⟩, ⟨("require_demand", none), "require_demand", "require_demand", defArgs S_require_demand, defBody S_require_demand, defScope S_require_demand, [], []⟩, ⟨("do_meet", none), "do_meet", "do_meet", defArgs S_do_meet, defBody S_do_meet, defScope S_do_meet, [], []⟩, ⟨("find_meetings", none), "find_meetings", "find_meetings", defArgs S_find_meetings, defBody S_find_meetings, defScope S_find_meetings, [], []⟩, ⟨("find_unknown", none), "find_unknown", "find_unknown", defArgs S_find_unknown, defBody S_find_unknown, defScope S_find_unknown, [], []⟩, ⟨("with_entry", none), "with_entry", "with_entry", defArgs S_with_entry, defBody S_with_entry, defScope S_with_entry, [], []⟩, ⟨("are_alike", none), "are_alike", "are_alike", defArgs S_are_alike, defBody S_are_alike, defScope S_are_alike, [], []⟩, ⟨("find_twins", none), "find_twins", "find_twins", defArgs S_find_twins, defBody S_find_twins, defScope S_find_twins, [], []⟩, ⟨("find_new_entry", none), "find_new_entry", "find_new_entry", defArgs S_find_new_entry, defBody S_find_new_entry, defScope S_find_new_entry, [], []⟩, ⟨("explore", none), "explore", "explore", defArgs S_explore, defBody S_explore, defScope S_explore, [], []⟩, ⟨("find_common", none), "find_common", "find_common", defArgs S_find_common, defBody S_find_common, defScope S_find_common, [], []⟩, ⟨("is_unknown", none), "is_unknown", "is_unknown", defArgs S_is_unknown, defBody S_is_unknown, defScope S_is_unknown, [], []⟩, ⟨("is_twins", none), "is_twins", "is_twins", defArgs S_is_twins, defBody S_is_twins, defScope S_is_twins, [], []⟩, ⟨("is_endless", none), "is_endless", "is_endless", defArgs S_is_endless, defBody S_is_endless, defScope S_is_endless, [], []⟩, ⟨("count_all", none), "count_all", "count_all", defArgs S_count_all, defBody S_count_all, defScope S_count_all, [], []⟩, ⟨("are_sure", none), "are_sure", "are_sure", defArgs S_are_sure, defBody S_are_sure, defScope S_are_sure, [], []⟩, ⟨("find_count_tree", none), "find_count_tree", "find_count_tree", defArgs S_find_count_tree, defBody S_find_count_tree, defScope S_find_count_tree, [], []⟩, ⟨("find_tree_number", none), "find_tree_number", "find_tree_number", defArgs S_find_tree_number, defBody S_find_tree_number, defScope S_find_tree_number, [], []⟩, ⟨("find_split_number", none), "find_split_number", "find_split_number", defArgs S_find_split_number, defBody S_find_split_number, defScope S_find_split_number, [], []⟩, ⟨("find_count", none), "find_count", "find_count", defArgs S_find_count, defBody S_find_count, defScope S_find_count, [], []⟩, ⟨("kept_count", none), "kept_count", "kept_count", defArgs S_kept_count, defBody S_kept_count, defScope S_kept_count, [], []⟩, ⟨("count_tree", none), "count_tree", "count_tree", defArgs S_count_tree, defBody S_count_tree, defScope S_count_tree, [], []⟩, ⟨("tree_number", none), "tree_number", "tree_number", defArgs S_tree_number, defBody S_tree_number, defScope S_tree_number, [], []⟩, ⟨("value_counts", none), "value_counts", "value_counts", defArgs S_value_counts, defBody S_value_counts, defScope S_value_counts, [], []⟩, ⟨("_law_spread", none), "_law_spread", "_law_spread", defArgs S__law_spread, defBody S__law_spread, defScope S__law_spread, [], []⟩, ⟨("_law_open", none), "_law_open", "_law_open", defArgs S__law_open, defBody S__law_open, defScope S__law_open, [], []⟩, ⟨("_law_take", none), "_law_take", "_law_take", defArgs S__law_take, defBody S__law_take, defScope S__law_take, [], []⟩, ⟨("_law_anew", none), "_law_anew", "_law_anew", defArgs S__law_anew, defBody S__law_anew, defScope S__law_anew, [], []⟩, ⟨("_law_one", none), "_law_one", "_law_one", defArgs S__law_one, defBody S__law_one, defScope S__law_one, [], []⟩, ⟨("_law_set", none), "_law_set", "_law_set", defArgs S__law_set, defBody S__law_set, defScope S__law_set, [], []⟩, ⟨("_law_bad_set", none), "_law_bad_set", "_law_bad_set", defArgs S__law_bad_set, defBody S__law_bad_set, defScope S__law_bad_set, [], []⟩, ⟨("_law_columns", none), "_law_columns", "_law_columns", defArgs S__law_columns, defBody S__law_columns, defScope S__law_columns, [], []⟩, ⟨("_law_value", none), "_law_value", "_law_value", defArgs S__law_value, defBody S__law_value, defScope S__law_value, [], []⟩, ⟨("_law_table", none), "_law_table", "_law_table", defArgs S__law_table, defBody S__law_table, defScope S__law_table, [], []⟩, ⟨("_law_bad_columns", none), "_law_bad_columns", "_law_bad_columns", defArgs S__law_bad_columns, defBody S__law_bad_columns, defScope S__law_bad_columns, [], []⟩, ⟨("_law_bad_table", none), "_law_bad_table", "_law_bad_table", defArgs S__law_bad_table, defBody S__law_bad_table, defScope S__law_bad_table, [], []⟩, ⟨("_law_told", none), "_law_told", "_law_told", defArgs S__law_told, defBody S__law_told, defScope S__law_told, [], []⟩, ⟨("_law_bad_demand", none), "_law_bad_demand", "_law_bad_demand", defArgs S__law_bad_demand, defBody S__law_bad_demand, defScope S__law_bad_demand, [], []⟩, ⟨("law", none), "law", "law", defArgs S_law, defBody S_law, defScope S_law, [], []⟩]
structure Wd (K : PySem.W.Frag) (mg : Str → Option Value) : Prop where
  ex : ∃ h : Heap, K.In h ∧ h.Ns mainGlobals mg ∧ He.SaysD fa fn K
section
variable {K : PySem.W.Frag} {mg : Str → Option Value}
theorem Wd.m_all (W : Wd K mg) : mg "all" = none := let ⟨_, X, G, c⟩ := W.ex; He.free_ok X G (c.fact 0 rfl)
theorem Wd.m_any (W : Wd K mg) : mg "any" = none := let ⟨_, X, G, c⟩ := W.ex; He.free_ok X G (c.fact 1 rfl)
theorem Wd.m_bool (W : Wd K mg) : mg "bool" = none := let ⟨_, X, G, c⟩ := W.ex; He.free_ok X G (c.fact 2 rfl)
theorem Wd.m_enumerate (W : Wd K mg) : mg "enumerate" = none := let ⟨_, X, G, c⟩ := W.ex; He.free_ok X G (c.fact 3 rfl)
theorem Wd.m_int (W : Wd K mg) : mg "int" = none := let ⟨_, X, G, c⟩ := W.ex; He.free_ok X G (c.fact 4 rfl)
theorem Wd.m_isinstance (W : Wd K mg) : mg "isinstance" = none := let ⟨_, X, G, c⟩ := W.ex; He.free_ok X G (c.fact 5 rfl)
theorem Wd.m_len (W : Wd K mg) : mg "len" = none := let ⟨_, X, G, c⟩ := W.ex; He.free_ok X G (c.fact 6 rfl)
theorem Wd.m_list (W : Wd K mg) : mg "list" = none := let ⟨_, X, G, c⟩ := W.ex; He.free_ok X G (c.fact 7 rfl)
theorem Wd.m_max (W : Wd K mg) : mg "max" = none := let ⟨_, X, G, c⟩ := W.ex; He.free_ok X G (c.fact 8 rfl)
theorem Wd.m_range (W : Wd K mg) : mg "range" = none := let ⟨_, X, G, c⟩ := W.ex; He.free_ok X G (c.fact 9 rfl)
theorem Wd.m_repr (W : Wd K mg) : mg "repr" = none := let ⟨_, X, G, c⟩ := W.ex; He.free_ok X G (c.fact 10 rfl)
theorem Wd.m_set (W : Wd K mg) : mg "set" = none := let ⟨_, X, G, c⟩ := W.ex; He.free_ok X G (c.fact 11 rfl)
theorem Wd.m_sorted (W : Wd K mg) : mg "sorted" = none := let ⟨_, X, G, c⟩ := W.ex; He.free_ok X G (c.fact 12 rfl)
theorem Wd.m_str (W : Wd K mg) : mg "str" = none := let ⟨_, X, G, c⟩ := W.ex; He.free_ok X G (c.fact 13 rfl)
theorem Wd.m_sum (W : Wd K mg) : mg "sum" = none := let ⟨_, X, G, c⟩ := W.ex; He.free_ok X G (c.fact 14 rfl)
theorem Wd.m_tuple (W : Wd K mg) : mg "tuple" = none := let ⟨_, X, G, c⟩ := W.ex; He.free_ok X G (c.fact 15 rfl)
theorem Wd.m_zip (W : Wd K mg) : mg "zip" = none := let ⟨_, X, G, c⟩ := W.ex; He.free_ok X G (c.fact 16 rfl)
theorem Wd.g_is_integer (W : Wd K mg) : mg "is_integer" = some (.ref (He.ga K "is_integer")) := let ⟨_, X, G, c⟩ := W.ex; He.glo_ok X G (c.fact 17 rfl)
theorem Wd.g_is_between (W : Wd K mg) : mg "is_between" = some (.ref (He.ga K "is_between")) := let ⟨_, X, G, c⟩ := W.ex; He.glo_ok X G (c.fact 18 rfl)
theorem Wd.g_is_value (W : Wd K mg) : mg "is_value" = some (.ref (He.ga K "is_value")) := let ⟨_, X, G, c⟩ := W.ex; He.glo_ok X G (c.fact 19 rfl)
theorem Wd.g_is_column (W : Wd K mg) : mg "is_column" = some (.ref (He.ga K "is_column")) := let ⟨_, X, G, c⟩ := W.ex; He.glo_ok X G (c.fact 20 rfl)
theorem Wd.g_is_value_of (W : Wd K mg) : mg "is_value_of" = some (.ref (He.ga K "is_value_of")) := let ⟨_, X, G, c⟩ := W.ex; He.glo_ok X G (c.fact 21 rfl)
theorem Wd.g_is_columns (W : Wd K mg) : mg "is_columns" = some (.ref (He.ga K "is_columns")) := let ⟨_, X, G, c⟩ := W.ex; He.glo_ok X G (c.fact 22 rfl)
theorem Wd.g_is_row_of (W : Wd K mg) : mg "is_row_of" = some (.ref (He.ga K "is_row_of")) := let ⟨_, X, G, c⟩ := W.ex; He.glo_ok X G (c.fact 23 rfl)
theorem Wd.g_count_unknown (W : Wd K mg) : mg "count_unknown" = some (.ref (He.ga K "count_unknown")) := let ⟨_, X, G, c⟩ := W.ex; He.glo_ok X G (c.fact 24 rfl)
theorem Wd.g_is_table_of (W : Wd K mg) : mg "is_table_of" = some (.ref (He.ga K "is_table_of")) := let ⟨_, X, G, c⟩ := W.ex; He.glo_ok X G (c.fact 25 rfl)
theorem Wd.g_is_set_for (W : Wd K mg) : mg "is_set_for" = some (.ref (He.ga K "is_set_for")) := let ⟨_, X, G, c⟩ := W.ex; He.glo_ok X G (c.fact 26 rfl)
theorem Wd.g_is_set_of (W : Wd K mg) : mg "is_set_of" = some (.ref (He.ga K "is_set_of")) := let ⟨_, X, G, c⟩ := W.ex; He.glo_ok X G (c.fact 27 rfl)
theorem Wd.g_is_demand_of (W : Wd K mg) : mg "is_demand_of" = some (.ref (He.ga K "is_demand_of")) := let ⟨_, X, G, c⟩ := W.ex; He.glo_ok X G (c.fact 28 rfl)
theorem Wd.g_require_columns (W : Wd K mg) : mg "require_columns" = some (.ref (He.ga K "require_columns")) := let ⟨_, X, G, c⟩ := W.ex; He.glo_ok X G (c.fact 29 rfl)
theorem Wd.g_require_table (W : Wd K mg) : mg "require_table" = some (.ref (He.ga K "require_table")) := let ⟨_, X, G, c⟩ := W.ex; He.glo_ok X G (c.fact 30 rfl)
theorem Wd.g_require_demand (W : Wd K mg) : mg "require_demand" = some (.ref (He.ga K "require_demand")) := let ⟨_, X, G, c⟩ := W.ex; He.glo_ok X G (c.fact 31 rfl)
theorem Wd.g_do_meet (W : Wd K mg) : mg "do_meet" = some (.ref (He.ga K "do_meet")) := let ⟨_, X, G, c⟩ := W.ex; He.glo_ok X G (c.fact 32 rfl)
theorem Wd.g_find_meetings (W : Wd K mg) : mg "find_meetings" = some (.ref (He.ga K "find_meetings")) := let ⟨_, X, G, c⟩ := W.ex; He.glo_ok X G (c.fact 33 rfl)
theorem Wd.g_find_unknown (W : Wd K mg) : mg "find_unknown" = some (.ref (He.ga K "find_unknown")) := let ⟨_, X, G, c⟩ := W.ex; He.glo_ok X G (c.fact 34 rfl)
theorem Wd.g_with_entry (W : Wd K mg) : mg "with_entry" = some (.ref (He.ga K "with_entry")) := let ⟨_, X, G, c⟩ := W.ex; He.glo_ok X G (c.fact 35 rfl)
theorem Wd.g_are_alike (W : Wd K mg) : mg "are_alike" = some (.ref (He.ga K "are_alike")) := let ⟨_, X, G, c⟩ := W.ex; He.glo_ok X G (c.fact 36 rfl)
theorem Wd.g_find_twins (W : Wd K mg) : mg "find_twins" = some (.ref (He.ga K "find_twins")) := let ⟨_, X, G, c⟩ := W.ex; He.glo_ok X G (c.fact 37 rfl)
theorem Wd.g_find_new_entry (W : Wd K mg) : mg "find_new_entry" = some (.ref (He.ga K "find_new_entry")) := let ⟨_, X, G, c⟩ := W.ex; He.glo_ok X G (c.fact 38 rfl)
theorem Wd.g_explore (W : Wd K mg) : mg "explore" = some (.ref (He.ga K "explore")) := let ⟨_, X, G, c⟩ := W.ex; He.glo_ok X G (c.fact 39 rfl)
theorem Wd.g_find_common (W : Wd K mg) : mg "find_common" = some (.ref (He.ga K "find_common")) := let ⟨_, X, G, c⟩ := W.ex; He.glo_ok X G (c.fact 40 rfl)
theorem Wd.g_is_unknown (W : Wd K mg) : mg "is_unknown" = some (.ref (He.ga K "is_unknown")) := let ⟨_, X, G, c⟩ := W.ex; He.glo_ok X G (c.fact 41 rfl)
theorem Wd.g_is_twins (W : Wd K mg) : mg "is_twins" = some (.ref (He.ga K "is_twins")) := let ⟨_, X, G, c⟩ := W.ex; He.glo_ok X G (c.fact 42 rfl)
theorem Wd.g_is_endless (W : Wd K mg) : mg "is_endless" = some (.ref (He.ga K "is_endless")) := let ⟨_, X, G, c⟩ := W.ex; He.glo_ok X G (c.fact 43 rfl)
theorem Wd.g_count_all (W : Wd K mg) : mg "count_all" = some (.ref (He.ga K "count_all")) := let ⟨_, X, G, c⟩ := W.ex; He.glo_ok X G (c.fact 44 rfl)
theorem Wd.g_are_sure (W : Wd K mg) : mg "are_sure" = some (.ref (He.ga K "are_sure")) := let ⟨_, X, G, c⟩ := W.ex; He.glo_ok X G (c.fact 45 rfl)
theorem Wd.g_find_count_tree (W : Wd K mg) : mg "find_count_tree" = some (.ref (He.ga K "find_count_tree")) := let ⟨_, X, G, c⟩ := W.ex; He.glo_ok X G (c.fact 46 rfl)
theorem Wd.g_find_tree_number (W : Wd K mg) : mg "find_tree_number" = some (.ref (He.ga K "find_tree_number")) := let ⟨_, X, G, c⟩ := W.ex; He.glo_ok X G (c.fact 47 rfl)
theorem Wd.g_find_split_number (W : Wd K mg) : mg "find_split_number" = some (.ref (He.ga K "find_split_number")) := let ⟨_, X, G, c⟩ := W.ex; He.glo_ok X G (c.fact 48 rfl)
theorem Wd.g_find_count (W : Wd K mg) : mg "find_count" = some (.ref (He.ga K "find_count")) := let ⟨_, X, G, c⟩ := W.ex; He.glo_ok X G (c.fact 49 rfl)
theorem Wd.g_kept_count (W : Wd K mg) : mg "kept_count" = some (.ref (He.ga K "kept_count")) := let ⟨_, X, G, c⟩ := W.ex; He.glo_ok X G (c.fact 50 rfl)
theorem Wd.g_count_tree (W : Wd K mg) : mg "count_tree" = some (.ref (He.ga K "count_tree")) := let ⟨_, X, G, c⟩ := W.ex; He.glo_ok X G (c.fact 51 rfl)
theorem Wd.g_tree_number (W : Wd K mg) : mg "tree_number" = some (.ref (He.ga K "tree_number")) := let ⟨_, X, G, c⟩ := W.ex; He.glo_ok X G (c.fact 52 rfl)
theorem Wd.g_value_counts (W : Wd K mg) : mg "value_counts" = some (.ref (He.ga K "value_counts")) := let ⟨_, X, G, c⟩ := W.ex; He.glo_ok X G (c.fact 53 rfl)
theorem Wd.g__law_spread (W : Wd K mg) : mg "_law_spread" = some (.ref (He.ga K "_law_spread")) := let ⟨_, X, G, c⟩ := W.ex; He.glo_ok X G (c.fact 54 rfl)
theorem Wd.g__law_open (W : Wd K mg) : mg "_law_open" = some (.ref (He.ga K "_law_open")) := let ⟨_, X, G, c⟩ := W.ex; He.glo_ok X G (c.fact 55 rfl)
theorem Wd.g__law_take (W : Wd K mg) : mg "_law_take" = some (.ref (He.ga K "_law_take")) := let ⟨_, X, G, c⟩ := W.ex; He.glo_ok X G (c.fact 56 rfl)
theorem Wd.g__law_anew (W : Wd K mg) : mg "_law_anew" = some (.ref (He.ga K "_law_anew")) := let ⟨_, X, G, c⟩ := W.ex; He.glo_ok X G (c.fact 57 rfl)
theorem Wd.g__law_one (W : Wd K mg) : mg "_law_one" = some (.ref (He.ga K "_law_one")) := let ⟨_, X, G, c⟩ := W.ex; He.glo_ok X G (c.fact 58 rfl)
theorem Wd.g__law_set (W : Wd K mg) : mg "_law_set" = some (.ref (He.ga K "_law_set")) := let ⟨_, X, G, c⟩ := W.ex; He.glo_ok X G (c.fact 59 rfl)
theorem Wd.g__law_bad_set (W : Wd K mg) : mg "_law_bad_set" = some (.ref (He.ga K "_law_bad_set")) := let ⟨_, X, G, c⟩ := W.ex; He.glo_ok X G (c.fact 60 rfl)
theorem Wd.g__law_columns (W : Wd K mg) : mg "_law_columns" = some (.ref (He.ga K "_law_columns")) := let ⟨_, X, G, c⟩ := W.ex; He.glo_ok X G (c.fact 61 rfl)
theorem Wd.g__law_value (W : Wd K mg) : mg "_law_value" = some (.ref (He.ga K "_law_value")) := let ⟨_, X, G, c⟩ := W.ex; He.glo_ok X G (c.fact 62 rfl)
theorem Wd.g__law_table (W : Wd K mg) : mg "_law_table" = some (.ref (He.ga K "_law_table")) := let ⟨_, X, G, c⟩ := W.ex; He.glo_ok X G (c.fact 63 rfl)
theorem Wd.g__law_bad_columns (W : Wd K mg) : mg "_law_bad_columns" = some (.ref (He.ga K "_law_bad_columns")) := let ⟨_, X, G, c⟩ := W.ex; He.glo_ok X G (c.fact 64 rfl)
theorem Wd.g__law_bad_table (W : Wd K mg) : mg "_law_bad_table" = some (.ref (He.ga K "_law_bad_table")) := let ⟨_, X, G, c⟩ := W.ex; He.glo_ok X G (c.fact 65 rfl)
theorem Wd.g__law_told (W : Wd K mg) : mg "_law_told" = some (.ref (He.ga K "_law_told")) := let ⟨_, X, G, c⟩ := W.ex; He.glo_ok X G (c.fact 66 rfl)
theorem Wd.g__law_bad_demand (W : Wd K mg) : mg "_law_bad_demand" = some (.ref (He.ga K "_law_bad_demand")) := let ⟨_, X, G, c⟩ := W.ex; He.glo_ok X G (c.fact 67 rfl)
theorem Wd.g_law (W : Wd K mg) : mg "law" = some (.ref (He.ga K "law")) := let ⟨_, X, G, c⟩ := W.ex; He.glo_ok X G (c.fact 68 rfl)
theorem Wd.g_KeyRuleError (W : Wd K mg) : mg "KeyRuleError" = some (.ref (He.ga K "KeyRuleError")) := let ⟨_, X, G, c⟩ := W.ex; He.glo_ok X G (c.fact 69 rfl)
theorem Wd.g_InvalidColumns (W : Wd K mg) : mg "InvalidColumns" = some (.ref (He.ga K "InvalidColumns")) := let ⟨_, X, G, c⟩ := W.ex; He.glo_ok X G (c.fact 70 rfl)
theorem Wd.g_InvalidTable (W : Wd K mg) : mg "InvalidTable" = some (.ref (He.ga K "InvalidTable")) := let ⟨_, X, G, c⟩ := W.ex; He.glo_ok X G (c.fact 71 rfl)
theorem Wd.g_InvalidDemand (W : Wd K mg) : mg "InvalidDemand" = some (.ref (He.ga K "InvalidDemand")) := let ⟨_, X, G, c⟩ := W.ex; He.glo_ok X G (c.fact 72 rfl)
theorem Wd.i_MOST_COLUMNS (W : Wd K mg) : ∃ t, mg "MOST_COLUMNS" = some (.int 4 t) := let ⟨_, X, G, c⟩ := W.ex; He.int_ok X G (c.fact 73 rfl)
theorem Wd.i_MOST_ROWS (W : Wd K mg) : ∃ t, mg "MOST_ROWS" = some (.int 8 t) := let ⟨_, X, G, c⟩ := W.ex; He.int_ok X G (c.fact 74 rfl)
theorem Wd.i_MOST_UNKNOWN (W : Wd K mg) : ∃ t, mg "MOST_UNKNOWN" = some (.int 6 t) := let ⟨_, X, G, c⟩ := W.ex; He.int_ok X G (c.fact 75 rfl)
theorem Wd.i_MOST_SETS (W : Wd K mg) : ∃ t, mg "MOST_SETS" = some (.int 4 t) := let ⟨_, X, G, c⟩ := W.ex; He.int_ok X G (c.fact 76 rfl)
theorem Wd.x_InvalidColumns (W : Wd K mg) : ExcC K mg "InvalidColumns" (He.ga K "InvalidColumns") := let ⟨_, X, G, c⟩ := W.ex; exc_of X G (c.fact 70 rfl) (c.fact 77 rfl)
theorem Wd.x_InvalidDemand (W : Wd K mg) : ExcC K mg "InvalidDemand" (He.ga K "InvalidDemand") := let ⟨_, X, G, c⟩ := W.ex; exc_of X G (c.fact 72 rfl) (c.fact 78 rfl)
theorem Wd.x_InvalidTable (W : Wd K mg) : ExcC K mg "InvalidTable" (He.ga K "InvalidTable") := let ⟨_, X, G, c⟩ := W.ex; exc_of X G (c.fact 71 rfl) (c.fact 79 rfl)
theorem Wd.em_InvalidColumns_InvalidColumns (W : Wd K mg) : PySem.W.exmOne K (.ref (He.ga K "InvalidColumns")) (.ref (He.ga K "InvalidColumns")) = some true := let ⟨_, X, G, c⟩ := W.ex; He.exm_ok (c.fact 80 rfl)
theorem Wd.em_InvalidColumns_InvalidDemand (W : Wd K mg) : PySem.W.exmOne K (.ref (He.ga K "InvalidColumns")) (.ref (He.ga K "InvalidDemand")) = some false := let ⟨_, X, G, c⟩ := W.ex; He.exm_ok (c.fact 81 rfl)
theorem Wd.em_InvalidColumns_InvalidTable (W : Wd K mg) : PySem.W.exmOne K (.ref (He.ga K "InvalidColumns")) (.ref (He.ga K "InvalidTable")) = some false := let ⟨_, X, G, c⟩ := W.ex; He.exm_ok (c.fact 82 rfl)
theorem Wd.em_InvalidDemand_InvalidColumns (W : Wd K mg) : PySem.W.exmOne K (.ref (He.ga K "InvalidDemand")) (.ref (He.ga K "InvalidColumns")) = some false := let ⟨_, X, G, c⟩ := W.ex; He.exm_ok (c.fact 83 rfl)
theorem Wd.em_InvalidDemand_InvalidDemand (W : Wd K mg) : PySem.W.exmOne K (.ref (He.ga K "InvalidDemand")) (.ref (He.ga K "InvalidDemand")) = some true := let ⟨_, X, G, c⟩ := W.ex; He.exm_ok (c.fact 84 rfl)
theorem Wd.em_InvalidDemand_InvalidTable (W : Wd K mg) : PySem.W.exmOne K (.ref (He.ga K "InvalidDemand")) (.ref (He.ga K "InvalidTable")) = some false := let ⟨_, X, G, c⟩ := W.ex; He.exm_ok (c.fact 85 rfl)
theorem Wd.em_InvalidTable_InvalidColumns (W : Wd K mg) : PySem.W.exmOne K (.ref (He.ga K "InvalidTable")) (.ref (He.ga K "InvalidColumns")) = some false := let ⟨_, X, G, c⟩ := W.ex; He.exm_ok (c.fact 86 rfl)
theorem Wd.em_InvalidTable_InvalidDemand (W : Wd K mg) : PySem.W.exmOne K (.ref (He.ga K "InvalidTable")) (.ref (He.ga K "InvalidDemand")) = some false := let ⟨_, X, G, c⟩ := W.ex; He.exm_ok (c.fact 87 rfl)
theorem Wd.em_InvalidTable_InvalidTable (W : Wd K mg) : PySem.W.exmOne K (.ref (He.ga K "InvalidTable")) (.ref (He.ga K "InvalidTable")) = some true := let ⟨_, X, G, c⟩ := W.ex; He.exm_ok (c.fact 88 rfl)
theorem Wd.f_is_integer (W : Wd K mg) : ∃ fd, FunD K "is_integer" "is_integer" (defArgs S_is_integer) (defBody S_is_integer) (defScope S_is_integer) [] [] (He.ga K "is_integer") fd := let ⟨_, _, _, c⟩ := W.ex; c.def_ 0 rfl
theorem Wd.f_is_between (W : Wd K mg) : ∃ fd, FunD K "is_between" "is_between" (defArgs S_is_between) (defBody S_is_between) (defScope S_is_between) [] [] (He.ga K "is_between") fd := let ⟨_, _, _, c⟩ := W.ex; c.def_ 1 rfl
theorem Wd.f_is_value (W : Wd K mg) : ∃ fd, FunD K "is_value" "is_value" (defArgs S_is_value) (defBody S_is_value) (defScope S_is_value) [] [] (He.ga K "is_value") fd := let ⟨_, _, _, c⟩ := W.ex; c.def_ 2 rfl
theorem Wd.f_is_column (W : Wd K mg) : ∃ fd, FunD K "is_column" "is_column" (defArgs S_is_column) (defBody S_is_column) (defScope S_is_column) [] [] (He.ga K "is_column") fd := let ⟨_, _, _, c⟩ := W.ex; c.def_ 3 rfl
theorem Wd.f_is_value_of (W : Wd K mg) : ∃ fd, FunD K "is_value_of" "is_value_of" (defArgs S_is_value_of) (defBody S_is_value_of) (defScope S_is_value_of) [] [] (He.ga K "is_value_of") fd := let ⟨_, _, _, c⟩ := W.ex; c.def_ 4 rfl
theorem Wd.f_is_columns (W : Wd K mg) : ∃ fd, FunD K "is_columns" "is_columns" (defArgs S_is_columns) (defBody S_is_columns) (defScope S_is_columns) [] [] (He.ga K "is_columns") fd := let ⟨_, _, _, c⟩ := W.ex; c.def_ 5 rfl
theorem Wd.f_is_row_of (W : Wd K mg) : ∃ fd, FunD K "is_row_of" "is_row_of" (defArgs S_is_row_of) (defBody S_is_row_of) (defScope S_is_row_of) [] [] (He.ga K "is_row_of") fd := let ⟨_, _, _, c⟩ := W.ex; c.def_ 6 rfl
theorem Wd.f_count_unknown (W : Wd K mg) : ∃ fd, FunD K "count_unknown" "count_unknown" (defArgs S_count_unknown) (defBody S_count_unknown) (defScope S_count_unknown) [] [] (He.ga K "count_unknown") fd := let ⟨_, _, _, c⟩ := W.ex; c.def_ 7 rfl
theorem Wd.f_is_table_of (W : Wd K mg) : ∃ fd, FunD K "is_table_of" "is_table_of" (defArgs S_is_table_of) (defBody S_is_table_of) (defScope S_is_table_of) [] [] (He.ga K "is_table_of") fd := let ⟨_, _, _, c⟩ := W.ex; c.def_ 8 rfl
theorem Wd.f_is_set_for (W : Wd K mg) : ∃ fd, FunD K "is_set_for" "is_set_for" (defArgs S_is_set_for) (defBody S_is_set_for) (defScope S_is_set_for) [] [] (He.ga K "is_set_for") fd := let ⟨_, _, _, c⟩ := W.ex; c.def_ 9 rfl
theorem Wd.f_is_set_of (W : Wd K mg) : ∃ fd, FunD K "is_set_of" "is_set_of" (defArgs S_is_set_of) (defBody S_is_set_of) (defScope S_is_set_of) [] [] (He.ga K "is_set_of") fd := let ⟨_, _, _, c⟩ := W.ex; c.def_ 10 rfl
theorem Wd.f_is_demand_of (W : Wd K mg) : ∃ fd, FunD K "is_demand_of" "is_demand_of" (defArgs S_is_demand_of) (defBody S_is_demand_of) (defScope S_is_demand_of) [] [] (He.ga K "is_demand_of") fd := let ⟨_, _, _, c⟩ := W.ex; c.def_ 11 rfl
theorem Wd.f_require_columns (W : Wd K mg) : ∃ fd, FunD K "require_columns" "require_columns" (defArgs S_require_columns) (defBody S_require_columns) (defScope S_require_columns) [] [] (He.ga K "require_columns") fd := let ⟨_, _, _, c⟩ := W.ex; c.def_ 12 rfl
theorem Wd.f_require_table (W : Wd K mg) : ∃ fd, FunD K "require_table" "require_table" (defArgs S_require_table) (defBody S_require_table) (defScope S_require_table) [] [] (He.ga K "require_table") fd := let ⟨_, _, _, c⟩ := W.ex; c.def_ 13 rfl
theorem Wd.f_require_demand (W : Wd K mg) : ∃ fd, FunD K "require_demand" "require_demand" (defArgs S_require_demand) (defBody S_require_demand) (defScope S_require_demand) [] [] (He.ga K "require_demand") fd := let ⟨_, _, _, c⟩ := W.ex; c.def_ 14 rfl
theorem Wd.f_do_meet (W : Wd K mg) : ∃ fd, FunD K "do_meet" "do_meet" (defArgs S_do_meet) (defBody S_do_meet) (defScope S_do_meet) [] [] (He.ga K "do_meet") fd := let ⟨_, _, _, c⟩ := W.ex; c.def_ 15 rfl
theorem Wd.f_find_meetings (W : Wd K mg) : ∃ fd, FunD K "find_meetings" "find_meetings" (defArgs S_find_meetings) (defBody S_find_meetings) (defScope S_find_meetings) [] [] (He.ga K "find_meetings") fd := let ⟨_, _, _, c⟩ := W.ex; c.def_ 16 rfl
theorem Wd.f_find_unknown (W : Wd K mg) : ∃ fd, FunD K "find_unknown" "find_unknown" (defArgs S_find_unknown) (defBody S_find_unknown) (defScope S_find_unknown) [] [] (He.ga K "find_unknown") fd := let ⟨_, _, _, c⟩ := W.ex; c.def_ 17 rfl
theorem Wd.f_with_entry (W : Wd K mg) : ∃ fd, FunD K "with_entry" "with_entry" (defArgs S_with_entry) (defBody S_with_entry) (defScope S_with_entry) [] [] (He.ga K "with_entry") fd := let ⟨_, _, _, c⟩ := W.ex; c.def_ 18 rfl
theorem Wd.f_are_alike (W : Wd K mg) : ∃ fd, FunD K "are_alike" "are_alike" (defArgs S_are_alike) (defBody S_are_alike) (defScope S_are_alike) [] [] (He.ga K "are_alike") fd := let ⟨_, _, _, c⟩ := W.ex; c.def_ 19 rfl
theorem Wd.f_find_twins (W : Wd K mg) : ∃ fd, FunD K "find_twins" "find_twins" (defArgs S_find_twins) (defBody S_find_twins) (defScope S_find_twins) [] [] (He.ga K "find_twins") fd := let ⟨_, _, _, c⟩ := W.ex; c.def_ 20 rfl
theorem Wd.f_find_new_entry (W : Wd K mg) : ∃ fd, FunD K "find_new_entry" "find_new_entry" (defArgs S_find_new_entry) (defBody S_find_new_entry) (defScope S_find_new_entry) [] [] (He.ga K "find_new_entry") fd := let ⟨_, _, _, c⟩ := W.ex; c.def_ 21 rfl
theorem Wd.f_explore (W : Wd K mg) : ∃ fd, FunD K "explore" "explore" (defArgs S_explore) (defBody S_explore) (defScope S_explore) [] [] (He.ga K "explore") fd := let ⟨_, _, _, c⟩ := W.ex; c.def_ 22 rfl
theorem Wd.f_find_common (W : Wd K mg) : ∃ fd, FunD K "find_common" "find_common" (defArgs S_find_common) (defBody S_find_common) (defScope S_find_common) [] [] (He.ga K "find_common") fd := let ⟨_, _, _, c⟩ := W.ex; c.def_ 23 rfl
theorem Wd.f_is_unknown (W : Wd K mg) : ∃ fd, FunD K "is_unknown" "is_unknown" (defArgs S_is_unknown) (defBody S_is_unknown) (defScope S_is_unknown) [] [] (He.ga K "is_unknown") fd := let ⟨_, _, _, c⟩ := W.ex; c.def_ 24 rfl
theorem Wd.f_is_twins (W : Wd K mg) : ∃ fd, FunD K "is_twins" "is_twins" (defArgs S_is_twins) (defBody S_is_twins) (defScope S_is_twins) [] [] (He.ga K "is_twins") fd := let ⟨_, _, _, c⟩ := W.ex; c.def_ 25 rfl
theorem Wd.f_is_endless (W : Wd K mg) : ∃ fd, FunD K "is_endless" "is_endless" (defArgs S_is_endless) (defBody S_is_endless) (defScope S_is_endless) [] [] (He.ga K "is_endless") fd := let ⟨_, _, _, c⟩ := W.ex; c.def_ 26 rfl
theorem Wd.f_count_all (W : Wd K mg) : ∃ fd, FunD K "count_all" "count_all" (defArgs S_count_all) (defBody S_count_all) (defScope S_count_all) [] [] (He.ga K "count_all") fd := let ⟨_, _, _, c⟩ := W.ex; c.def_ 27 rfl
theorem Wd.f_are_sure (W : Wd K mg) : ∃ fd, FunD K "are_sure" "are_sure" (defArgs S_are_sure) (defBody S_are_sure) (defScope S_are_sure) [] [] (He.ga K "are_sure") fd := let ⟨_, _, _, c⟩ := W.ex; c.def_ 28 rfl
theorem Wd.f_find_count_tree (W : Wd K mg) : ∃ fd, FunD K "find_count_tree" "find_count_tree" (defArgs S_find_count_tree) (defBody S_find_count_tree) (defScope S_find_count_tree) [] [] (He.ga K "find_count_tree") fd := let ⟨_, _, _, c⟩ := W.ex; c.def_ 29 rfl
theorem Wd.f_find_tree_number (W : Wd K mg) : ∃ fd, FunD K "find_tree_number" "find_tree_number" (defArgs S_find_tree_number) (defBody S_find_tree_number) (defScope S_find_tree_number) [] [] (He.ga K "find_tree_number") fd := let ⟨_, _, _, c⟩ := W.ex; c.def_ 30 rfl
theorem Wd.f_find_split_number (W : Wd K mg) : ∃ fd, FunD K "find_split_number" "find_split_number" (defArgs S_find_split_number) (defBody S_find_split_number) (defScope S_find_split_number) [] [] (He.ga K "find_split_number") fd := let ⟨_, _, _, c⟩ := W.ex; c.def_ 31 rfl
theorem Wd.f_find_count (W : Wd K mg) : ∃ fd, FunD K "find_count" "find_count" (defArgs S_find_count) (defBody S_find_count) (defScope S_find_count) [] [] (He.ga K "find_count") fd := let ⟨_, _, _, c⟩ := W.ex; c.def_ 32 rfl
theorem Wd.f_kept_count (W : Wd K mg) : ∃ fd, FunD K "kept_count" "kept_count" (defArgs S_kept_count) (defBody S_kept_count) (defScope S_kept_count) [] [] (He.ga K "kept_count") fd := let ⟨_, _, _, c⟩ := W.ex; c.def_ 33 rfl
theorem Wd.f_count_tree (W : Wd K mg) : ∃ fd, FunD K "count_tree" "count_tree" (defArgs S_count_tree) (defBody S_count_tree) (defScope S_count_tree) [] [] (He.ga K "count_tree") fd := let ⟨_, _, _, c⟩ := W.ex; c.def_ 34 rfl
theorem Wd.f_tree_number (W : Wd K mg) : ∃ fd, FunD K "tree_number" "tree_number" (defArgs S_tree_number) (defBody S_tree_number) (defScope S_tree_number) [] [] (He.ga K "tree_number") fd := let ⟨_, _, _, c⟩ := W.ex; c.def_ 35 rfl
theorem Wd.f_value_counts (W : Wd K mg) : ∃ fd, FunD K "value_counts" "value_counts" (defArgs S_value_counts) (defBody S_value_counts) (defScope S_value_counts) [] [] (He.ga K "value_counts") fd := let ⟨_, _, _, c⟩ := W.ex; c.def_ 36 rfl
theorem Wd.f__law_spread (W : Wd K mg) : ∃ fd, FunD K "_law_spread" "_law_spread" (defArgs S__law_spread) (defBody S__law_spread) (defScope S__law_spread) [] [] (He.ga K "_law_spread") fd := let ⟨_, _, _, c⟩ := W.ex; c.def_ 37 rfl
theorem Wd.f__law_open (W : Wd K mg) : ∃ fd, FunD K "_law_open" "_law_open" (defArgs S__law_open) (defBody S__law_open) (defScope S__law_open) [] [] (He.ga K "_law_open") fd := let ⟨_, _, _, c⟩ := W.ex; c.def_ 38 rfl
theorem Wd.f__law_take (W : Wd K mg) : ∃ fd, FunD K "_law_take" "_law_take" (defArgs S__law_take) (defBody S__law_take) (defScope S__law_take) [] [] (He.ga K "_law_take") fd := let ⟨_, _, _, c⟩ := W.ex; c.def_ 39 rfl
theorem Wd.f__law_anew (W : Wd K mg) : ∃ fd, FunD K "_law_anew" "_law_anew" (defArgs S__law_anew) (defBody S__law_anew) (defScope S__law_anew) [] [] (He.ga K "_law_anew") fd := let ⟨_, _, _, c⟩ := W.ex; c.def_ 40 rfl
theorem Wd.f__law_one (W : Wd K mg) : ∃ fd, FunD K "_law_one" "_law_one" (defArgs S__law_one) (defBody S__law_one) (defScope S__law_one) [] [] (He.ga K "_law_one") fd := let ⟨_, _, _, c⟩ := W.ex; c.def_ 41 rfl
theorem Wd.f__law_set (W : Wd K mg) : ∃ fd, FunD K "_law_set" "_law_set" (defArgs S__law_set) (defBody S__law_set) (defScope S__law_set) [] [] (He.ga K "_law_set") fd := let ⟨_, _, _, c⟩ := W.ex; c.def_ 42 rfl
theorem Wd.f__law_bad_set (W : Wd K mg) : ∃ fd, FunD K "_law_bad_set" "_law_bad_set" (defArgs S__law_bad_set) (defBody S__law_bad_set) (defScope S__law_bad_set) [] [] (He.ga K "_law_bad_set") fd := let ⟨_, _, _, c⟩ := W.ex; c.def_ 43 rfl
theorem Wd.f__law_columns (W : Wd K mg) : ∃ fd, FunD K "_law_columns" "_law_columns" (defArgs S__law_columns) (defBody S__law_columns) (defScope S__law_columns) [] [] (He.ga K "_law_columns") fd := let ⟨_, _, _, c⟩ := W.ex; c.def_ 44 rfl
theorem Wd.f__law_value (W : Wd K mg) : ∃ fd, FunD K "_law_value" "_law_value" (defArgs S__law_value) (defBody S__law_value) (defScope S__law_value) [] [] (He.ga K "_law_value") fd := let ⟨_, _, _, c⟩ := W.ex; c.def_ 45 rfl
theorem Wd.f__law_table (W : Wd K mg) : ∃ fd, FunD K "_law_table" "_law_table" (defArgs S__law_table) (defBody S__law_table) (defScope S__law_table) [] [] (He.ga K "_law_table") fd := let ⟨_, _, _, c⟩ := W.ex; c.def_ 46 rfl
theorem Wd.f__law_bad_columns (W : Wd K mg) : ∃ fd, FunD K "_law_bad_columns" "_law_bad_columns" (defArgs S__law_bad_columns) (defBody S__law_bad_columns) (defScope S__law_bad_columns) [] [] (He.ga K "_law_bad_columns") fd := let ⟨_, _, _, c⟩ := W.ex; c.def_ 47 rfl
theorem Wd.f__law_bad_table (W : Wd K mg) : ∃ fd, FunD K "_law_bad_table" "_law_bad_table" (defArgs S__law_bad_table) (defBody S__law_bad_table) (defScope S__law_bad_table) [] [] (He.ga K "_law_bad_table") fd := let ⟨_, _, _, c⟩ := W.ex; c.def_ 48 rfl
theorem Wd.f__law_told (W : Wd K mg) : ∃ fd, FunD K "_law_told" "_law_told" (defArgs S__law_told) (defBody S__law_told) (defScope S__law_told) [] [] (He.ga K "_law_told") fd := let ⟨_, _, _, c⟩ := W.ex; c.def_ 49 rfl
theorem Wd.f__law_bad_demand (W : Wd K mg) : ∃ fd, FunD K "_law_bad_demand" "_law_bad_demand" (defArgs S__law_bad_demand) (defBody S__law_bad_demand) (defScope S__law_bad_demand) [] [] (He.ga K "_law_bad_demand") fd := let ⟨_, _, _, c⟩ := W.ex; c.def_ 50 rfl
theorem Wd.f_law (W : Wd K mg) : ∃ fd, FunD K "law" "law" (defArgs S_law) (defBody S_law) (defScope S_law) [] [] (He.ga K "law") fd := let ⟨_, _, _, c⟩ := W.ex; c.def_ 51 rfl
end
end Q92
end
section
set_option maxHeartbeats 4000000
namespace Q92
open PySem PySem.Spec PyProof.Rows L2 SK
/-! ### is_integer -/
theorem sc_is_integer : FnScope ["value"] ["value"] (defScope S_is_integer) := ⟨rfl, rfl, rfl, by decide +kernel, rfl, by decide +kernel, by decide +kernel⟩
def b_is_integer (v : (PyData)) : Mk false (Out Empty Bool) := (bk false (bk false (bk false (pk false v) fun x2 => (pk false (isP "int" (eA x2)))) fun x5 => if x5 = true then (bk false (bk false (pk false v) fun x3 => (pk false (isP "bool" (eA x3)))) fun x4 => (pk false (!x4))) else (pk false false)) fun x1 => (pk false (Out.rt (id x1))))
def m_is_integer (v : (PyData)) : Mk false Bool := exO false (Empty.elim) (b_is_integer v)
theorem k_is_integer {P : Program} {w : World} {K : PySem.W.Frag} {mg : Str → Option Value} {base : Heap} (W : Wd K mg) : Kn P w K mg base 1 "is_integer" (spM K (fun (v : (PyData)) => [eA v]) m_is_integer (xV eB)) :=
  kn_m (er := fun (v : (PyData)) => [eA v]) (xr := (xV eB)) W.f_is_integer W.g_is_integer sc_is_integer (fun _ _ _ _ _ _ us hl => match us, hl with | [_], _ => rfl) (fun _ => rfl) (by decide) (Empty.elim) (fun s => nomatch s) (fun _ _ s => nomatch s) b_is_integer (fun _ _ s => nomatch s) (fun f cdv A outer s H g E' E0 v B p hr tk => by
    have nd := sc_is_integer.nd
    unfold b_is_integer
    exact (ms_ret id (fun _ => rfl) (me_and (me_isi "int" (fun _ => W.m_isinstance) (fun _ => W.m_int) (me_v 0 v)) (me_bo1 (me_notV (me_isi "bool" (fun _ => W.m_isinstance) (fun _ => W.m_bool) (me_v 0 v)))))))
end Q92
end
section
set_option maxHeartbeats 4000000
namespace Q92
open PySem PySem.Spec PyProof.Rows L2 SK
/-! ### is_between -/
theorem sc_is_between : FnScope ["value", "least", "most"] ["value", "least", "most"] (defScope S_is_between) := ⟨rfl, rfl, rfl, by decide +kernel, rfl, by decide +kernel, by decide +kernel⟩
def b_is_between (v : (PyData × Int × Int)) : Mk false (Out Empty Bool) := (bk false (bk false (bk false (pk false v.1) fun v2 => (lk false (m_is_integer v2))) fun x7 => if x7 = true then (bk false (pk false v.2.1) fun x4 => (bk false (bk false (pk false v.1) fun x3 => (lk false (dI x3))) fun x5 => if CmpI.f .le x4 x5 = true then (bk false (pk false v.2.2) fun x6 => (pk false (CmpI.f .le x5 x6))) else (pk false false))) else (pk false false)) fun x1 => (pk false (Out.rt (id x1))))
def m_is_between (v : (PyData × Int × Int)) : Mk false Bool := exO false (Empty.elim) (b_is_between v)
theorem k_is_between {P : Program} {w : World} {K : PySem.W.Frag} {mg : Str → Option Value} {base : Heap} (W : Wd K mg) : Kn P w K mg base 2 "is_between" (spM K (fun (v : (PyData × Int × Int)) => [eA v.1, eI v.2.1, eI v.2.2]) m_is_between (xV eB)) :=
  kn_m (er := fun (v : (PyData × Int × Int)) => [eA v.1, eI v.2.1, eI v.2.2]) (xr := (xV eB)) W.f_is_between W.g_is_between sc_is_between (fun _ _ _ _ _ _ us hl => match us, hl with | [_, _, _], _ => rfl) (fun _ => rfl) (by decide) (Empty.elim) (fun s => nomatch s) (fun _ _ s => nomatch s) b_is_between (fun _ _ s => nomatch s) (fun f cdv A outer s H g E' E0 v B p hr tk => by
    have nd := sc_is_between.nd
    have c_is_integer := (k_is_integer (P := P) (w := w) (base := base) W).mono (show 1 ≤ 1 by decide)
    unfold b_is_between
    exact (ms_ret id (fun _ => rfl) (me_and (me_callV (fun _ => c_is_integer) (fun _ => hr) (fun _ => tk) (ma_one (me_v 0 v.1))) (me_bo1 (me_chI .le .le (me_v 1 v.2.1) (me_dec (me_v 0 v.1) cI) (me_v 2 v.2.2))))))
end Q92
end
section
set_option maxHeartbeats 4000000
namespace Q92
open PySem PySem.Spec PyProof.Rows L2 SK
/-! ### is_value -/
theorem sc_is_value : FnScope ["value"] ["value"] (defScope S_is_value) := ⟨rfl, rfl, rfl, by decide +kernel, rfl, by decide +kernel, by decide +kernel⟩
def b_is_value (v : (PyData)) : Mk false (Out Empty Bool) := (bk false (bk false (bk false (pk false v) fun v2 => (lk false (m_is_integer v2))) fun x6 => if x6 = true then (bk false (bk false (pk false v) fun x3 => (lk false (dI x3))) fun x4 => (bk false (pk false (0 : Int)) fun x5 => (pk false (CmpI.f .ge x4 x5)))) else (pk false false)) fun x1 => (pk false (Out.rt (id x1))))
def m_is_value (v : (PyData)) : Mk false Bool := exO false (Empty.elim) (b_is_value v)
theorem k_is_value {P : Program} {w : World} {K : PySem.W.Frag} {mg : Str → Option Value} {base : Heap} (W : Wd K mg) : Kn P w K mg base 2 "is_value" (spM K (fun (v : (PyData)) => [eA v]) m_is_value (xV eB)) :=
  kn_m (er := fun (v : (PyData)) => [eA v]) (xr := (xV eB)) W.f_is_value W.g_is_value sc_is_value (fun _ _ _ _ _ _ us hl => match us, hl with | [_], _ => rfl) (fun _ => rfl) (by decide) (Empty.elim) (fun s => nomatch s) (fun _ _ s => nomatch s) b_is_value (fun _ _ s => nomatch s) (fun f cdv A outer s H g E' E0 v B p hr tk => by
    have nd := sc_is_value.nd
    have c_is_integer := (k_is_integer (P := P) (w := w) (base := base) W).mono (show 1 ≤ 1 by decide)
    unfold b_is_value
    exact (ms_ret id (fun _ => rfl) (me_and (me_callV (fun _ => c_is_integer) (fun _ => hr) (fun _ => tk) (ma_one (me_v 0 v))) (me_bo1 (me_cmpI .ge (me_dec (me_v 0 v) cI) me_int)))))
end Q92
end
section
set_option maxHeartbeats 4000000
namespace Q92
open PySem PySem.Spec PyProof.Rows L2 SK
/-! ### is_column -/
theorem sc_is_column : FnScope ["value", "one"] ["value"] (defScope S_is_column) := ⟨rfl, rfl, rfl, by decide +kernel, rfl, by decide +kernel, by decide +kernel⟩
def b_is_column (v : (PyData)) : Mk false (Out Empty Bool) := (bk false (bk false (pk false v) fun x1 => (pk false (noneP x1))) fun x2 => ob false (if x2 = true then (bk false (pk false true) fun x4 => (pk false (Out.rt (id x4)))) else (pk false (Out.nx ()))) fun (s3 : Unit) => (bk false (bk false (bk false (bk false (pk false v) fun x5 => (pk false (isP "tuple" (eA x5)))) fun x6 => (pk false (!x6))) fun x12 => if x12 = true then (pk false true) else (bk false (bk false (pk false (1 : Int)) fun x8 => (bk false (bk false (pk false v) fun x7 => (lk false (pLen x7))) fun x9 => if CmpI.f .le x8 x9 = true then (bk false (pk false (3 : Int)) fun x10 => (pk false (CmpI.f .le x9 x10))) else (pk false false))) fun x11 => (pk false (!x11)))) fun x13 => ob false (if x13 = true then (bk false (pk false false) fun x15 => (pk false (Out.rt (id x15)))) else (pk false (Out.nx ()))) fun (s14 : Unit) => (bk false (bk false (bk false (bk false (bk false (pk false v) fun x17 => (lk false (pItems x17))) fun l20 => mM false (fun (a18 : PyData) => (bk false (pk false a18) fun v19 => (lk false (m_is_value v19)))) l20) fun x16 => (pk false (x16.all id))) fun x21 => (pk false (!x21))) fun x22 => ob false (if x22 = true then (bk false (pk false false) fun x24 => (pk false (Out.rt (id x24)))) else (pk false (Out.nx ()))) fun (s23 : Unit) => (bk false (bk false (bk false (bk false (pk false v) fun x26 => (lk false (pItems x26))) fun x29 => (pk false ((eL eA) x29))) fun x31 => (bk false (bk false (bk false (bk false (pk false v) fun x28 => (lk false ((SK.dT dI) x28))) fun x27 => (lk false (oSortU x27))) fun x30 => (pk false ((eL eI) x30))) fun x32 => (lk false ((oEq x31 x32).map fun z => false ^^ z)))) fun x25 => (pk false (Out.rt (id x25)))))))
def m_is_column (v : (PyData)) : Mk false Bool := exO false (Empty.elim) (b_is_column v)
theorem k_is_column {P : Program} {w : World} {K : PySem.W.Frag} {mg : Str → Option Value} {base : Heap} (W : Wd K mg) : Kn P w K mg base 3 "is_column" (spM K (fun (v : (PyData)) => [eA v]) m_is_column (xV eB)) :=
  kn_m (er := fun (v : (PyData)) => [eA v]) (xr := (xV eB)) W.f_is_column W.g_is_column sc_is_column (fun _ _ _ _ _ _ us hl => match us, hl with | [_], _ => rfl) (fun _ => rfl) (by decide) (Empty.elim) (fun s => nomatch s) (fun _ _ s => nomatch s) b_is_column (fun _ _ s => nomatch s) (fun f cdv A outer s H g E' E0 v B p hr tk => by
    have nd := sc_is_column.nd
    have c_is_value := (k_is_value (P := P) (w := w) (base := base) W).mono (show 2 ≤ 2 by decide)
    unfold b_is_column
    exact (ms_if (Cm := fun (s3 : Unit) => (⟨[(0, .p (eA v))], [], [], p, 2, B⟩ : Ct)) (mt_isN (f := noneP) isA (me_v 0 v)) (ms_ret id (fun _ => rfl) me_bl) (ms_nil (s := ()) (sub_of (SubF.cons rfl SubF.nil))) (fun s3 => (ms_if (Cm := fun (s14 : Unit) => (⟨[(0, .p (eA v))], [], [], p, 2, B⟩ : Ct)) (mt_w (mw_or (mt_not (mt_e (me_isi "tuple" (fun _ => W.m_isinstance) (fun _ => W.m_tuple) (me_v 0 v)))) (mw_or1 (mt_not (mt_chI .le .le me_int (me_lenA (fun _ => W.m_len) (me_v 0 v)) me_int))))) (ms_ret id (fun _ => rfl) me_bl) (ms_nil (s := ()) (sub_of (SubF.cons rfl SubF.nil))) (fun s14 => (ms_if (Cm := fun (s23 : Unit) => (⟨[(0, .p (eA v))], [], [], p, 2, B⟩ : Ct)) (mt_not (mt_e (me_all (fun _ => W.m_all) (me_enc (eb := (eL eB)) (me_F (mf_comp1 (eb := eB) (fun _ => rfl) (fun _ => nd) (fun _ => blk_ok (own := [("one", 1)]) (by kernel_rfl)) (mi_any (me_v 0 v)) (mg_name 1 (fun _ => nd)) (fun a18 => (me_callV (fun _ => c_is_value) (fun _ => hr) (fun _ => tk0) (ma_one (me_v 1 a18)))))))))) (ms_ret id (fun _ => rfl) me_bl) (ms_nil (s := ()) (sub_of (SubF.cons rfl SubF.nil))) (fun s23 => (ms_ret id (fun _ => rfl) (me_cmp (fun _ => opEq false hr.r.units) (re_eqA false (me_any (me_enc (eb := (eL eA)) (me_F (mf_listA (fun _ => W.m_list) (me_v 0 v))))) (me_any (me_enc (eb := (eL eI)) (me_F (mf_sortset (fun _ => W.m_sorted) (fun _ => W.m_set) (me_dec (me_v 0 v) (cT cI))))))))))))))))
end Q92
end
section
set_option maxHeartbeats 4000000
namespace Q92
open PySem PySem.Spec PyProof.Rows L2 SK
/-! ### is_value_of -/
theorem sc_is_value_of : FnScope ["column", "value"] ["column", "value"] (defScope S_is_value_of) := ⟨rfl, rfl, rfl, by decide +kernel, rfl, by decide +kernel, by decide +kernel⟩
def b_is_value_of (v : ((Option (List Int)) × PyData)) : Mk false (Out Empty Bool) := (bk false (bk false (bk false (pk false v.2) fun v2 => (lk false (m_is_value v2))) fun x9 => if x9 = true then (bk false (bk false (pk false v.1) fun x3 => (pk false (isNo x3))) fun x8 => if x8 = true then (pk false true) else (bk false (pk false v.2) fun x6 => (bk false (bk false (bk false (pk false v.1) fun x4 => (lk false x4)) fun x5 => (pk false ((eT eI) x5))) fun x7 => (lk false ((oIn x6 x7).map fun z => false ^^ z))))) else (pk false false)) fun x1 => (pk false (Out.rt (id x1))))
def m_is_value_of (v : ((Option (List Int)) × PyData)) : Mk false Bool := exO false (Empty.elim) (b_is_value_of v)
theorem k_is_value_of {P : Program} {w : World} {K : PySem.W.Frag} {mg : Str → Option Value} {base : Heap} (W : Wd K mg) : Kn P w K mg base 3 "is_value_of" (spM K (fun (v : ((Option (List Int)) × PyData)) => [(eO (eT eI)) v.1, eA v.2]) m_is_value_of (xV eB)) :=
  kn_m (er := fun (v : ((Option (List Int)) × PyData)) => [(eO (eT eI)) v.1, eA v.2]) (xr := (xV eB)) W.f_is_value_of W.g_is_value_of sc_is_value_of (fun _ _ _ _ _ _ us hl => match us, hl with | [_, _], _ => rfl) (fun _ => rfl) (by decide) (Empty.elim) (fun s => nomatch s) (fun _ _ s => nomatch s) b_is_value_of (fun _ _ s => nomatch s) (fun f cdv A outer s H g E' E0 v B p hr tk => by
    have nd := sc_is_value_of.nd
    have c_is_value := (k_is_value (P := P) (w := w) (base := base) W).mono (show 2 ≤ 2 by decide)
    unfold b_is_value_of
    exact (ms_ret id (fun _ => rfl) (me_and (me_callV (fun _ => c_is_value) (fun _ => hr) (fun _ => tk) (ma_one (me_v 1 v.2))) (me_bo1 (me_or (me_isN (f := isNo) (isO noT) (me_v 0 v.1)) (me_bo1 (me_cmp (fun _ => opIn false rfl hr.u65) (re_inA false (me_v 1 v.2) (me_any (me_get (me_v 0 v.1)))))))))))
end Q92
end
section
set_option maxHeartbeats 4000000
namespace Q92
open PySem PySem.Spec PyProof.Rows L2 SK
/-! ### is_columns -/
theorem sc_is_columns : FnScope ["value", "column"] ["value"] (defScope S_is_columns) := ⟨rfl, rfl, rfl, by decide +kernel, rfl, by decide +kernel, by decide +kernel⟩
def b_is_columns (v : (PyData)) : Mk false (Out Empty Bool) := (bk false (bk false (bk false (bk false (pk false v) fun x1 => (pk false (isP "tuple" (eA x1)))) fun x2 => (pk false (!x2))) fun x8 => if x8 = true then (pk false true) else (bk false (bk false (pk false (1 : Int)) fun x4 => (bk false (bk false (pk false v) fun x3 => (lk false (pLen x3))) fun x5 => if CmpI.f .le x4 x5 = true then (bk false (pk false (4 : Int)) fun x6 => (pk false (CmpI.f .le x5 x6))) else (pk false false))) fun x7 => (pk false (!x7)))) fun x9 => ob false (if x9 = true then (bk false (pk false false) fun x11 => (pk false (Out.rt (id x11)))) else (pk false (Out.nx ()))) fun (s10 : Unit) => (bk false (bk false (bk false (bk false (pk false v) fun x14 => (lk false (pItems x14))) fun l17 => mM false (fun (a15 : PyData) => (bk false (pk false a15) fun v16 => (lk false (m_is_column v16)))) l17) fun x13 => (pk false (x13.all id))) fun x12 => (pk false (Out.rt (id x12)))))
def m_is_columns (v : (PyData)) : Mk false Bool := exO false (Empty.elim) (b_is_columns v)
theorem k_is_columns {P : Program} {w : World} {K : PySem.W.Frag} {mg : Str → Option Value} {base : Heap} (W : Wd K mg) : Kn P w K mg base 4 "is_columns" (spM K (fun (v : (PyData)) => [eA v]) m_is_columns (xV eB)) :=
  kn_m (er := fun (v : (PyData)) => [eA v]) (xr := (xV eB)) W.f_is_columns W.g_is_columns sc_is_columns (fun _ _ _ _ _ _ us hl => match us, hl with | [_], _ => rfl) (fun _ => rfl) (by decide) (Empty.elim) (fun s => nomatch s) (fun _ _ s => nomatch s) b_is_columns (fun _ _ s => nomatch s) (fun f cdv A outer s H g E' E0 v B p hr tk => by
    have nd := sc_is_columns.nd
    have c_is_column := (k_is_column (P := P) (w := w) (base := base) W).mono (show 3 ≤ 3 by decide)
    unfold b_is_columns
    exact (ms_if (Cm := fun (s10 : Unit) => (⟨[(0, .p (eA v))], [], [], p, 2, B⟩ : Ct)) (mt_w (mw_or (mt_not (mt_e (me_isi "tuple" (fun _ => W.m_isinstance) (fun _ => W.m_tuple) (me_v 0 v)))) (mw_or1 (mt_not (mt_chI .le .le me_int (me_lenA (fun _ => W.m_len) (me_v 0 v)) (me_globI (i := 4) (hm := fun _ => W.i_MOST_COLUMNS))))))) (ms_ret id (fun _ => rfl) me_bl) (ms_nil (s := ()) (sub_of (SubF.cons rfl SubF.nil))) (fun s10 => (ms_ret id (fun _ => rfl) (me_all (fun _ => W.m_all) (me_enc (eb := (eL eB)) (me_F (mf_comp1 (eb := eB) (fun _ => rfl) (fun _ => nd) (fun _ => blk_ok (own := [("column", 1)]) (by kernel_rfl)) (mi_any (me_v 0 v)) (mg_name 1 (fun _ => nd)) (fun a15 => (me_callV (fun _ => c_is_column) (fun _ => hr) (fun _ => tk0) (ma_one (me_v 1 a15))))))))))))
end Q92
end
section
set_option maxHeartbeats 4000000
namespace Q92
open PySem PySem.Spec PyProof.Rows L2 SK
/-! ### is_row_of -/
theorem sc_is_row_of : FnScope ["columns", "value", "column", "one"] ["columns", "value"] (defScope S_is_row_of) := ⟨rfl, rfl, rfl, by decide +kernel, rfl, by decide +kernel, by decide +kernel⟩
def b_is_row_of (v : ((List (Option (List Int))) × PyData)) : Mk false (Out Empty Bool) := (bk false (bk false (bk false (bk false (pk false v.2) fun x1 => (pk false (isP "tuple" (eA x1)))) fun x2 => (pk false (!x2))) fun x7 => if x7 = true then (pk false true) else (bk false (bk false (pk false v.2) fun x3 => (lk false (pLen x3))) fun x5 => (bk false (bk false (pk false v.1) fun x4 => (pk false (x4.length : Int))) fun x6 => (pk false (true ^^ decide (x5 = x6)))))) fun x8 => ob false (if x8 = true then (bk false (pk false false) fun x10 => (pk false (Out.rt (id x10)))) else (pk false (Out.nx ()))) fun (s9 : Unit) => (bk false (bk false (bk false (bk false (pk false v.1) fun x13 => (bk false (pk false v.2) fun x14 => (bk false (pk false x13) fun x15 => (bk false (lk false (pItems x14)) fun x16 => (pk false (x15.zip x16)))))) fun l23 => mM false (fun (a17 : ((Option (List Int)) × PyData)) => (bk false (bk false (pk false a17.2) fun x18 => (pk false (noneP x18))) fun x22 => if x22 = true then (pk false true) else (bk false (bk false (pk false a17.1) fun x19 => (bk false (pk false a17.2) fun x20 => (pk false (x19, x20)))) fun v21 => (lk false (m_is_value_of v21))))) l23) fun x12 => (pk false (x12.all id))) fun x11 => (pk false (Out.rt (id x11)))))
def m_is_row_of (v : ((List (Option (List Int))) × PyData)) : Mk false Bool := exO false (Empty.elim) (b_is_row_of v)
theorem k_is_row_of {P : Program} {w : World} {K : PySem.W.Frag} {mg : Str → Option Value} {base : Heap} (W : Wd K mg) : Kn P w K mg base 4 "is_row_of" (spM K (fun (v : ((List (Option (List Int))) × PyData)) => [(eT (eO (eT eI))) v.1, eA v.2]) m_is_row_of (xV eB)) :=
  kn_m (er := fun (v : ((List (Option (List Int))) × PyData)) => [(eT (eO (eT eI))) v.1, eA v.2]) (xr := (xV eB)) W.f_is_row_of W.g_is_row_of sc_is_row_of (fun _ _ _ _ _ _ us hl => match us, hl with | [_, _], _ => rfl) (fun _ => rfl) (by decide) (Empty.elim) (fun s => nomatch s) (fun _ _ s => nomatch s) b_is_row_of (fun _ _ s => nomatch s) (fun f cdv A outer s H g E' E0 v B p hr tk => by
    have nd := sc_is_row_of.nd
    have c_is_value_of := (k_is_value_of (P := P) (w := w) (base := base) W).mono (show 3 ≤ 3 by decide)
    unfold b_is_row_of
    exact (ms_if (Cm := fun (s9 : Unit) => (⟨[(0, .p ((eT (eO (eT eI))) v.1)), (1, .p (eA v.2))], [], [], p, 4, B⟩ : Ct)) (mt_w (mw_or (mt_not (mt_e (me_isi "tuple" (fun _ => W.m_isinstance) (fun _ => W.m_tuple) (me_v 1 v.2)))) (mw_or1 (mt_cmp (fun _ => opEq true hr.r.units) (re_eqT true qI (by decide) (me_lenA (fun _ => W.m_len) (me_v 1 v.2)) (me_len sqT (fun _ => W.m_len) (me_v 0 v.1))))))) (ms_ret id (fun _ => rfl) me_bl) (ms_nil (s := ()) (sub_of (SubF.cons rfl (SubF.cons rfl SubF.nil)))) (fun s9 => (ms_ret id (fun _ => rfl) (me_all (fun _ => W.m_all) (me_enc (eb := (eL eB)) (me_F (mf_comp1 (eb := eB) (fun _ => rfl) (fun _ => nd) (fun _ => blk_ok (own := [("column", 2), ("one", 3)]) (by kernel_rfl)) (mi_zipA sqT (fun _ => W.m_zip) (me_v 0 v.1) (me_v 1 v.2)) (mg_tup2 2 3 (fun _ => nd)) (fun a17 => (me_or (me_isN (f := noneP) isA (me_v 3 a17.2)) (me_bo1 (me_callV (fun _ => c_is_value_of) (fun _ => hr) (fun _ => tk0) (ma_cons (me_v 2 a17.1) (ma_one (me_v 3 a17.2)))))))))))))))
end Q92
end
section
set_option maxHeartbeats 4000000
namespace Q92
open PySem PySem.Spec PyProof.Rows L2 SK
/-! ### count_unknown -/
theorem sc_count_unknown : FnScope ["table", "row"] ["table"] (defScope S_count_unknown) := ⟨rfl, rfl, rfl, by decide +kernel, rfl, by decide +kernel, by decide +kernel⟩
def b_count_unknown (v : ((List (List (Option Int))))) : Mk false (Out Empty Int) := (bk false (bk false (bk false (bk false (pk false v) fun x3 => (pk false x3)) fun l7 => mM false (fun (a4 : (List (Option Int))) => (bk false (pk false a4) fun x5 => (bk false (bk false (pk false ()) fun _ => (pk false (none : (Option Int)))) fun x6 => (pk false (oCnt x5 x6))))) l7) fun x2 => (pk false x2.sum)) fun x1 => (pk false (Out.rt (id x1))))
def m_count_unknown (v : ((List (List (Option Int))))) : Mk false Int := exO false (Empty.elim) (b_count_unknown v)
theorem k_count_unknown {P : Program} {w : World} {K : PySem.W.Frag} {mg : Str → Option Value} {base : Heap} (W : Wd K mg) : Kn P w K mg base 1 "count_unknown" (spM K (fun (v : ((List (List (Option Int))))) => [(eT (eT (eO eI))) v]) m_count_unknown (xV eI)) :=
  kn_m (er := fun (v : ((List (List (Option Int))))) => [(eT (eT (eO eI))) v]) (xr := (xV eI)) W.f_count_unknown W.g_count_unknown sc_count_unknown (fun _ _ _ _ _ _ us hl => match us, hl with | [_], _ => rfl) (fun _ => rfl) (by decide) (Empty.elim) (fun s => nomatch s) (fun _ _ s => nomatch s) b_count_unknown (fun _ _ s => nomatch s) (fun f cdv A outer s H g E' E0 v B p hr tk => by
    have nd := sc_count_unknown.nd
    unfold b_count_unknown
    exact (ms_ret id (fun _ => rfl) (me_sum (fun _ => W.m_sum) (me_enc (eb := (eL eI)) (me_F (mf_comp1 (eb := eI) (fun _ => rfl) (fun _ => nd) (fun _ => blk_ok (own := [("row", 1)]) (by kernel_rfl)) (mi_seq sqT (me_v 0 v)) (mg_name 1 (fun _ => nd)) (fun a4 => (me_count (fun _ => hr.u65) (qO qI nI) (by decide) (me_v 1 a4) (me_none (ea := eI) me_non)))))))))
end Q92
end
section
set_option maxHeartbeats 4000000
namespace Q92
open PySem PySem.Spec PyProof.Rows L2 SK
/-! ### is_table_of -/
theorem sc_is_table_of : FnScope ["columns", "value", "row"] ["columns", "value"] (defScope S_is_table_of) := ⟨rfl, rfl, rfl, by decide +kernel, rfl, by decide +kernel, by decide +kernel⟩
def b_is_table_of (v : ((List (Option (List Int))) × PyData)) : Mk false (Out Empty Bool) := (bk false (bk false (bk false (bk false (pk false v.2) fun x1 => (pk false (isP "tuple" (eA x1)))) fun x2 => (pk false (!x2))) fun x6 => if x6 = true then (pk false true) else (bk false (bk false (pk false v.2) fun x3 => (lk false (pLen x3))) fun x4 => (bk false (pk false (8 : Int)) fun x5 => (pk false (CmpI.f .gt x4 x5))))) fun x7 => ob false (if x7 = true then (bk false (pk false false) fun x9 => (pk false (Out.rt (id x9)))) else (pk false (Out.nx ()))) fun (s8 : Unit) => (bk false (bk false (bk false (bk false (bk false (pk false v.2) fun x12 => (lk false (pItems x12))) fun l17 => mM false (fun (a13 : PyData) => (bk false (bk false (pk false v.1) fun x14 => (bk false (pk false a13) fun x15 => (pk false (x14, x15)))) fun v16 => (lk false (m_is_row_of v16)))) l17) fun x11 => (pk false (x11.all id))) fun x22 => if x22 = true then (bk false (bk false (bk false (pk false v.2) fun x18 => (lk false ((SK.dT (SK.dT (SK.dO dI))) x18))) fun v19 => (lk false (m_count_unknown v19))) fun x20 => (bk false (pk false (6 : Int)) fun x21 => (pk false (CmpI.f .le x20 x21)))) else (pk false false)) fun x10 => (pk false (Out.rt (id x10)))))
def m_is_table_of (v : ((List (Option (List Int))) × PyData)) : Mk false Bool := exO false (Empty.elim) (b_is_table_of v)
theorem k_is_table_of {P : Program} {w : World} {K : PySem.W.Frag} {mg : Str → Option Value} {base : Heap} (W : Wd K mg) : Kn P w K mg base 5 "is_table_of" (spM K (fun (v : ((List (Option (List Int))) × PyData)) => [(eT (eO (eT eI))) v.1, eA v.2]) m_is_table_of (xV eB)) :=
  kn_m (er := fun (v : ((List (Option (List Int))) × PyData)) => [(eT (eO (eT eI))) v.1, eA v.2]) (xr := (xV eB)) W.f_is_table_of W.g_is_table_of sc_is_table_of (fun _ _ _ _ _ _ us hl => match us, hl with | [_, _], _ => rfl) (fun _ => rfl) (by decide) (Empty.elim) (fun s => nomatch s) (fun _ _ s => nomatch s) b_is_table_of (fun _ _ s => nomatch s) (fun f cdv A outer s H g E' E0 v B p hr tk => by
    have nd := sc_is_table_of.nd
    have c_count_unknown := (k_count_unknown (P := P) (w := w) (base := base) W).mono (show 1 ≤ 4 by decide)
    have c_is_row_of := (k_is_row_of (P := P) (w := w) (base := base) W).mono (show 4 ≤ 4 by decide)
    unfold b_is_table_of
    exact (ms_if (Cm := fun (s8 : Unit) => (⟨[(0, .p ((eT (eO (eT eI))) v.1)), (1, .p (eA v.2))], [], [], p, 3, B⟩ : Ct)) (mt_w (mw_or (mt_not (mt_e (me_isi "tuple" (fun _ => W.m_isinstance) (fun _ => W.m_tuple) (me_v 1 v.2)))) (mw_or1 (mt_cmpI .gt (me_lenA (fun _ => W.m_len) (me_v 1 v.2)) (me_globI (i := 8) (hm := fun _ => W.i_MOST_ROWS)))))) (ms_ret id (fun _ => rfl) me_bl) (ms_nil (s := ()) (sub_of (SubF.cons rfl (SubF.cons rfl SubF.nil)))) (fun s8 => (ms_ret id (fun _ => rfl) (me_and (me_all (fun _ => W.m_all) (me_enc (eb := (eL eB)) (me_F (mf_comp1 (eb := eB) (fun _ => rfl) (fun _ => nd) (fun _ => blk_ok (own := [("row", 2)]) (by kernel_rfl)) (mi_any (me_v 1 v.2)) (mg_name 2 (fun _ => nd)) (fun a13 => (me_callV (fun _ => c_is_row_of) (fun _ => hr) (fun _ => tk0) (ma_cons (me_v 0 v.1) (ma_one (me_v 2 a13))))))))) (me_bo1 (me_cmpI .le (me_callV (fun _ => c_count_unknown) (fun _ => hr) (fun _ => tk) (ma_one (me_dec (me_v 1 v.2) (cT (cT (cO cI)))))) (me_globI (i := 6) (hm := fun _ => W.i_MOST_UNKNOWN)))))))))
end Q92
end
section
set_option maxHeartbeats 4000000
namespace Q92
open PySem PySem.Spec PyProof.Rows L2 SK
/-! ### is_set_for -/
theorem sc_is_set_for : FnScope ["many", "value", "one"] ["many", "value"] (defScope S_is_set_for) := ⟨rfl, rfl, rfl, by decide +kernel, rfl, by decide +kernel, by decide +kernel⟩
def b_is_set_for (v : (Int × PyData)) : Mk false (Out Empty Bool) := (bk false (bk false (bk false (bk false (pk false v.2) fun x1 => (pk false (isP "tuple" (eA x1)))) fun x2 => (pk false (!x2))) fun x15 => if x15 = true then (pk false true) else (bk false (bk false (bk false (bk false (pk false v.2) fun x4 => (lk false (pItems x4))) fun l13 => mM false (fun (a5 : PyData) => (bk false (bk false (pk false a5) fun x10 => (bk false (bk false (pk false (0 : Int)) fun x8 => (bk false (bk false (pk false v.1) fun x6 => (bk false (pk false (1 : Int)) fun x7 => (pk false (x6 - x7)))) fun x9 => (pk false (x8, x9)))) fun x11 => (pk false (x10, x11)))) fun v12 => (lk false (m_is_between v12)))) l13) fun x3 => (pk false (x3.all id))) fun x14 => (pk false (!x14)))) fun x16 => ob false (if x16 = true then (bk false (pk false false) fun x18 => (pk false (Out.rt (id x18)))) else (pk false (Out.nx ()))) fun (s17 : Unit) => (bk false (bk false (bk false (bk false (pk false v.2) fun x20 => (lk false (pItems x20))) fun x23 => (pk false ((eL eA) x23))) fun x25 => (bk false (bk false (bk false (bk false (pk false v.2) fun x22 => (lk false ((SK.dT dI) x22))) fun x21 => (lk false (oSortU x21))) fun x24 => (pk false ((eL eI) x24))) fun x26 => (lk false ((oEq x25 x26).map fun z => false ^^ z)))) fun x19 => (pk false (Out.rt (id x19)))))
def m_is_set_for (v : (Int × PyData)) : Mk false Bool := exO false (Empty.elim) (b_is_set_for v)
theorem k_is_set_for {P : Program} {w : World} {K : PySem.W.Frag} {mg : Str → Option Value} {base : Heap} (W : Wd K mg) : Kn P w K mg base 3 "is_set_for" (spM K (fun (v : (Int × PyData)) => [eI v.1, eA v.2]) m_is_set_for (xV eB)) :=
  kn_m (er := fun (v : (Int × PyData)) => [eI v.1, eA v.2]) (xr := (xV eB)) W.f_is_set_for W.g_is_set_for sc_is_set_for (fun _ _ _ _ _ _ us hl => match us, hl with | [_, _], _ => rfl) (fun _ => rfl) (by decide) (Empty.elim) (fun s => nomatch s) (fun _ _ s => nomatch s) b_is_set_for (fun _ _ s => nomatch s) (fun f cdv A outer s H g E' E0 v B p hr tk => by
    have nd := sc_is_set_for.nd
    have c_is_between := (k_is_between (P := P) (w := w) (base := base) W).mono (show 2 ≤ 2 by decide)
    unfold b_is_set_for
    exact (ms_if (Cm := fun (s17 : Unit) => (⟨[(0, .p (eI v.1)), (1, .p (eA v.2))], [], [], p, 3, B⟩ : Ct)) (mt_w (mw_or (mt_not (mt_e (me_isi "tuple" (fun _ => W.m_isinstance) (fun _ => W.m_tuple) (me_v 1 v.2)))) (mw_or1 (mt_not (mt_e (me_all (fun _ => W.m_all) (me_enc (eb := (eL eB)) (me_F (mf_comp1 (eb := eB) (fun _ => rfl) (fun _ => nd) (fun _ => blk_ok (own := [("one", 2)]) (by kernel_rfl)) (mi_any (me_v 1 v.2)) (mg_name 2 (fun _ => nd)) (fun a5 => (me_callV (fun _ => c_is_between) (fun _ => hr) (fun _ => tk0) (ma_cons (me_v 2 a5) (ma_cons me_int (ma_one (me_sub (me_v 0 v.1) me_int))))))))))))))) (ms_ret id (fun _ => rfl) me_bl) (ms_nil (s := ()) (sub_of (SubF.cons rfl (SubF.cons rfl SubF.nil)))) (fun s17 => (ms_ret id (fun _ => rfl) (me_cmp (fun _ => opEq false hr.r.units) (re_eqA false (me_any (me_enc (eb := (eL eA)) (me_F (mf_listA (fun _ => W.m_list) (me_v 1 v.2))))) (me_any (me_enc (eb := (eL eI)) (me_F (mf_sortset (fun _ => W.m_sorted) (fun _ => W.m_set) (me_dec (me_v 1 v.2) (cT cI))))))))))))
end Q92
end
section
set_option maxHeartbeats 4000000
namespace Q92
open PySem PySem.Spec PyProof.Rows L2 SK
/-! ### is_set_of -/
theorem sc_is_set_of : FnScope ["columns", "value"] ["columns", "value"] (defScope S_is_set_of) := ⟨rfl, rfl, rfl, by decide +kernel, rfl, by decide +kernel, by decide +kernel⟩
def b_is_set_of (v : ((List (Option (List Int))) × PyData)) : Mk false (Out Empty Bool) := (bk false (bk false (bk false (bk false (pk false v.1) fun x2 => (pk false (x2.length : Int))) fun x3 => (bk false (pk false v.2) fun x4 => (pk false (x3, x4)))) fun v5 => (lk false (m_is_set_for v5))) fun x1 => (pk false (Out.rt (id x1))))
def m_is_set_of (v : ((List (Option (List Int))) × PyData)) : Mk false Bool := exO false (Empty.elim) (b_is_set_of v)
theorem k_is_set_of {P : Program} {w : World} {K : PySem.W.Frag} {mg : Str → Option Value} {base : Heap} (W : Wd K mg) : Kn P w K mg base 4 "is_set_of" (spM K (fun (v : ((List (Option (List Int))) × PyData)) => [(eT (eO (eT eI))) v.1, eA v.2]) m_is_set_of (xV eB)) :=
  kn_m (er := fun (v : ((List (Option (List Int))) × PyData)) => [(eT (eO (eT eI))) v.1, eA v.2]) (xr := (xV eB)) W.f_is_set_of W.g_is_set_of sc_is_set_of (fun _ _ _ _ _ _ us hl => match us, hl with | [_, _], _ => rfl) (fun _ => rfl) (by decide) (Empty.elim) (fun s => nomatch s) (fun _ _ s => nomatch s) b_is_set_of (fun _ _ s => nomatch s) (fun f cdv A outer s H g E' E0 v B p hr tk => by
    have nd := sc_is_set_of.nd
    have c_is_set_for := (k_is_set_for (P := P) (w := w) (base := base) W).mono (show 3 ≤ 3 by decide)
    unfold b_is_set_of
    exact (ms_ret id (fun _ => rfl) (me_callV (fun _ => c_is_set_for) (fun _ => hr) (fun _ => tk) (ma_cons (me_len sqT (fun _ => W.m_len) (me_v 0 v.1)) (ma_one (me_v 1 v.2))))))
end Q92
end
section
set_option maxHeartbeats 4000000
namespace Q92
open PySem PySem.Spec PyProof.Rows L2 SK
/-! ### is_demand_of -/
theorem sc_is_demand_of : FnScope ["columns", "value", "some"] ["columns", "value"] (defScope S_is_demand_of) := ⟨rfl, rfl, rfl, by decide +kernel, rfl, by decide +kernel, by decide +kernel⟩
def b_is_demand_of (v : ((List (Option (List Int))) × PyData)) : Mk false (Out Empty Bool) := (bk false (bk false (bk false (bk false (pk false v.2) fun x1 => (pk false (isP "tuple" (eA x1)))) fun x2 => (pk false (!x2))) fun x6 => if x6 = true then (pk false true) else (bk false (bk false (pk false v.2) fun x3 => (lk false (pLen x3))) fun x4 => (bk false (pk false (4 : Int)) fun x5 => (pk false (CmpI.f .gt x4 x5))))) fun x7 => ob false (if x7 = true then (bk false (pk false false) fun x9 => (pk false (Out.rt (id x9)))) else (pk false (Out.nx ()))) fun (s8 : Unit) => (bk false (bk false (bk false (bk false (pk false v.2) fun x12 => (lk false (pItems x12))) fun l17 => mM false (fun (a13 : PyData) => (bk false (bk false (pk false v.1) fun x14 => (bk false (pk false a13) fun x15 => (pk false (x14, x15)))) fun v16 => (lk false (m_is_set_of v16)))) l17) fun x11 => (pk false (x11.all id))) fun x10 => (pk false (Out.rt (id x10)))))
def m_is_demand_of (v : ((List (Option (List Int))) × PyData)) : Mk false Bool := exO false (Empty.elim) (b_is_demand_of v)
theorem k_is_demand_of {P : Program} {w : World} {K : PySem.W.Frag} {mg : Str → Option Value} {base : Heap} (W : Wd K mg) : Kn P w K mg base 5 "is_demand_of" (spM K (fun (v : ((List (Option (List Int))) × PyData)) => [(eT (eO (eT eI))) v.1, eA v.2]) m_is_demand_of (xV eB)) :=
  kn_m (er := fun (v : ((List (Option (List Int))) × PyData)) => [(eT (eO (eT eI))) v.1, eA v.2]) (xr := (xV eB)) W.f_is_demand_of W.g_is_demand_of sc_is_demand_of (fun _ _ _ _ _ _ us hl => match us, hl with | [_, _], _ => rfl) (fun _ => rfl) (by decide) (Empty.elim) (fun s => nomatch s) (fun _ _ s => nomatch s) b_is_demand_of (fun _ _ s => nomatch s) (fun f cdv A outer s H g E' E0 v B p hr tk => by
    have nd := sc_is_demand_of.nd
    have c_is_set_of := (k_is_set_of (P := P) (w := w) (base := base) W).mono (show 4 ≤ 4 by decide)
    unfold b_is_demand_of
    exact (ms_if (Cm := fun (s8 : Unit) => (⟨[(0, .p ((eT (eO (eT eI))) v.1)), (1, .p (eA v.2))], [], [], p, 3, B⟩ : Ct)) (mt_w (mw_or (mt_not (mt_e (me_isi "tuple" (fun _ => W.m_isinstance) (fun _ => W.m_tuple) (me_v 1 v.2)))) (mw_or1 (mt_cmpI .gt (me_lenA (fun _ => W.m_len) (me_v 1 v.2)) (me_globI (i := 4) (hm := fun _ => W.i_MOST_SETS)))))) (ms_ret id (fun _ => rfl) me_bl) (ms_nil (s := ()) (sub_of (SubF.cons rfl (SubF.cons rfl SubF.nil)))) (fun s8 => (ms_ret id (fun _ => rfl) (me_all (fun _ => W.m_all) (me_enc (eb := (eL eB)) (me_F (mf_comp1 (eb := eB) (fun _ => rfl) (fun _ => nd) (fun _ => blk_ok (own := [("some", 2)]) (by kernel_rfl)) (mi_any (me_v 1 v.2)) (mg_name 2 (fun _ => nd)) (fun a13 => (me_callV (fun _ => c_is_set_of) (fun _ => hr) (fun _ => tk0) (ma_cons (me_v 0 v.1) (ma_one (me_v 2 a13)))))))))))))
end Q92
end
section
set_option maxHeartbeats 4000000
namespace Q92
open PySem PySem.Spec PyProof.Rows L2 SK
/-! ### require_columns -/
theorem sc_require_columns : FnScope ["value"] ["value"] (defScope S_require_columns) := ⟨rfl, rfl, rfl, by decide +kernel, rfl, by decide +kernel, by decide +kernel⟩
def b_require_columns (v : (PyData)) : Mk false (Out Unit (Res Unit)) := (bk false (bk false (bk false (pk false v) fun v1 => (lk false (m_is_columns v1))) fun x2 => (pk false (!x2))) fun x3 => if x3 = true then (pk false (Out.rt (Res.er "InvalidColumns"))) else (pk false (Out.nx ())))
def m_require_columns (v : (PyData)) : Mk false (Res Unit) := exO false (fun _ => Res.ok ()) (b_require_columns v)
theorem k_require_columns {P : Program} {w : World} {K : PySem.W.Frag} {mg : Str → Option Value} {base : Heap} (W : Wd K mg) : Kn P w K mg base 5 "require_columns" (spM K (fun (v : (PyData)) => [eA v]) m_require_columns (xR eN)) :=
  kn_m (er := fun (v : (PyData)) => [eA v]) (xr := (xR eN)) W.f_require_columns W.g_require_columns sc_require_columns (fun _ _ _ _ _ _ us hl => match us, hl with | [_], _ => rfl) (fun _ => rfl) (by decide) (fun _ => Res.ok ()) (fun _ => rfl) (fun B p _ => ⟨[], [], [], p, 1, B⟩) b_require_columns (fun _ _ _ => rfl) (fun f cdv A outer s H g E' E0 v B p hr tk => by
    have nd := sc_require_columns.nd
    have c_is_columns := (k_is_columns (P := P) (w := w) (base := base) W).mono (show 4 ≤ 4 by decide)
    unfold b_require_columns
    exact (ms_ifl (mt_not (mt_e (me_callV (fun _ => c_is_columns) (fun _ => hr) (fun _ => tk) (ma_one (me_v 0 v))))) (ms_raise _ rfl (tk := (fun _ => tk)) (c := fun _ => W.x_InvalidColumns)) (ms_nil (s := ()) (sub_of SubF.nil))))
end Q92
end
section
set_option maxHeartbeats 4000000
namespace Q92
open PySem PySem.Spec PyProof.Rows L2 SK
/-! ### require_table -/
theorem sc_require_table : FnScope ["columns", "value"] ["columns", "value"] (defScope S_require_table) := ⟨rfl, rfl, rfl, by decide +kernel, rfl, by decide +kernel, by decide +kernel⟩
def b_require_table (v : (PyData × PyData)) : Mk false (Out Unit (Res Unit)) := (rb false Res.er (bk false (pk false v.1) fun v1 => (lk false (m_require_columns v1))) fun _ => (bk false (bk false (bk false (bk false (bk false (pk false v.1) fun x2 => (lk false ((SK.dT (SK.dO (SK.dT dI))) x2))) fun x3 => (bk false (pk false v.2) fun x4 => (pk false (x3, x4)))) fun v5 => (lk false (m_is_table_of v5))) fun x6 => (pk false (!x6))) fun x7 => if x7 = true then (pk false (Out.rt (Res.er "InvalidTable"))) else (pk false (Out.nx ()))))
def m_require_table (v : (PyData × PyData)) : Mk false (Res Unit) := exO false (fun _ => Res.ok ()) (b_require_table v)
theorem k_require_table {P : Program} {w : World} {K : PySem.W.Frag} {mg : Str → Option Value} {base : Heap} (W : Wd K mg) : Kn P w K mg base 6 "require_table" (spM K (fun (v : (PyData × PyData)) => [eA v.1, eA v.2]) m_require_table (xR eN)) :=
  kn_m (er := fun (v : (PyData × PyData)) => [eA v.1, eA v.2]) (xr := (xR eN)) W.f_require_table W.g_require_table sc_require_table (fun _ _ _ _ _ _ us hl => match us, hl with | [_, _], _ => rfl) (fun _ => rfl) (by decide) (fun _ => Res.ok ()) (fun _ => rfl) (fun B p _ => ⟨[], [], [], p, 2, B⟩) b_require_table (fun _ _ _ => rfl) (fun f cdv A outer s H g E' E0 v B p hr tk => by
    have nd := sc_require_table.nd
    have c_is_table_of := (k_is_table_of (P := P) (w := w) (base := base) W).mono (show 5 ≤ 5 by decide)
    have c_require_columns := (k_require_columns (P := P) (w := w) (base := base) W).mono (show 5 ≤ 5 by decide)
    unfold b_require_table
    exact (ms_exprE Res.er (fun _ => rfl) (mr_callR (fun _ => c_require_columns) (fun _ => hr) (fun _ => tk) (ma_one (me_v 0 v.1))) (fun _ => (ms_ifl (mt_not (mt_e (me_callV (fun _ => c_is_table_of) (fun _ => hr) (fun _ => tk) (ma_cons (me_dec (me_v 0 v.1) (cT (cO (cT cI)))) (ma_one (me_v 1 v.2)))))) (ms_raise _ rfl (tk := (fun _ => tk)) (c := fun _ => W.x_InvalidTable)) (ms_nil (s := ()) (sub_of SubF.nil))))))
end Q92
end
section
set_option maxHeartbeats 4000000
namespace Q92
open PySem PySem.Spec PyProof.Rows L2 SK
/-! ### require_demand -/
theorem sc_require_demand : FnScope ["columns", "value"] ["columns", "value"] (defScope S_require_demand) := ⟨rfl, rfl, rfl, by decide +kernel, rfl, by decide +kernel, by decide +kernel⟩
def b_require_demand (v : ((List (Option (List Int))) × PyData)) : Mk false (Out Unit (Res Unit)) := (bk false (bk false (bk false (bk false (pk false v.1) fun x1 => (bk false (pk false v.2) fun x2 => (pk false (x1, x2)))) fun v3 => (lk false (m_is_demand_of v3))) fun x4 => (pk false (!x4))) fun x5 => if x5 = true then (pk false (Out.rt (Res.er "InvalidDemand"))) else (pk false (Out.nx ())))
def m_require_demand (v : ((List (Option (List Int))) × PyData)) : Mk false (Res Unit) := exO false (fun _ => Res.ok ()) (b_require_demand v)
theorem k_require_demand {P : Program} {w : World} {K : PySem.W.Frag} {mg : Str → Option Value} {base : Heap} (W : Wd K mg) : Kn P w K mg base 6 "require_demand" (spM K (fun (v : ((List (Option (List Int))) × PyData)) => [(eT (eO (eT eI))) v.1, eA v.2]) m_require_demand (xR eN)) :=
  kn_m (er := fun (v : ((List (Option (List Int))) × PyData)) => [(eT (eO (eT eI))) v.1, eA v.2]) (xr := (xR eN)) W.f_require_demand W.g_require_demand sc_require_demand (fun _ _ _ _ _ _ us hl => match us, hl with | [_, _], _ => rfl) (fun _ => rfl) (by decide) (fun _ => Res.ok ()) (fun _ => rfl) (fun B p _ => ⟨[], [], [], p, 2, B⟩) b_require_demand (fun _ _ _ => rfl) (fun f cdv A outer s H g E' E0 v B p hr tk => by
    have nd := sc_require_demand.nd
    have c_is_demand_of := (k_is_demand_of (P := P) (w := w) (base := base) W).mono (show 5 ≤ 5 by decide)
    unfold b_require_demand
    exact (ms_ifl (mt_not (mt_e (me_callV (fun _ => c_is_demand_of) (fun _ => hr) (fun _ => tk) (ma_cons (me_v 0 v.1) (ma_one (me_v 1 v.2)))))) (ms_raise _ rfl (tk := (fun _ => tk)) (c := fun _ => W.x_InvalidDemand)) (ms_nil (s := ()) (sub_of SubF.nil))))
end Q92
end
section
set_option maxHeartbeats 4000000
namespace Q92
open PySem PySem.Spec PyProof.Rows L2 SK
/-! ### do_meet -/
theorem sc_do_meet : FnScope ["first", "second", "some", "column"] ["first", "second", "some"] (defScope S_do_meet) := ⟨rfl, rfl, rfl, by decide +kernel, rfl, by decide +kernel, by decide +kernel⟩
def b_do_meet (v : ((List (Option Int)) × (List (Option Int)) × (List Int))) : Mk false (Out Empty Bool) := (bk false (bk false (bk false (bk false (pk false v.2.2) fun x3 => (pk false x3)) fun l18 => mM false (fun (a4 : Int) => (bk false (bk false (bk false (pk false v.1) fun x5 => (bk false (pk false a4) fun x6 => (lk false (oAt x5 x6)))) fun x7 => (pk false (isNo x7))) fun x17 => if x17 = true then (pk false true) else (bk false (bk false (pk false v.2.1) fun x8 => (bk false (pk false a4) fun x9 => (lk false (oAt x8 x9)))) fun x15 => (bk false (bk false (bk false (bk false (pk false ()) fun _ => (pk false (none : (Option Int)))) fun x12 => (bk false (bk false (pk false v.1) fun x10 => (bk false (pk false a4) fun x11 => (lk false (oAt x10 x11)))) fun x13 => (pk false (x12, x13)))) fun x14 => (pk false ([x14.1, x14.2]))) fun x16 => (pk false (false ^^ oMem x15 x16)))))) l18) fun x2 => (pk false (x2.all id))) fun x1 => (pk false (Out.rt (id x1))))
def m_do_meet (v : ((List (Option Int)) × (List (Option Int)) × (List Int))) : Mk false Bool := exO false (Empty.elim) (b_do_meet v)
theorem k_do_meet {P : Program} {w : World} {K : PySem.W.Frag} {mg : Str → Option Value} {base : Heap} (W : Wd K mg) : Kn P w K mg base 1 "do_meet" (spM K (fun (v : ((List (Option Int)) × (List (Option Int)) × (List Int))) => [(eT (eO eI)) v.1, (eT (eO eI)) v.2.1, (eT eI) v.2.2]) m_do_meet (xV eB)) :=
  kn_m (er := fun (v : ((List (Option Int)) × (List (Option Int)) × (List Int))) => [(eT (eO eI)) v.1, (eT (eO eI)) v.2.1, (eT eI) v.2.2]) (xr := (xV eB)) W.f_do_meet W.g_do_meet sc_do_meet (fun _ _ _ _ _ _ us hl => match us, hl with | [_, _, _], _ => rfl) (fun _ => rfl) (by decide) (Empty.elim) (fun s => nomatch s) (fun _ _ s => nomatch s) b_do_meet (fun _ _ s => nomatch s) (fun f cdv A outer s H g E' E0 v B p hr tk => by
    have nd := sc_do_meet.nd
    unfold b_do_meet
    exact (ms_ret id (fun _ => rfl) (me_all (fun _ => W.m_all) (me_enc (eb := (eL eB)) (me_F (mf_comp1 (eb := eB) (fun _ => rfl) (fun _ => nd) (fun _ => blk_ok (own := [("column", 3)]) (by kernel_rfl)) (mi_seq sqT (me_v 2 v.2.2)) (mg_name 3 (fun _ => nd)) (fun a4 => (me_or (me_isN (f := isNo) (isO noI) (me_ix sqT (me_v 0 v.1) (me_v 3 a4))) (me_bo1 (me_cmp (fun _ => opIn false rfl hr.u65) (re_inT false (qO qI nI) (by decide) sqT (me_ix sqT (me_v 1 v.2.1) (me_v 3 a4)) (me_as (f := fun v => [v.1, v.2]) (eb := (eT (eO eI))) (me_tup (ma_cons (me_none (ea := eI) me_non) (ma_one (me_ix sqT (me_v 0 v.1) (me_v 3 a4))))) (fun _ => rfl)))))))))))))
end Q92
end
section
set_option maxHeartbeats 4000000
namespace Q92
open PySem PySem.Spec PyProof.Rows L2 SK
/-! ### find_meetings -/
theorem sc_find_meetings : FnScope ["table", "some", "found", "i", "j"] ["table", "some"] (defScope S_find_meetings) := ⟨rfl, rfl, rfl, by decide +kernel, rfl, by decide +kernel, by decide +kernel⟩
def b_find_meetings (v : ((List (List (Option Int))) × (List Int))) : Mk false (Out Empty (List (Int × Int))) := (bk false (bk false (pk false ()) fun _ => (pk false ([] : List (Int × Int)))) fun (l1 : List (Int × Int)) => (bk false (bk false (bk false (pk false v.1) fun x2 => (pk false (x2.length : Int))) fun x3 => (lk false (oRng 0 x3))) fun l29 => ob false (forM false (fun (a4 : Int) (s5 : List (Int × Int)) => (bk false (bk false (bk false (pk false a4) fun x6 => (bk false (pk false (1 : Int)) fun x7 => (pk false (x6 + x7)))) fun x9 => (bk false (bk false (pk false v.1) fun x8 => (pk false (x8.length : Int))) fun x10 => (lk false (oRng x9 x10)))) fun l27 => ob false (forM false (fun (a11 : Int) (s12 : List (Int × Int)) => (bk false (bk false (bk false (bk false (pk false v.1) fun x13 => (bk false (pk false a4) fun x14 => (lk false (oAt x13 x14)))) fun x19 => (bk false (bk false (bk false (pk false v.1) fun x15 => (bk false (pk false a11) fun x16 => (lk false (oAt x15 x16)))) fun x17 => (bk false (pk false v.2) fun x18 => (pk false (x17, x18)))) fun x20 => (pk false (x19, x20)))) fun v21 => (lk false (m_do_meet v21))) fun x22 => if x22 = true then (bk false (bk false (pk false a4) fun x24 => (bk false (pk false a11) fun x25 => (pk false (x24, x25)))) fun x26 => (bk false (lk false (oApp s12 x26)) fun (l23 : List (Int × Int)) => (pk false (Out.nx l23)))) else (pk false (Out.nx s12)))) l27 s5) fun (s12 : List (Int × Int)) => (pk false (Out.nx s12)))) l29 l1) fun (s5 : List (Int × Int)) => (pk false (Out.rt (id s5)))))
def m_find_meetings (v : ((List (List (Option Int))) × (List Int))) : Mk false (List (Int × Int)) := exO false (Empty.elim) (b_find_meetings v)
theorem k_find_meetings {P : Program} {w : World} {K : PySem.W.Frag} {mg : Str → Option Value} {base : Heap} (W : Wd K mg) : Kn P w K mg base 2 "find_meetings" (spM K (fun (v : ((List (List (Option Int))) × (List Int))) => [(eT (eT (eO eI))) v.1, (eT eI) v.2]) m_find_meetings (xL (eP2 eI eI))) :=
  kn_m (er := fun (v : ((List (List (Option Int))) × (List Int))) => [(eT (eT (eO eI))) v.1, (eT eI) v.2]) (xr := (xL (eP2 eI eI))) W.f_find_meetings W.g_find_meetings sc_find_meetings (fun _ _ _ _ _ _ us hl => match us, hl with | [_, _], _ => rfl) (fun _ => rfl) (by decide) (Empty.elim) (fun s => nomatch s) (fun _ _ s => nomatch s) b_find_meetings (fun _ _ s => nomatch s) (fun f cdv A outer s H g E' E0 v B p hr tk => by
    have nd := sc_find_meetings.nd
    have c_do_meet := (k_do_meet (P := P) (w := w) (base := base) W).mono (show 1 ≤ 1 by decide)
    unfold b_find_meetings
    exact (ms_setN 2 (fun _ => nd) (mn_F (mf_as (f := fun _ => ([] : List (Int × Int))) (er' := fun l => l.map (eP2 eI eI)) (mf_lst ma_nil) (fun _ => rfl))) (fun l1 => (ms_for (Cl := fun (s5 : List (Int × Int)) => (⟨[(0, .p ((eT (eT (eO eI))) v.1)), (1, .p ((eT eI) v.2))], [(2, false, vL (eP2 eI eI) s5)], [], p, 5, B⟩ : Ct)) l1 (fun _ => passes_of rfl) (mi_rng1 (fun _ => W.m_range) (me_len sqT (fun _ => W.m_len) (me_v 0 v.1))) (mg_name 3 (fun _ => nd)) (sub_of (SubF.cons rfl (SubF.cons rfl SubF.nil))) (fun a4 s5 => (ms_for (Cl := fun (s12 : List (Int × Int)) => (⟨[(0, .p ((eT (eT (eO eI))) v.1)), (1, .p ((eT eI) v.2)), (3, .p (eI a4))], [(2, false, vL (eP2 eI eI) s12)], [], p, 5, B⟩ : Ct)) s5 (fun _ => passes_of rfl) (mi_rng2 (fun _ => W.m_range) (me_addI (me_v 3 a4) me_int) (me_len sqT (fun _ => W.m_len) (me_v 0 v.1))) (mg_name 4 (fun _ => nd)) (sub_of (SubF.cons rfl (SubF.cons rfl (SubF.cons rfl SubF.nil)))) (fun a11 s12 => (ms_ifl (mt_e (me_callV (fun _ => c_do_meet) (fun _ => hr) (fun _ => tk) (ma_cons (me_ix sqT (me_v 0 v.1) (me_v 3 a4)) (ma_cons (me_ix sqT (me_v 0 v.1) (me_v 4 a11)) (ma_one (me_v 1 v.2)))))) (ms_append 2 (me_enc (eb := (eP2 eI eI)) (me_tup (ma_cons (me_v 3 a4) (ma_one (me_v 4 a11))))) (fun l23 => (ms_nil (s := l23) (sub_of (SubF.cons rfl (SubF.cons rfl (SubF.cons rfl SubF.nil))))))) (ms_nil (s := s12) (sub_of (SubF.cons rfl (SubF.cons rfl (SubF.cons rfl SubF.nil))))))) (fun s12 => (ms_nil (s := s12) (sub_of (SubF.cons rfl (SubF.cons rfl SubF.nil))))))) (fun s5 => (ms_retO 2 id (fun _ => rfl)))))))
end Q92
end
section
set_option maxHeartbeats 4000000
namespace Q92
open PySem PySem.Spec PyProof.Rows L2 SK
/-! ### find_unknown -/
theorem sc_find_unknown : FnScope ["table", "found", "i", "row", "column"] ["table"] (defScope S_find_unknown) := ⟨rfl, rfl, rfl, by decide +kernel, rfl, by decide +kernel, by decide +kernel⟩
def b_find_unknown (v : ((List (List (Option Int))))) : Mk false (Out Empty (List (Int × Int))) := (bk false (bk false (pk false ()) fun _ => (pk false ([] : List (Int × Int)))) fun (l1 : List (Int × Int)) => (bk false (bk false (pk false v) fun x2 => (bk false (pk false x2) fun x3 => (pk false (enumL 0 x3)))) fun l18 => ob false (forM false (fun (a4 : (Int × (List (Option Int)))) (s5 : List (Int × Int)) => (bk false (bk false (bk false (bk false (pk false a4.2) fun x7 => (pk false (x7.length : Int))) fun x8 => (lk false (oRng 0 x8))) fun l15 => cM false (fun (a9 : Int) => (bk false (bk false (pk false a4.2) fun x10 => (bk false (pk false a9) fun x11 => (lk false (oAt x10 x11)))) fun x12 => (pk false (isNo x12)))) (fun (a9 : Int) => (bk false (pk false a4.1) fun x13 => (bk false (pk false a9) fun x14 => (pk false (x13, x14))))) l15) fun x16 => (bk false (lk false (oCat s5 x16)) fun (l6 : List (Int × Int)) => (pk false (Out.nx l6))))) l18 l1) fun (s5 : List (Int × Int)) => (pk false (Out.rt (id s5)))))
def m_find_unknown (v : ((List (List (Option Int))))) : Mk false (List (Int × Int)) := exO false (Empty.elim) (b_find_unknown v)
theorem k_find_unknown {P : Program} {w : World} {K : PySem.W.Frag} {mg : Str → Option Value} {base : Heap} (W : Wd K mg) : Kn P w K mg base 1 "find_unknown" (spM K (fun (v : ((List (List (Option Int))))) => [(eT (eT (eO eI))) v]) m_find_unknown (xL (eP2 eI eI))) :=
  kn_m (er := fun (v : ((List (List (Option Int))))) => [(eT (eT (eO eI))) v]) (xr := (xL (eP2 eI eI))) W.f_find_unknown W.g_find_unknown sc_find_unknown (fun _ _ _ _ _ _ us hl => match us, hl with | [_], _ => rfl) (fun _ => rfl) (by decide) (Empty.elim) (fun s => nomatch s) (fun _ _ s => nomatch s) b_find_unknown (fun _ _ s => nomatch s) (fun f cdv A outer s H g E' E0 v B p hr tk => by
    have nd := sc_find_unknown.nd
    unfold b_find_unknown
    exact (ms_setN 1 (fun _ => nd) (mn_F (mf_as (f := fun _ => ([] : List (Int × Int))) (er' := fun l => l.map (eP2 eI eI)) (mf_lst ma_nil) (fun _ => rfl))) (fun l1 => (ms_for (Cl := fun (s5 : List (Int × Int)) => (⟨[(0, .p ((eT (eT (eO eI))) v))], [(1, false, vL (eP2 eI eI) s5)], [], p, 5, B⟩ : Ct)) l1 (fun _ => passes_of rfl) (mi_enum sqT (fun _ => W.m_enumerate) (me_v 0 v)) (mg_tup2 2 3 (fun _ => nd)) (sub_of (SubF.cons rfl SubF.nil)) (fun a4 s5 => (ms_extend 1 (me_enc (eb := (eL (eP2 eI eI))) (me_F (mf_comp (eb := (eP2 eI eI)) (fun _ => rfl) (fun _ => nd) (fun _ => blk_ok (own := [("column", 4)]) (by kernel_rfl)) (mi_rng1 (fun _ => W.m_range) (me_len sqT (fun _ => W.m_len) (me_v 3 a4.2))) (mg_name 4 (fun _ => nd)) (fun a9 => mts_one (mt_isN (f := isNo) (isO noI) (me_ix sqT (me_v 3 a4.2) (me_v 4 a9)))) (fun a9 => (me_enc (eb := (eP2 eI eI)) (me_tup (ma_cons (me_v 2 a4.1) (ma_one (me_v 4 a9))))))))) (fun l6 => (ms_nil (s := l6) (sub_of (SubF.cons rfl SubF.nil)))))) (fun s5 => (ms_retO 1 id (fun _ => rfl)))))))
end Q92
end
section
set_option maxHeartbeats 4000000
namespace Q92
open PySem PySem.Spec PyProof.Rows L2 SK
/-! ### with_entry -/
theorem sc_with_entry : FnScope ["table", "i", "column", "value", "row"] ["table", "i", "column", "value"] (defScope S_with_entry) := ⟨rfl, rfl, rfl, by decide +kernel, rfl, by decide +kernel, by decide +kernel⟩
def b_with_entry (v : ((List (List (Option Int))) × Int × Int × (Option Int))) : Mk false (Out Empty (List (List (Option Int)))) := (bk false (bk false (pk false v.1) fun x2 => (bk false (pk false v.2.1) fun x3 => (lk false (oAt x2 x3)))) fun (y1 : (List (Option Int))) => (bk false (bk false (bk false (bk false (pk false v.1) fun x6 => (bk false (pk false (none : Option Int)) fun x7 => (bk false (bk false (pk false v.2.1) fun x5 => (pk false (some x5))) fun x8 => (pk false (cutG x6 x7 x8))))) fun x36 => (bk false (bk false (bk false (bk false (bk false (pk false y1) fun x10 => (bk false (pk false (none : Option Int)) fun x11 => (bk false (bk false (pk false v.2.2.1) fun x9 => (pk false (some x9))) fun x12 => (pk false (cutG x10 x11 x12))))) fun x23 => (bk false (bk false (pk false v.2.2.2) fun x21 => (bk false (bk false (bk false (pk false y1) fun x16 => (bk false (bk false (bk false (pk false v.2.2.1) fun x13 => (bk false (pk false (1 : Int)) fun x14 => (pk false (x13 + x14)))) fun x15 => (pk false (some x15))) fun x17 => (bk false (pk false (none : Option Int)) fun x18 => (pk false (cutG x16 x17 x18))))) fun x19 => (bk false (pk false ()) fun x20 => (pk false (x19, x20)))) fun x22 => (pk false (x21, x22)))) fun x24 => (pk false (x23, x24)))) fun x25 => (lk false (gL (x25.1 ++ [x25.2.1] ++ x25.2.2.1)))) fun x34 => (bk false (bk false (bk false (pk false v.1) fun x29 => (bk false (bk false (bk false (pk false v.2.1) fun x26 => (bk false (pk false (1 : Int)) fun x27 => (pk false (x26 + x27)))) fun x28 => (pk false (some x28))) fun x30 => (bk false (pk false (none : Option Int)) fun x31 => (pk false (cutG x29 x30 x31))))) fun x32 => (bk false (pk false ()) fun x33 => (pk false (x32, x33)))) fun x35 => (pk false (x34, x35)))) fun x37 => (pk false (x36, x37)))) fun x38 => (lk false (gL (x38.1 ++ [x38.2.1] ++ x38.2.2.1)))) fun x4 => (pk false (Out.rt (id x4)))))
def m_with_entry (v : ((List (List (Option Int))) × Int × Int × (Option Int))) : Mk false (List (List (Option Int))) := exO false (Empty.elim) (b_with_entry v)
theorem k_with_entry {P : Program} {w : World} {K : PySem.W.Frag} {mg : Str → Option Value} {base : Heap} (W : Wd K mg) : Kn P w K mg base 1 "with_entry" (spM K (fun (v : ((List (List (Option Int))) × Int × Int × (Option Int))) => [(eT (eT (eO eI))) v.1, eI v.2.1, eI v.2.2.1, (eO eI) v.2.2.2]) m_with_entry (xV (eT (eT (eO eI))))) :=
  kn_m (er := fun (v : ((List (List (Option Int))) × Int × Int × (Option Int))) => [(eT (eT (eO eI))) v.1, eI v.2.1, eI v.2.2.1, (eO eI) v.2.2.2]) (xr := (xV (eT (eT (eO eI))))) W.f_with_entry W.g_with_entry sc_with_entry (fun _ _ _ _ _ _ us hl => match us, hl with | [_, _, _, _], _ => rfl) (fun _ => rfl) (by decide) (Empty.elim) (fun s => nomatch s) (fun _ _ s => nomatch s) b_with_entry (fun _ _ s => nomatch s) (fun f cdv A outer s H g E' E0 v B p hr tk => by
    have nd := sc_with_entry.nd
    unfold b_with_entry
    exact (ms_set 4 (fun _ => nd) (me_ix sqT (me_v 0 v.1) (me_v 1 v.2.1)) (fun y1 => (ms_ret id (fun _ => rfl) (me_tupG (ea := (eT (eO eI))) (fun (v : List (List (Option Int)) × (List (Option Int)) × List (List (Option Int)) × Unit) => v.1 ++ [v.2.1] ++ v.2.2.1) (ma_star sqT (me_slT (me_v 0 v.1) mp_none (mp_some (me_v 1 v.2.1))) (ma_cons (me_tupG (ea := (eO eI)) (fun (v : List (Option Int) × (Option Int) × List (Option Int) × Unit) => v.1 ++ [v.2.1] ++ v.2.2.1) (ma_star sqT (me_slT (me_v 4 y1) mp_none (mp_some (me_v 2 v.2.2.1))) (ma_cons (me_v 3 v.2.2.2) (ma_star sqT (me_slT (me_v 4 y1) (mp_some (me_addI (me_v 2 v.2.2.1) me_int)) mp_none) ma_nil))) (fun _ => by simp)) (ma_star sqT (me_slT (me_v 0 v.1) (mp_some (me_addI (me_v 1 v.2.1) me_int)) mp_none) ma_nil))) (fun _ => by simp))))))
end Q92
end
section
set_option maxHeartbeats 4000000
namespace Q92
open PySem PySem.Spec PyProof.Rows L2 SK
/-! ### are_alike -/
theorem sc_are_alike : FnScope ["first", "second", "some", "column"] ["first", "second", "some"] (defScope S_are_alike) := ⟨rfl, rfl, rfl, by decide +kernel, rfl, by decide +kernel, by decide +kernel⟩
def b_are_alike (v : ((List (Option Int)) × (List (Option Int)) × (List Int))) : Mk false (Out Empty Bool) := (bk false (bk false (bk false (bk false (pk false v.2.2) fun x3 => (pk false x3)) fun l15 => mM false (fun (a4 : Int) => (bk false (bk false (bk false (pk false v.1) fun x5 => (bk false (pk false a4) fun x6 => (lk false (oAt x5 x6)))) fun x7 => (pk false (!isNo x7))) fun x14 => if x14 = true then (bk false (bk false (pk false v.1) fun x8 => (bk false (pk false a4) fun x9 => (lk false (oAt x8 x9)))) fun x12 => (bk false (bk false (pk false v.2.1) fun x10 => (bk false (pk false a4) fun x11 => (lk false (oAt x10 x11)))) fun x13 => (pk false (false ^^ decide (x12 = x13))))) else (pk false false))) l15) fun x2 => (pk false (x2.all id))) fun x1 => (pk false (Out.rt (id x1))))
def m_are_alike (v : ((List (Option Int)) × (List (Option Int)) × (List Int))) : Mk false Bool := exO false (Empty.elim) (b_are_alike v)
theorem k_are_alike {P : Program} {w : World} {K : PySem.W.Frag} {mg : Str → Option Value} {base : Heap} (W : Wd K mg) : Kn P w K mg base 1 "are_alike" (spM K (fun (v : ((List (Option Int)) × (List (Option Int)) × (List Int))) => [(eT (eO eI)) v.1, (eT (eO eI)) v.2.1, (eT eI) v.2.2]) m_are_alike (xV eB)) :=
  kn_m (er := fun (v : ((List (Option Int)) × (List (Option Int)) × (List Int))) => [(eT (eO eI)) v.1, (eT (eO eI)) v.2.1, (eT eI) v.2.2]) (xr := (xV eB)) W.f_are_alike W.g_are_alike sc_are_alike (fun _ _ _ _ _ _ us hl => match us, hl with | [_, _, _], _ => rfl) (fun _ => rfl) (by decide) (Empty.elim) (fun s => nomatch s) (fun _ _ s => nomatch s) b_are_alike (fun _ _ s => nomatch s) (fun f cdv A outer s H g E' E0 v B p hr tk => by
    have nd := sc_are_alike.nd
    unfold b_are_alike
    exact (ms_ret id (fun _ => rfl) (me_all (fun _ => W.m_all) (me_enc (eb := (eL eB)) (me_F (mf_comp1 (eb := eB) (fun _ => rfl) (fun _ => nd) (fun _ => blk_ok (own := [("column", 3)]) (by kernel_rfl)) (mi_seq sqT (me_v 2 v.2.2)) (mg_name 3 (fun _ => nd)) (fun a4 => (me_and (me_isnotN (f := isNo) (isO noI) (me_ix sqT (me_v 0 v.1) (me_v 3 a4))) (me_bo1 (me_cmp (fun _ => opEq false hr.r.units) (re_eqT false (qO qI nI) (by decide) (me_ix sqT (me_v 0 v.1) (me_v 3 a4)) (me_ix sqT (me_v 1 v.2.1) (me_v 3 a4)))))))))))))
end Q92
end
section
set_option maxHeartbeats 4000000
namespace Q92
open PySem PySem.Spec PyProof.Rows L2 SK
/-! ### find_twins -/
theorem sc_find_twins : FnScope ["table", "demand", "k", "some", "j", "i"] ["table", "demand"] (defScope S_find_twins) := ⟨rfl, rfl, rfl, by decide +kernel, rfl, by decide +kernel, by decide +kernel⟩
def b_find_twins (v : ((List (List (Option Int))) × (List (List Int)))) : Mk false (Out Empty (Option (Int × Int × Int))) := (bk false (bk false (pk false v.2) fun x1 => (bk false (pk false x1) fun x2 => (pk false (enumL 0 x2)))) fun l31 => ob false (forM false (fun (a3 : (Int × (List Int))) (s4 : Unit) => (bk false (bk false (bk false (pk false v.1) fun x5 => (pk false (x5.length : Int))) fun x6 => (lk false (oRng 0 x6))) fun l29 => ob false (forM false (fun (a7 : Int) (s8 : Unit) => (bk false (bk false (pk false a7) fun x9 => (lk false (oRng 0 x9))) fun l28 => ob false (forM false (fun (a10 : Int) (s11 : Unit) => (bk false (bk false (bk false (bk false (pk false v.1) fun x12 => (bk false (pk false a10) fun x13 => (lk false (oAt x12 x13)))) fun x18 => (bk false (bk false (bk false (pk false v.1) fun x14 => (bk false (pk false a7) fun x15 => (lk false (oAt x14 x15)))) fun x16 => (bk false (pk false a3.2) fun x17 => (pk false (x16, x17)))) fun x19 => (pk false (x18, x19)))) fun v20 => (lk false (m_are_alike v20))) fun x21 => if x21 = true then (bk false (bk false (bk false (pk false a10) fun x25 => (bk false (bk false (pk false a7) fun x23 => (bk false (pk false a3.1) fun x24 => (pk false (x23, x24)))) fun x26 => (pk false (x25, x26)))) fun x27 => (pk false (some x27))) fun x22 => (pk false (Out.rt (id x22)))) else (pk false (Out.nx ())))) l28 ()) fun (s11 : Unit) => (pk false (Out.nx ())))) l29 ()) fun (s8 : Unit) => (pk false (Out.nx ())))) l31 ()) fun (s4 : Unit) => (bk false (bk false (pk false ()) fun _ => (pk false (none : (Option (Int × Int × Int))))) fun x30 => (pk false (Out.rt (id x30)))))
def m_find_twins (v : ((List (List (Option Int))) × (List (List Int)))) : Mk false (Option (Int × Int × Int)) := exO false (Empty.elim) (b_find_twins v)
theorem k_find_twins {P : Program} {w : World} {K : PySem.W.Frag} {mg : Str → Option Value} {base : Heap} (W : Wd K mg) : Kn P w K mg base 2 "find_twins" (spM K (fun (v : ((List (List (Option Int))) × (List (List Int)))) => [(eT (eT (eO eI))) v.1, (eT (eT eI)) v.2]) m_find_twins (xV (eO (eP3 eI eI eI)))) :=
  kn_m (er := fun (v : ((List (List (Option Int))) × (List (List Int)))) => [(eT (eT (eO eI))) v.1, (eT (eT eI)) v.2]) (xr := (xV (eO (eP3 eI eI eI)))) W.f_find_twins W.g_find_twins sc_find_twins (fun _ _ _ _ _ _ us hl => match us, hl with | [_, _], _ => rfl) (fun _ => rfl) (by decide) (Empty.elim) (fun s => nomatch s) (fun _ _ s => nomatch s) b_find_twins (fun _ _ s => nomatch s) (fun f cdv A outer s H g E' E0 v B p hr tk => by
    have nd := sc_find_twins.nd
    have c_are_alike := (k_are_alike (P := P) (w := w) (base := base) W).mono (show 1 ≤ 1 by decide)
    unfold b_find_twins
    exact (ms_for (Cl := fun (s4 : Unit) => (⟨[(0, .p ((eT (eT (eO eI))) v.1)), (1, .p ((eT (eT eI)) v.2))], [], [], p, 6, B⟩ : Ct)) () (fun _ => passes_of rfl) (mi_enum sqT (fun _ => W.m_enumerate) (me_v 1 v.2)) (mg_tup2 2 3 (fun _ => nd)) (sub_of (SubF.cons rfl (SubF.cons rfl SubF.nil))) (fun a3 s4 => (ms_for (Cl := fun (s8 : Unit) => (⟨[(0, .p ((eT (eT (eO eI))) v.1)), (1, .p ((eT (eT eI)) v.2)), (2, .p (eI a3.1)), (3, .p ((eT eI) a3.2))], [], [], p, 6, B⟩ : Ct)) () (fun _ => passes_of rfl) (mi_rng1 (fun _ => W.m_range) (me_len sqT (fun _ => W.m_len) (me_v 0 v.1))) (mg_name 4 (fun _ => nd)) (sub_of (SubF.cons rfl (SubF.cons rfl (SubF.cons rfl (SubF.cons rfl SubF.nil))))) (fun a7 s8 => (ms_for (Cl := fun (s11 : Unit) => (⟨[(0, .p ((eT (eT (eO eI))) v.1)), (1, .p ((eT (eT eI)) v.2)), (2, .p (eI a3.1)), (3, .p ((eT eI) a3.2)), (4, .p (eI a7))], [], [], p, 6, B⟩ : Ct)) () (fun _ => passes_of rfl) (mi_rng1 (fun _ => W.m_range) (me_v 4 a7)) (mg_name 5 (fun _ => nd)) (sub_of (SubF.cons rfl (SubF.cons rfl (SubF.cons rfl (SubF.cons rfl (SubF.cons rfl SubF.nil)))))) (fun a10 s11 => (ms_ifl (mt_e (me_callV (fun _ => c_are_alike) (fun _ => hr) (fun _ => tk) (ma_cons (me_ix sqT (me_v 0 v.1) (me_v 5 a10)) (ma_cons (me_ix sqT (me_v 0 v.1) (me_v 4 a7)) (ma_one (me_v 3 a3.2)))))) (ms_ret id (fun _ => rfl) (me_some (me_enc (eb := (eP3 eI eI eI)) (me_tup (ma_cons (me_v 5 a10) (ma_cons (me_v 4 a7) (ma_one (me_v 2 a3.1)))))))) (ms_nil (s := ()) (sub_of (SubF.cons rfl (SubF.cons rfl (SubF.cons rfl (SubF.cons rfl (SubF.cons rfl SubF.nil))))))))) (fun s11 => (ms_nil (s := ()) (sub_of (SubF.cons rfl (SubF.cons rfl (SubF.cons rfl (SubF.cons rfl SubF.nil))))))))) (fun s8 => (ms_nil (s := ()) (sub_of (SubF.cons rfl (SubF.cons rfl SubF.nil))))))) (fun s4 => (ms_ret id (fun _ => rfl) (me_none (ea := (eP3 eI eI eI)) me_non)))))
end Q92
end
section
set_option maxHeartbeats 4000000
namespace Q92
open PySem PySem.Spec PyProof.Rows L2 SK
/-! ### find_new_entry -/
theorem sc_find_new_entry : FnScope ["table", "column", "row"] ["table", "column"] (defScope S_find_new_entry) := ⟨rfl, rfl, rfl, by decide +kernel, rfl, by decide +kernel, by decide +kernel⟩
def b_find_new_entry (v : ((List (List (Option Int))) × Int)) : Mk false (Out Empty Int) := (bk false (bk false (bk false (bk false (pk false ([(-1 : Int)] : (List Int))) fun x12 => (bk false (bk false (bk false (pk false v.1) fun x3 => (pk false x3)) fun l11 => cM false (fun (a4 : (List (Option Int))) => (bk false (bk false (pk false a4) fun x5 => (bk false (pk false v.2) fun x6 => (lk false (oAt x5 x6)))) fun x7 => (pk false (!isNo x7)))) (fun (a4 : (List (Option Int))) => (bk false (bk false (pk false a4) fun x8 => (bk false (pk false v.2) fun x9 => (lk false (oAt x8 x9)))) fun x10 => (lk false x10))) l11) fun x13 => (lk false (oCat x12 x13)))) fun x2 => (lk false (oMax x2))) fun x14 => (bk false (pk false (1 : Int)) fun x15 => (pk false (x14 + x15)))) fun x1 => (pk false (Out.rt (id x1))))
def m_find_new_entry (v : ((List (List (Option Int))) × Int)) : Mk false Int := exO false (Empty.elim) (b_find_new_entry v)
theorem k_find_new_entry {P : Program} {w : World} {K : PySem.W.Frag} {mg : Str → Option Value} {base : Heap} (W : Wd K mg) : Kn P w K mg base 1 "find_new_entry" (spM K (fun (v : ((List (List (Option Int))) × Int)) => [(eT (eT (eO eI))) v.1, eI v.2]) m_find_new_entry (xV eI)) :=
  kn_m (er := fun (v : ((List (List (Option Int))) × Int)) => [(eT (eT (eO eI))) v.1, eI v.2]) (xr := (xV eI)) W.f_find_new_entry W.g_find_new_entry sc_find_new_entry (fun _ _ _ _ _ _ us hl => match us, hl with | [_, _], _ => rfl) (fun _ => rfl) (by decide) (Empty.elim) (fun s => nomatch s) (fun _ _ s => nomatch s) b_find_new_entry (fun _ _ s => nomatch s) (fun f cdv A outer s H g E' E0 v B p hr tk => by
    have nd := sc_find_new_entry.nd
    unfold b_find_new_entry
    exact (ms_ret id (fun _ => rfl) (me_addI (me_max (fun _ => W.m_max) (me_enc (eb := (eL eI)) (me_N (mn_cat (me_litT (ea := (eL eI)) (v := [(-1 : Int)]) (ml_lst (mls_cons (ml_neg ml_int) mls_nil))) (me_enc (eb := (eL eI)) (me_F (mf_comp (eb := eI) (fun _ => rfl) (fun _ => nd) (fun _ => blk_ok (own := [("row", 2)]) (by kernel_rfl)) (mi_seq sqT (me_v 0 v.1)) (mg_name 2 (fun _ => nd)) (fun a4 => mts_one (mt_isnotN (f := isNo) (isO noI) (me_ix sqT (me_v 2 a4) (me_v 1 v.2)))) (fun a4 => (me_get (me_ix sqT (me_v 2 a4) (me_v 1 v.2))))))))))) me_int)))
end Q92
end
section
set_option maxHeartbeats 4000000
namespace Q92
open PySem PySem.Spec PyProof.Rows L2 SK
/-! ### explore -/
theorem sc_explore : FnScope ["columns", "table", "demand", "twins", "unknown", "i", "column", "value", "tree", "world", "trees"] ["columns", "table", "demand"] (defScope S_explore) := ⟨rfl, rfl, rfl, by decide +kernel, rfl, by decide +kernel, by decide +kernel⟩
def b_explore (rec_explore : ((List (Option (List Int))) × (List (List (Option Int))) × (List (List Int))) → Mk false (PyData × (Option (List (List (Option Int)))))) (v : ((List (Option (List Int))) × (List (List (Option Int))) × (List (List Int)))) : Mk false (Out Empty (PyData × (Option (List (List (Option Int)))))) := (bk false (bk false (bk false (pk false v.2.1) fun x2 => (bk false (pk false v.2.2) fun x3 => (pk false (x2, x3)))) fun v4 => (lk false (m_find_twins v4))) fun (y1 : (Option (Int × Int × Int))) => (bk false (bk false (pk false y1) fun x5 => (pk false (!isNo x5))) fun x6 => ob false (if x6 = true then (bk false (bk false (bk false (bk false (bk false (pk false ("twins" : Str)) fun x12 => (bk false (bk false (bk false (pk false y1) fun x9 => (lk false x9)) fun x10 => (bk false (pk false ()) fun x11 => (pk false (x10, x11)))) fun x13 => (pk false (x12, x13)))) fun x14 => (pk false (x14.1, x14.2.1.1, x14.2.1.2.1, x14.2.1.2.2))) fun x15 => (pk false ((eP4 eS eI eI eI) x15))) fun x16 => (bk false (bk false (pk false ()) fun _ => (pk false (none : (Option (List (List (Option Int))))))) fun x17 => (pk false (x16, x17)))) fun x8 => (pk false (Out.rt (id x8)))) else (pk false (Out.nx ()))) fun (s7 : Unit) => (bk false (bk false (pk false v.2.1) fun v19 => (lk false (m_find_unknown v19))) fun (y18 : (List (Int × Int))) => (bk false (bk false (pk false y18) fun x20 => (bk false (bk false (pk false ()) fun _ => (pk false ([] : List (Int × Int)))) fun x21 => (pk false (false ^^ decide (x20 = x21))))) fun x22 => ob false (if x22 = true then (bk false (bk false (pk false PyData.none) fun x26 => (bk false (bk false (pk false v.2.1) fun x25 => (pk false (some x25))) fun x27 => (pk false (x26, x27)))) fun x24 => (pk false (Out.rt (id x24)))) else (pk false (Out.nx ()))) fun (s23 : Unit) => (bk false (bk false (pk false y18) fun x29 => (bk false (pk false (0 : Int)) fun x30 => (lk false (oAt x29 x30)))) fun (y28 : (Int × Int)) => (bk false (bk false (bk false (pk false v.1) fun x31 => (bk false (pk false y28.2) fun x32 => (lk false (oAt x31 x32)))) fun x33 => (pk false (isNo x33))) fun x34 => ob false (if x34 = true then (bk false (bk false (bk false (pk false v.2.1) fun x37 => (bk false (pk false y28.2) fun x38 => (pk false (x37, x38)))) fun v39 => (lk false (m_find_new_entry v39))) fun (y36 : Int) => (bk false (bk false (bk false (pk false v.1) fun x51 => (bk false (bk false (bk false (bk false (pk false v.2.1) fun x46 => (bk false (bk false (pk false y28.1) fun x44 => (bk false (bk false (pk false y28.2) fun x42 => (bk false (bk false (pk false y36) fun x41 => (pk false (some x41))) fun x43 => (pk false (x42, x43)))) fun x45 => (pk false (x44, x45)))) fun x47 => (pk false (x46, x47)))) fun v48 => (lk false (m_with_entry v48))) fun x49 => (bk false (pk false v.2.2) fun x50 => (pk false (x49, x50)))) fun x52 => (pk false (x51, x52)))) fun v53 => (lk false (rec_explore v53))) fun (y40 : (PyData × (Option (List (List (Option Int)))))) => (bk false (bk false (bk false (bk false (pk false y40.1) fun x55 => (pk false (noneP x55))) fun x56 => if x56 = true then (pk false PyData.none) else (pk false (PyData.tuple [(PyData.str "new"), (eI y28.1), (eI y28.2), (eA y40.1)]))) fun x57 => (bk false (pk false y40.2) fun x58 => (pk false (x57, x58)))) fun x54 => (pk false (Out.rt (id x54)))))) else (pk false (Out.nx ()))) fun (s35 : Unit) => (bk false (bk false (pk false ()) fun _ => (pk false ([] : List PyData))) fun (l59 : List PyData) => (bk false (bk false (bk false (bk false (pk false v.1) fun x60 => (bk false (pk false y28.2) fun x61 => (lk false (oAt x60 x61)))) fun x62 => (lk false x62)) fun x63 => (pk false x63)) fun l103 => ob false (forM false (fun (a64 : Int) (s65 : List PyData) => (bk false (bk false (bk false (pk false v.1) fun x77 => (bk false (bk false (bk false (bk false (pk false v.2.1) fun x72 => (bk false (bk false (pk false y28.1) fun x70 => (bk false (bk false (pk false y28.2) fun x68 => (bk false (bk false (pk false a64) fun x67 => (pk false (some x67))) fun x69 => (pk false (x68, x69)))) fun x71 => (pk false (x70, x71)))) fun x73 => (pk false (x72, x73)))) fun v74 => (lk false (m_with_entry v74))) fun x75 => (bk false (pk false v.2.2) fun x76 => (pk false (x75, x76)))) fun x78 => (pk false (x77, x78)))) fun v79 => (lk false (rec_explore v79))) fun (y66 : (PyData × (Option (List (List (Option Int)))))) => (bk false (bk false (pk false y66.1) fun x80 => (pk false (noneP x80))) fun x81 => ob false (if x81 = true then (bk false (bk false (pk false PyData.none) fun x84 => (bk false (pk false y66.2) fun x85 => (pk false (x84, x85)))) fun x83 => (pk false (Out.rt (id x83)))) else (pk false (Out.nx ()))) fun (s82 : Unit) => (bk false (pk false y66.1) fun x87 => (bk false (lk false (oApp s65 x87)) fun (l86 : List PyData) => (pk false (Out.nx l86))))))) l103 l59) fun (s65 : List PyData) => (bk false (bk false (bk false (bk false (bk false (pk false (PyData.str "split")) fun x97 => (bk false (bk false (bk false (pk false y28.1) fun x89 => (pk false (eI x89))) fun x95 => (bk false (bk false (bk false (pk false y28.2) fun x90 => (pk false (eI x90))) fun x93 => (bk false (bk false (bk false (pk false s65) fun x91 => (pk false x91)) fun x92 => (pk false ((eT eA) x92))) fun x94 => (pk false (x93, x94)))) fun x96 => (pk false (x95, x96)))) fun x98 => (pk false (x97, x98)))) fun x99 => (pk false ([x99.1, x99.2.1, x99.2.2.1, x99.2.2.2]))) fun x100 => (pk false ((eT eA) x100))) fun x101 => (bk false (bk false (pk false ()) fun _ => (pk false (none : (Option (List (List (Option Int))))))) fun x102 => (pk false (x101, x102)))) fun x88 => (pk false (Out.rt (id x88))))))))))))
def m_explore : Nat → ((List (Option (List Int))) × (List (List (Option Int))) × (List (List Int))) → Mk false (PyData × (Option (List (List (Option Int)))))
  | 0, _ => lk false none
  | n + 1, v => exO false (Empty.elim) (b_explore (m_explore n) v)
theorem k_explore {P : Program} {w : World} {K : PySem.W.Frag} {mg : Str → Option Value} {base : Heap} (W : Wd K mg) : ∀ n, Kn P w K mg base (2 + n + 1) "explore" (spM K (fun (v : ((List (Option (List Int))) × (List (List (Option Int))) × (List (List Int)))) => [(eT (eO (eT eI))) v.1, (eT (eT (eO eI))) v.2.1, (eT (eT eI)) v.2.2]) (m_explore n) (xV (eP2 eA (eO (eT (eT (eO eI)))))))
  | 0 => kn_m (er := fun (v : ((List (Option (List Int))) × (List (List (Option Int))) × (List (List Int)))) => [(eT (eO (eT eI))) v.1, (eT (eT (eO eI))) v.2.1, (eT (eT eI)) v.2.2]) (xr := (xV (eP2 eA (eO (eT (eT (eO eI))))))) W.f_explore W.g_explore sc_explore (fun _ _ _ _ _ _ us hl => match us, hl with | [_, _, _], _ => rfl) (fun _ => rfl) (by decide) (Empty.elim) (fun s => nomatch s) (fun _ _ s => nomatch s) (fun _ => lk false none) (fun _ _ s => nomatch s) (fun f cdv A outer s H g E' E0 v B p hr tk => ms_none)
  | n + 1 => by
    have c_explore := (k_explore (P := P) (w := w) (base := base) W n).mono (show 2 + n + 1 ≤ 2 + n + 1 from Nat.le_refl _)
    exact kn_m (er := fun (v : ((List (Option (List Int))) × (List (List (Option Int))) × (List (List Int)))) => [(eT (eO (eT eI))) v.1, (eT (eT (eO eI))) v.2.1, (eT (eT eI)) v.2.2]) (xr := (xV (eP2 eA (eO (eT (eT (eO eI))))))) W.f_explore W.g_explore sc_explore (fun _ _ _ _ _ _ us hl => match us, hl with | [_, _, _], _ => rfl) (fun _ => rfl) (by decide) (Empty.elim) (fun s => nomatch s) (fun _ _ s => nomatch s) (b_explore (m_explore n)) (fun _ _ s => nomatch s) (fun f cdv A outer s H g E' E0 v B p hr tk => by
      have nd := sc_explore.nd
      have c_find_new_entry := (k_find_new_entry (P := P) (w := w) (base := base) W).mono (show 1 ≤ 2 + n + 1 by omega)
      have c_find_twins := (k_find_twins (P := P) (w := w) (base := base) W).mono (show 2 ≤ 2 + n + 1 by omega)
      have c_find_unknown := (k_find_unknown (P := P) (w := w) (base := base) W).mono (show 1 ≤ 2 + n + 1 by omega)
      have c_with_entry := (k_with_entry (P := P) (w := w) (base := base) W).mono (show 1 ≤ 2 + n + 1 by omega)
      unfold b_explore
      exact (ms_set 3 (fun _ => nd) (me_callV (fun _ => c_find_twins) (fun _ => hr) (fun _ => tk) (ma_cons (me_v 1 v.2.1) (ma_one (me_v 2 v.2.2)))) (fun y1 => (ms_if (Cm := fun (s7 : Unit) => (⟨[(0, .p ((eT (eO (eT eI))) v.1)), (1, .p ((eT (eT (eO eI))) v.2.1)), (2, .p ((eT (eT eI)) v.2.2)), (3, .p ((eO (eP3 eI eI eI)) y1))], [], [], p, 11, B⟩ : Ct)) (mt_isnotN (f := isNo) (isO noP3) (me_v 3 y1)) (ms_ret id (fun _ => rfl) (me_enc (eb := (eP2 eA (eO (eT (eT (eO eI)))))) (me_tup (ma_cons (me_any (me_as (f := fun v => (v.1, v.2.1.1, v.2.1.2.1, v.2.1.2.2)) (eb := (eP4 eS eI eI eI)) (me_tup (ma_cons me_str (ma_star sqP3 (me_get (me_v 3 y1)) ma_nil))) (fun _ => rfl))) (ma_one (me_none (ea := (eT (eT (eO eI)))) me_non)))))) (ms_nil (s := ()) (sub_of (SubF.cons rfl (SubF.cons rfl (SubF.cons rfl (SubF.cons rfl SubF.nil)))))) (fun s7 => (ms_set 4 (fun _ => nd) (me_enc (eb := (eL (eP2 eI eI))) (me_N (mn_callV (fun _ => c_find_unknown) (fun _ => hr) (fun _ => tk) (ma_one (me_v 1 v.2.1))))) (fun y18 => (ms_if (Cm := fun (s23 : Unit) => (⟨[(0, .p ((eT (eO (eT eI))) v.1)), (1, .p ((eT (eT (eO eI))) v.2.1)), (2, .p ((eT (eT eI)) v.2.2)), (3, .p ((eO (eP3 eI eI eI)) y1)), (4, .p ((eL (eP2 eI eI)) y18))], [], [], p, 11, B⟩ : Ct)) (mt_cmp (fun _ => opEq false hr.r.units) (re_eqT false (qL (qP2 qI qI)) (by decide) (me_v 4 y18) (me_enc (eb := (eL (eP2 eI eI))) (me_F (mf_as (f := fun _ => ([] : List (Int × Int))) (er' := fun l => l.map (eP2 eI eI)) (mf_lst ma_nil) (fun _ => rfl)))))) (ms_ret id (fun _ => rfl) (me_enc (eb := (eP2 eA (eO (eT (eT (eO eI)))))) (me_tup (ma_cons (me_lit ml_non) (ma_one (me_some (me_v 1 v.2.1))))))) (ms_nil (s := ()) (sub_of (SubF.cons rfl (SubF.cons rfl (SubF.cons rfl (SubF.cons rfl (SubF.cons rfl SubF.nil))))))) (fun s23 => (ms_asg (me_ix sqL (me_v 4 y18) me_int) (mg_tup2 5 6 (fun _ => nd)) (fun y28 => (ms_if (Cm := fun (s35 : Unit) => (⟨[(0, .p ((eT (eO (eT eI))) v.1)), (1, .p ((eT (eT (eO eI))) v.2.1)), (2, .p ((eT (eT eI)) v.2.2)), (3, .p ((eO (eP3 eI eI eI)) y1)), (4, .p ((eL (eP2 eI eI)) y18)), (5, .p (eI y28.1)), (6, .p (eI y28.2))], [], [], p, 11, B⟩ : Ct)) (mt_isN (f := isNo) (isO noT) (me_ix sqT (me_v 0 v.1) (me_v 6 y28.2))) (ms_set 7 (fun _ => nd) (me_callV (fun _ => c_find_new_entry) (fun _ => hr) (fun _ => tk) (ma_cons (me_v 1 v.2.1) (ma_one (me_v 6 y28.2)))) (fun y36 => (ms_asg (me_callV (fun _ => c_explore) (fun _ => hr) (fun _ => tk) (ma_cons (me_v 0 v.1) (ma_cons (me_callV (fun _ => c_with_entry) (fun _ => hr) (fun _ => tk) (ma_cons (me_v 1 v.2.1) (ma_cons (me_v 5 y28.1) (ma_cons (me_v 6 y28.2) (ma_one (me_some (me_v 7 y36))))))) (ma_one (me_v 2 v.2.2))))) (mg_tup2 8 9 (fun _ => nd)) (fun y40 => (ms_ret id (fun _ => rfl) (me_enc (eb := (eP2 eA (eO (eT (eT (eO eI)))))) (me_tup (ma_cons (me_if (mt_isN (f := noneP) isA (me_v 8 y40.1)) (me_lit ml_non) (me_lit (ml_tup (mls_cons ml_str (mls_cons (ml_of (me_v 5 y28.1)) (mls_cons (ml_of (me_v 6 y28.2)) (mls_cons (ml_of (me_v 8 y40.1)) mls_nil))))))) (ma_one (me_v 9 y40.2)))))))))) (ms_nil (s := ()) (sub_of (SubF.cons rfl (SubF.cons rfl (SubF.cons rfl (SubF.cons rfl (SubF.cons rfl (SubF.cons rfl (SubF.cons rfl SubF.nil))))))))) (fun s35 => (ms_setN 10 (fun _ => nd) (mn_F (mf_as (f := fun _ => ([] : List PyData)) (er' := fun l => l.map eA) (mf_lst ma_nil) (fun _ => rfl))) (fun l59 => (ms_for (Cl := fun (s65 : List PyData) => (⟨[(0, .p ((eT (eO (eT eI))) v.1)), (1, .p ((eT (eT (eO eI))) v.2.1)), (2, .p ((eT (eT eI)) v.2.2)), (3, .p ((eO (eP3 eI eI eI)) y1)), (4, .p ((eL (eP2 eI eI)) y18)), (5, .p (eI y28.1)), (6, .p (eI y28.2))], [(10, false, vL eA s65)], [], p, 11, B⟩ : Ct)) l59 (fun _ => passes_of rfl) (mi_seq sqT (me_get (me_ix sqT (me_v 0 v.1) (me_v 6 y28.2)))) (mg_name 7 (fun _ => nd)) (sub_of (SubF.cons rfl (SubF.cons rfl (SubF.cons rfl (SubF.cons rfl (SubF.cons rfl (SubF.cons rfl (SubF.cons rfl SubF.nil)))))))) (fun a64 s65 => (ms_asg (me_callV (fun _ => c_explore) (fun _ => hr) (fun _ => tk) (ma_cons (me_v 0 v.1) (ma_cons (me_callV (fun _ => c_with_entry) (fun _ => hr) (fun _ => tk) (ma_cons (me_v 1 v.2.1) (ma_cons (me_v 5 y28.1) (ma_cons (me_v 6 y28.2) (ma_one (me_some (me_v 7 a64))))))) (ma_one (me_v 2 v.2.2))))) (mg_tup2 8 9 (fun _ => nd)) (fun y66 => (ms_if (Cm := fun (s82 : Unit) => (⟨[(0, .p ((eT (eO (eT eI))) v.1)), (1, .p ((eT (eT (eO eI))) v.2.1)), (2, .p ((eT (eT eI)) v.2.2)), (3, .p ((eO (eP3 eI eI eI)) y1)), (4, .p ((eL (eP2 eI eI)) y18)), (5, .p (eI y28.1)), (6, .p (eI y28.2)), (7, .p (eI a64)), (8, .p (eA y66.1)), (9, .p ((eO (eT (eT (eO eI)))) y66.2))], [(10, false, vL eA s65)], [], p, 11, B⟩ : Ct)) (mt_isN (f := noneP) isA (me_v 8 y66.1)) (ms_frz 10 (ms_ret id (fun _ => rfl) (me_enc (eb := (eP2 eA (eO (eT (eT (eO eI)))))) (me_tup (ma_cons (me_lit ml_non) (ma_one (me_v 9 y66.2))))))) (ms_nil (s := ()) (sub_of (SubF.cons rfl (SubF.cons rfl (SubF.cons rfl (SubF.cons rfl (SubF.cons rfl (SubF.cons rfl (SubF.cons rfl (SubF.cons rfl (SubF.cons rfl (SubF.cons rfl SubF.nil)))))))))))) (fun s82 => (ms_append 10 (me_v 8 y66.1) (fun l86 => (ms_nil (s := l86) (sub_of (SubF.cons rfl (SubF.cons rfl (SubF.cons rfl (SubF.cons rfl (SubF.cons rfl (SubF.cons rfl (SubF.cons rfl SubF.nil)))))))))))))))) (fun s65 => (ms_frz 10 (ms_ret id (fun _ => rfl) (me_enc (eb := (eP2 eA (eO (eT (eT (eO eI)))))) (me_tup (ma_cons (me_any (me_as (f := fun v => [v.1, v.2.1, v.2.2.1, v.2.2.2]) (eb := (eT eA)) (me_tup (ma_cons (me_lit ml_str) (ma_cons (me_any (me_v 5 y28.1)) (ma_cons (me_any (me_v 6 y28.2)) (ma_one (me_any (me_tuple sqL (fun _ => W.m_tuple) (me_v 10 s65)))))))) (fun _ => rfl))) (ma_one (me_none (ea := (eT (eT (eO eI)))) me_non))))))))))))))))))))))))
end Q92
end
section
set_option maxHeartbeats 4000000
namespace Q92
open PySem PySem.Spec PyProof.Rows L2 SK
/-! ### find_common -/
theorem sc_find_common : FnScope ["columns", "table", "demand"] ["columns", "table", "demand"] (defScope S_find_common) := ⟨rfl, rfl, rfl, by decide +kernel, rfl, by decide +kernel, by decide +kernel⟩
def b_find_common (v : ((List (Option (List Int))) × (List (List (Option Int))) × (List (List Int)))) : Mk false (Out Empty (Option (List (List (Option Int))))) := (bk false (bk false (bk false (bk false (pk false v.1) fun x4 => (bk false (bk false (pk false v.2.1) fun x2 => (bk false (pk false v.2.2) fun x3 => (pk false (x2, x3)))) fun x5 => (pk false (x4, x5)))) fun v6 => (lk false ((m_explore 10) v6))) fun x7 => (pk false x7.2)) fun x1 => (pk false (Out.rt (id x1))))
def m_find_common (v : ((List (Option (List Int))) × (List (List (Option Int))) × (List (List Int)))) : Mk false (Option (List (List (Option Int)))) := exO false (Empty.elim) (b_find_common v)
theorem k_find_common {P : Program} {w : World} {K : PySem.W.Frag} {mg : Str → Option Value} {base : Heap} (W : Wd K mg) : Kn P w K mg base 14 "find_common" (spM K (fun (v : ((List (Option (List Int))) × (List (List (Option Int))) × (List (List Int)))) => [(eT (eO (eT eI))) v.1, (eT (eT (eO eI))) v.2.1, (eT (eT eI)) v.2.2]) m_find_common (xV (eO (eT (eT (eO eI)))))) :=
  kn_m (er := fun (v : ((List (Option (List Int))) × (List (List (Option Int))) × (List (List Int)))) => [(eT (eO (eT eI))) v.1, (eT (eT (eO eI))) v.2.1, (eT (eT eI)) v.2.2]) (xr := (xV (eO (eT (eT (eO eI)))))) W.f_find_common W.g_find_common sc_find_common (fun _ _ _ _ _ _ us hl => match us, hl with | [_, _, _], _ => rfl) (fun _ => rfl) (by decide) (Empty.elim) (fun s => nomatch s) (fun _ _ s => nomatch s) b_find_common (fun _ _ s => nomatch s) (fun f cdv A outer s H g E' E0 v B p hr tk => by
    have nd := sc_find_common.nd
    have c_explore := (k_explore (P := P) (w := w) (base := base) W 10).mono (show 3 + 10 ≤ 13 by decide)
    unfold b_find_common
    exact (ms_ret id (fun _ => rfl) (me_ixK 1 (fun v => v.2) sqP2 (me_callV (fun _ => c_explore) (fun _ => hr) (fun _ => tk) (ma_cons (me_v 0 v.1) (ma_cons (me_v 1 v.2.1) (ma_one (me_v 2 v.2.2))))))))
end Q92
end
section
set_option maxHeartbeats 4000000
namespace Q92
open PySem PySem.Spec PyProof.Rows L2 SK
/-! ### is_unknown -/
theorem sc_is_unknown : FnScope ["columns", "table", "i", "column"] ["columns", "table", "i", "column"] (defScope S_is_unknown) := ⟨rfl, rfl, rfl, by decide +kernel, rfl, by decide +kernel, by decide +kernel⟩
def b_is_unknown (v : ((List (Option (List Int))) × (List (List (Option Int))) × PyData × PyData)) : Mk false (Out Empty Bool) := (bk false (bk false (bk false (bk false (bk false (pk false v.2.2.1) fun x6 => (bk false (bk false (pk false (0 : Int)) fun x4 => (bk false (bk false (bk false (pk false v.2.1) fun x1 => (pk false (x1.length : Int))) fun x2 => (bk false (pk false (1 : Int)) fun x3 => (pk false (x2 - x3)))) fun x5 => (pk false (x4, x5)))) fun x7 => (pk false (x6, x7)))) fun v8 => (lk false (m_is_between v8))) fun x9 => (pk false (!x9))) fun x19 => if x19 = true then (pk false true) else (bk false (bk false (bk false (pk false v.2.2.2) fun x15 => (bk false (bk false (pk false (0 : Int)) fun x13 => (bk false (bk false (bk false (pk false v.1) fun x10 => (pk false (x10.length : Int))) fun x11 => (bk false (pk false (1 : Int)) fun x12 => (pk false (x11 - x12)))) fun x14 => (pk false (x13, x14)))) fun x16 => (pk false (x15, x16)))) fun v17 => (lk false (m_is_between v17))) fun x18 => (pk false (!x18)))) fun x20 => ob false (if x20 = true then (bk false (pk false false) fun x22 => (pk false (Out.rt (id x22)))) else (pk false (Out.nx ()))) fun (s21 : Unit) => (bk false (bk false (bk false (bk false (pk false v.2.1) fun x25 => (bk false (bk false (pk false v.2.2.1) fun x24 => (lk false (dI x24))) fun x26 => (lk false (oAt x25 x26)))) fun x28 => (bk false (bk false (pk false v.2.2.2) fun x27 => (lk false (dI x27))) fun x29 => (lk false (oAt x28 x29)))) fun x30 => (pk false (isNo x30))) fun x23 => (pk false (Out.rt (id x23)))))
def m_is_unknown (v : ((List (Option (List Int))) × (List (List (Option Int))) × PyData × PyData)) : Mk false Bool := exO false (Empty.elim) (b_is_unknown v)
theorem k_is_unknown {P : Program} {w : World} {K : PySem.W.Frag} {mg : Str → Option Value} {base : Heap} (W : Wd K mg) : Kn P w K mg base 3 "is_unknown" (spM K (fun (v : ((List (Option (List Int))) × (List (List (Option Int))) × PyData × PyData)) => [(eT (eO (eT eI))) v.1, (eT (eT (eO eI))) v.2.1, eA v.2.2.1, eA v.2.2.2]) m_is_unknown (xV eB)) :=
  kn_m (er := fun (v : ((List (Option (List Int))) × (List (List (Option Int))) × PyData × PyData)) => [(eT (eO (eT eI))) v.1, (eT (eT (eO eI))) v.2.1, eA v.2.2.1, eA v.2.2.2]) (xr := (xV eB)) W.f_is_unknown W.g_is_unknown sc_is_unknown (fun _ _ _ _ _ _ us hl => match us, hl with | [_, _, _, _], _ => rfl) (fun _ => rfl) (by decide) (Empty.elim) (fun s => nomatch s) (fun _ _ s => nomatch s) b_is_unknown (fun _ _ s => nomatch s) (fun f cdv A outer s H g E' E0 v B p hr tk => by
    have nd := sc_is_unknown.nd
    have c_is_between := (k_is_between (P := P) (w := w) (base := base) W).mono (show 2 ≤ 2 by decide)
    unfold b_is_unknown
    exact (ms_if (Cm := fun (s21 : Unit) => (⟨[(0, .p ((eT (eO (eT eI))) v.1)), (1, .p ((eT (eT (eO eI))) v.2.1)), (2, .p (eA v.2.2.1)), (3, .p (eA v.2.2.2))], [], [], p, 4, B⟩ : Ct)) (mt_w (mw_or (mt_not (mt_e (me_callV (fun _ => c_is_between) (fun _ => hr) (fun _ => tk) (ma_cons (me_v 2 v.2.2.1) (ma_cons me_int (ma_one (me_sub (me_len sqT (fun _ => W.m_len) (me_v 1 v.2.1)) me_int))))))) (mw_or1 (mt_not (mt_e (me_callV (fun _ => c_is_between) (fun _ => hr) (fun _ => tk) (ma_cons (me_v 3 v.2.2.2) (ma_cons me_int (ma_one (me_sub (me_len sqT (fun _ => W.m_len) (me_v 0 v.1)) me_int)))))))))) (ms_ret id (fun _ => rfl) me_bl) (ms_nil (s := ()) (sub_of (SubF.cons rfl (SubF.cons rfl (SubF.cons rfl (SubF.cons rfl SubF.nil)))))) (fun s21 => (ms_ret id (fun _ => rfl) (me_isN (f := isNo) (isO noI) (me_ix sqT (me_ix sqT (me_v 1 v.2.1) (me_dec (me_v 2 v.2.2.1) cI)) (me_dec (me_v 3 v.2.2.2) cI)))))))
end Q92
end
section
set_option maxHeartbeats 4000000
namespace Q92
open PySem PySem.Spec PyProof.Rows L2 SK
/-! ### is_twins -/
theorem sc_is_twins : FnScope ["table", "demand", "value", "one"] ["table", "demand", "value"] (defScope S_is_twins) := ⟨rfl, rfl, rfl, by decide +kernel, rfl, by decide +kernel, by decide +kernel⟩
def b_is_twins (v : ((List (List (Option Int))) × (List (List Int)) × PyData)) : Mk false (Out Empty Bool) := (bk false (bk false (bk false (bk false (pk false v.2.2) fun x1 => (lk false (pLen x1))) fun x2 => (bk false (pk false (4 : Int)) fun x3 => (pk false (true ^^ decide (x2 = x3))))) fun x22 => if x22 = true then (pk false true) else (bk false (bk false (bk false (bk false (bk false (pk false v.2.2) fun x7 => (bk false (bk false (pk false (1 : Int)) fun x5 => (pk false (some x5))) fun x8 => (bk false (bk false (pk false (3 : Int)) fun x6 => (pk false (some x6))) fun x9 => (lk false (pCut x7 x8 x9))))) fun x10 => (lk false (pItems x10))) fun l20 => mM false (fun (a11 : PyData) => (bk false (bk false (pk false a11) fun x17 => (bk false (bk false (pk false (0 : Int)) fun x15 => (bk false (bk false (bk false (pk false v.1) fun x12 => (pk false (x12.length : Int))) fun x13 => (bk false (pk false (1 : Int)) fun x14 => (pk false (x13 - x14)))) fun x16 => (pk false (x15, x16)))) fun x18 => (pk false (x17, x18)))) fun v19 => (lk false (m_is_between v19)))) l20) fun x4 => (pk false (x4.all id))) fun x21 => (pk false (!x21)))) fun x23 => ob false (if x23 = true then (bk false (pk false false) fun x25 => (pk false (Out.rt (id x25)))) else (pk false (Out.nx ()))) fun (s24 : Unit) => (bk false (bk false (bk false (bk false (bk false (bk false (pk false v.2.2) fun x26 => (bk false (pk false (1 : Int)) fun x27 => (lk false (pAt x26 x27)))) fun x28 => (lk false (dI x28))) fun x32 => (bk false (bk false (bk false (pk false v.2.2) fun x29 => (bk false (pk false (2 : Int)) fun x30 => (lk false (pAt x29 x30)))) fun x31 => (lk false (dI x31))) fun x33 => (pk false (CmpI.f .lt x32 x33)))) fun x34 => (pk false (!x34))) fun x46 => if x46 = true then (pk false true) else (bk false (bk false (bk false (bk false (pk false v.2.2) fun x35 => (bk false (pk false (3 : Int)) fun x36 => (lk false (pAt x35 x36)))) fun x42 => (bk false (bk false (pk false (0 : Int)) fun x40 => (bk false (bk false (bk false (pk false v.2.1) fun x37 => (pk false (x37.length : Int))) fun x38 => (bk false (pk false (1 : Int)) fun x39 => (pk false (x38 - x39)))) fun x41 => (pk false (x40, x41)))) fun x43 => (pk false (x42, x43)))) fun v44 => (lk false (m_is_between v44))) fun x45 => (pk false (!x45)))) fun x47 => ob false (if x47 = true then (bk false (pk false false) fun x49 => (pk false (Out.rt (id x49)))) else (pk false (Out.nx ()))) fun (s48 : Unit) => (bk false (bk false (bk false (bk false (pk false v.1) fun x54 => (bk false (bk false (bk false (pk false v.2.2) fun x51 => (bk false (pk false (1 : Int)) fun x52 => (lk false (pAt x51 x52)))) fun x53 => (lk false (dI x53))) fun x55 => (lk false (oAt x54 x55)))) fun x68 => (bk false (bk false (bk false (pk false v.1) fun x59 => (bk false (bk false (bk false (pk false v.2.2) fun x56 => (bk false (pk false (2 : Int)) fun x57 => (lk false (pAt x56 x57)))) fun x58 => (lk false (dI x58))) fun x60 => (lk false (oAt x59 x60)))) fun x66 => (bk false (bk false (pk false v.2.1) fun x64 => (bk false (bk false (bk false (pk false v.2.2) fun x61 => (bk false (pk false (3 : Int)) fun x62 => (lk false (pAt x61 x62)))) fun x63 => (lk false (dI x63))) fun x65 => (lk false (oAt x64 x65)))) fun x67 => (pk false (x66, x67)))) fun x69 => (pk false (x68, x69)))) fun v70 => (lk false (m_are_alike v70))) fun x50 => (pk false (Out.rt (id x50))))))
def m_is_twins (v : ((List (List (Option Int))) × (List (List Int)) × PyData)) : Mk false Bool := exO false (Empty.elim) (b_is_twins v)
theorem k_is_twins {P : Program} {w : World} {K : PySem.W.Frag} {mg : Str → Option Value} {base : Heap} (W : Wd K mg) : Kn P w K mg base 3 "is_twins" (spM K (fun (v : ((List (List (Option Int))) × (List (List Int)) × PyData)) => [(eT (eT (eO eI))) v.1, (eT (eT eI)) v.2.1, eA v.2.2]) m_is_twins (xV eB)) :=
  kn_m (er := fun (v : ((List (List (Option Int))) × (List (List Int)) × PyData)) => [(eT (eT (eO eI))) v.1, (eT (eT eI)) v.2.1, eA v.2.2]) (xr := (xV eB)) W.f_is_twins W.g_is_twins sc_is_twins (fun _ _ _ _ _ _ us hl => match us, hl with | [_, _, _], _ => rfl) (fun _ => rfl) (by decide) (Empty.elim) (fun s => nomatch s) (fun _ _ s => nomatch s) b_is_twins (fun _ _ s => nomatch s) (fun f cdv A outer s H g E' E0 v B p hr tk => by
    have nd := sc_is_twins.nd
    have c_are_alike := (k_are_alike (P := P) (w := w) (base := base) W).mono (show 1 ≤ 2 by decide)
    have c_is_between := (k_is_between (P := P) (w := w) (base := base) W).mono (show 2 ≤ 2 by decide)
    unfold b_is_twins
    exact (ms_if (Cm := fun (s24 : Unit) => (⟨[(0, .p ((eT (eT (eO eI))) v.1)), (1, .p ((eT (eT eI)) v.2.1)), (2, .p (eA v.2.2))], [], [], p, 4, B⟩ : Ct)) (mt_w (mw_or (mt_cmp (fun _ => opEq true hr.r.units) (re_eqT true qI (by decide) (me_lenA (fun _ => W.m_len) (me_v 2 v.2.2)) me_int)) (mw_or1 (mt_not (mt_e (me_all (fun _ => W.m_all) (me_enc (eb := (eL eB)) (me_F (mf_comp1 (eb := eB) (fun _ => rfl) (fun _ => nd) (fun _ => blk_ok (own := [("one", 3)]) (by kernel_rfl)) (mi_any (me_slA (me_v 2 v.2.2) (mp_some me_int) (mp_some me_int))) (mg_name 3 (fun _ => nd)) (fun a11 => (me_callV (fun _ => c_is_between) (fun _ => hr) (fun _ => tk0) (ma_cons (me_v 3 a11) (ma_cons me_int (ma_one (me_sub (me_len sqT (fun _ => W.m_len) (me_v 0 v.1)) me_int))))))))))))))) (ms_ret id (fun _ => rfl) me_bl) (ms_nil (s := ()) (sub_of (SubF.cons rfl (SubF.cons rfl (SubF.cons rfl SubF.nil))))) (fun s24 => (ms_if (Cm := fun (s48 : Unit) => (⟨[(0, .p ((eT (eT (eO eI))) v.1)), (1, .p ((eT (eT eI)) v.2.1)), (2, .p (eA v.2.2))], [], [], p, 4, B⟩ : Ct)) (mt_w (mw_or (mt_not (mt_cmpI .lt (me_dec (me_ixA (me_v 2 v.2.2) me_int) cI) (me_dec (me_ixA (me_v 2 v.2.2) me_int) cI))) (mw_or1 (mt_not (mt_e (me_callV (fun _ => c_is_between) (fun _ => hr) (fun _ => tk) (ma_cons (me_ixA (me_v 2 v.2.2) me_int) (ma_cons me_int (ma_one (me_sub (me_len sqT (fun _ => W.m_len) (me_v 1 v.2.1)) me_int)))))))))) (ms_ret id (fun _ => rfl) me_bl) (ms_nil (s := ()) (sub_of (SubF.cons rfl (SubF.cons rfl (SubF.cons rfl SubF.nil))))) (fun s48 => (ms_ret id (fun _ => rfl) (me_callV (fun _ => c_are_alike) (fun _ => hr) (fun _ => tk) (ma_cons (me_ix sqT (me_v 0 v.1) (me_dec (me_ixA (me_v 2 v.2.2) me_int) cI)) (ma_cons (me_ix sqT (me_v 0 v.1) (me_dec (me_ixA (me_v 2 v.2.2) me_int) cI)) (ma_one (me_ix sqT (me_v 1 v.2.1) (me_dec (me_ixA (me_v 2 v.2.2) me_int) cI))))))))))))
end Q92
end
section
set_option maxHeartbeats 4000000
namespace Q92
open PySem PySem.Spec PyProof.Rows L2 SK
/-! ### is_endless -/
theorem sc_is_endless : FnScope ["columns", "table", "i", "column"] ["columns", "table"] (defScope S_is_endless) := ⟨rfl, rfl, rfl, by decide +kernel, rfl, by decide +kernel, by decide +kernel⟩
def b_is_endless (v : ((List (Option (List Int))) × (List (List (Option Int))))) : Mk false (Out Empty Bool) := (bk false (bk false (bk false (bk false (bk false (pk false v.2) fun v3 => (lk false (m_find_unknown v3))) fun x4 => (pk false x4)) fun l9 => mM false (fun (a5 : (Int × Int)) => (bk false (bk false (pk false v.1) fun x6 => (bk false (pk false a5.2) fun x7 => (lk false (oAt x6 x7)))) fun x8 => (pk false (isNo x8)))) l9) fun x2 => (pk false (x2.any id))) fun x1 => (pk false (Out.rt (id x1))))
def m_is_endless (v : ((List (Option (List Int))) × (List (List (Option Int))))) : Mk false Bool := exO false (Empty.elim) (b_is_endless v)
theorem k_is_endless {P : Program} {w : World} {K : PySem.W.Frag} {mg : Str → Option Value} {base : Heap} (W : Wd K mg) : Kn P w K mg base 2 "is_endless" (spM K (fun (v : ((List (Option (List Int))) × (List (List (Option Int))))) => [(eT (eO (eT eI))) v.1, (eT (eT (eO eI))) v.2]) m_is_endless (xV eB)) :=
  kn_m (er := fun (v : ((List (Option (List Int))) × (List (List (Option Int))))) => [(eT (eO (eT eI))) v.1, (eT (eT (eO eI))) v.2]) (xr := (xV eB)) W.f_is_endless W.g_is_endless sc_is_endless (fun _ _ _ _ _ _ us hl => match us, hl with | [_, _], _ => rfl) (fun _ => rfl) (by decide) (Empty.elim) (fun s => nomatch s) (fun _ _ s => nomatch s) b_is_endless (fun _ _ s => nomatch s) (fun f cdv A outer s H g E' E0 v B p hr tk => by
    have nd := sc_is_endless.nd
    have c_find_unknown := (k_find_unknown (P := P) (w := w) (base := base) W).mono (show 1 ≤ 1 by decide)
    unfold b_is_endless
    exact (ms_ret id (fun _ => rfl) (me_anyB (fun _ => W.m_any) (me_enc (eb := (eL eB)) (me_F (mf_comp1 (eb := eB) (fun _ => rfl) (fun _ => nd) (fun _ => blk_ok (own := [("i", 2), ("column", 3)]) (by kernel_rfl)) (mi_seq sqL (me_enc (eb := (eL (eP2 eI eI))) (me_N (mn_callV (fun _ => c_find_unknown) (fun _ => hr) (fun _ => tk) (ma_one (me_v 1 v.2)))))) (mg_tup2 2 3 (fun _ => nd)) (fun a5 => (me_isN (f := isNo) (isO noT) (me_ix sqT (me_v 0 v.1) (me_v 3 a5.2))))))))))
end Q92
end
section
set_option maxHeartbeats 4000000
namespace Q92
open PySem PySem.Spec PyProof.Rows L2 SK
/-! ### count_all -/
theorem sc_count_all : FnScope ["columns", "table", "number", "i", "column"] ["columns", "table"] (defScope S_count_all) := ⟨rfl, rfl, rfl, by decide +kernel, rfl, by decide +kernel, by decide +kernel⟩
def b_count_all (v : ((List (Option (List Int))) × (List (List (Option Int))))) : Mk false (Out Empty Int) := (bk false (pk false (1 : Int)) fun (y1 : Int) => (bk false (bk false (bk false (pk false v.2) fun v2 => (lk false (m_find_unknown v2))) fun x3 => (pk false x3)) fun l18 => ob false (forM false (fun (a4 : (Int × Int)) (s5 : Int) => (bk false (bk false (pk false s5) fun x15 => (bk false (bk false (bk false (bk false (pk false v.1) fun x12 => (bk false (pk false a4.2) fun x13 => (lk false (oAt x12 x13)))) fun x14 => (lk false x14)) fun x11 => (pk false (x11.length : Int))) fun x16 => (lk false (oMul x15 x16)))) fun (y6 : Int) => (pk false (Out.nx y6)))) l18 y1) fun (s5 : Int) => (bk false (pk false s5) fun x17 => (pk false (Out.rt (id x17))))))
def m_count_all (v : ((List (Option (List Int))) × (List (List (Option Int))))) : Mk false Int := exO false (Empty.elim) (b_count_all v)
theorem k_count_all {P : Program} {w : World} {K : PySem.W.Frag} {mg : Str → Option Value} {base : Heap} (W : Wd K mg) : Kn P w K mg base 2 "count_all" (spM K (fun (v : ((List (Option (List Int))) × (List (List (Option Int))))) => [(eT (eO (eT eI))) v.1, (eT (eT (eO eI))) v.2]) m_count_all (xV eI)) :=
  kn_m (er := fun (v : ((List (Option (List Int))) × (List (List (Option Int))))) => [(eT (eO (eT eI))) v.1, (eT (eT (eO eI))) v.2]) (xr := (xV eI)) W.f_count_all W.g_count_all sc_count_all (fun _ _ _ _ _ _ us hl => match us, hl with | [_, _], _ => rfl) (fun _ => rfl) (by decide) (Empty.elim) (fun s => nomatch s) (fun _ _ s => nomatch s) b_count_all (fun _ _ s => nomatch s) (fun f cdv A outer s H g E' E0 v B p hr tk => by
    have nd := sc_count_all.nd
    have c_find_unknown := (k_find_unknown (P := P) (w := w) (base := base) W).mono (show 1 ≤ 1 by decide)
    unfold b_count_all
    exact (ms_set 2 (fun _ => nd) me_int (fun y1 => (ms_for (Cl := fun (s5 : Int) => (⟨[(0, .p ((eT (eO (eT eI))) v.1)), (1, .p ((eT (eT (eO eI))) v.2)), (2, .p (eI s5))], [], [], p, 5, B⟩ : Ct)) y1 (fun _ => passes_of rfl) (mi_seq sqL (me_enc (eb := (eL (eP2 eI eI))) (me_N (mn_callV (fun _ => c_find_unknown) (fun _ => hr) (fun _ => tk) (ma_one (me_v 1 v.2)))))) (mg_tup2 3 4 (fun _ => nd)) (sub_of (SubF.cons rfl (SubF.cons rfl (SubF.cons rfl SubF.nil)))) (fun a4 s5 => (ms_set 2 (fun _ => nd) (me_mulI (me_v 2 s5) (me_len sqT (fun _ => W.m_len) (me_get (me_ix sqT (me_v 0 v.1) (me_v 4 a4.2))))) (fun y6 => (ms_nil (s := y6) (sub_of (SubF.cons rfl (SubF.cons rfl (SubF.cons rfl SubF.nil)))))))) (fun s5 => (ms_ret id (fun _ => rfl) (me_v 2 s5)))))))
end Q92
end
section
set_option maxHeartbeats 4000000
namespace Q92
open PySem PySem.Spec PyProof.Rows L2 SK
/-! ### are_sure -/
theorem sc_are_sure : FnScope ["table", "demand", "some"] ["table", "demand"] (defScope S_are_sure) := ⟨rfl, rfl, rfl, by decide +kernel, rfl, by decide +kernel, by decide +kernel⟩
def b_are_sure (v : ((List (List (Option Int))) × (List (List Int)))) : Mk false (Out Empty Bool) := (bk false (bk false (bk false (bk false (pk false v.2) fun x3 => (pk false x3)) fun l10 => mM false (fun (a4 : (List Int)) => (bk false (bk false (bk false (pk false v.1) fun x5 => (bk false (pk false a4) fun x6 => (pk false (x5, x6)))) fun v7 => (lk false (m_find_meetings v7))) fun x8 => (bk false (bk false (pk false ()) fun _ => (pk false ([] : List (Int × Int)))) fun x9 => (pk false (false ^^ decide (x8 = x9)))))) l10) fun x2 => (pk false (x2.all id))) fun x1 => (pk false (Out.rt (id x1))))
def m_are_sure (v : ((List (List (Option Int))) × (List (List Int)))) : Mk false Bool := exO false (Empty.elim) (b_are_sure v)
theorem k_are_sure {P : Program} {w : World} {K : PySem.W.Frag} {mg : Str → Option Value} {base : Heap} (W : Wd K mg) : Kn P w K mg base 3 "are_sure" (spM K (fun (v : ((List (List (Option Int))) × (List (List Int)))) => [(eT (eT (eO eI))) v.1, (eT (eT eI)) v.2]) m_are_sure (xV eB)) :=
  kn_m (er := fun (v : ((List (List (Option Int))) × (List (List Int)))) => [(eT (eT (eO eI))) v.1, (eT (eT eI)) v.2]) (xr := (xV eB)) W.f_are_sure W.g_are_sure sc_are_sure (fun _ _ _ _ _ _ us hl => match us, hl with | [_, _], _ => rfl) (fun _ => rfl) (by decide) (Empty.elim) (fun s => nomatch s) (fun _ _ s => nomatch s) b_are_sure (fun _ _ s => nomatch s) (fun f cdv A outer s H g E' E0 v B p hr tk => by
    have nd := sc_are_sure.nd
    have c_find_meetings := (k_find_meetings (P := P) (w := w) (base := base) W).mono (show 2 ≤ 2 by decide)
    unfold b_are_sure
    exact (ms_ret id (fun _ => rfl) (me_all (fun _ => W.m_all) (me_enc (eb := (eL eB)) (me_F (mf_comp1 (eb := eB) (fun _ => rfl) (fun _ => nd) (fun _ => blk_ok (own := [("some", 2)]) (by kernel_rfl)) (mi_seq sqT (me_v 1 v.2)) (mg_name 2 (fun _ => nd)) (fun a4 => (me_cmp (fun _ => opEq false hr.r.units) (re_eqT false (qL (qP2 qI qI)) (by decide) (me_enc (eb := (eL (eP2 eI eI))) (me_N (mn_callV (fun _ => c_find_meetings) (fun _ => hr) (fun _ => tk0) (ma_cons (me_v 0 v.1) (ma_one (me_v 2 a4)))))) (me_enc (eb := (eL (eP2 eI eI))) (me_F (mf_as (f := fun _ => ([] : List (Int × Int))) (er' := fun l => l.map (eP2 eI eI)) (mf_lst ma_nil) (fun _ => rfl)))))))))))))
end Q92
end
section
set_option maxHeartbeats 4000000
namespace Q92
open PySem PySem.Spec PyProof.Rows L2 SK
/-! ### find_count_tree -/
theorem sc_find_count_tree : FnScope ["columns", "table", "demand", "twins", "i", "column", "trees", "value"] ["columns", "table", "demand"] (defScope S_find_count_tree) := ⟨rfl, rfl, rfl, by decide +kernel, rfl, by decide +kernel, by decide +kernel⟩
def b_find_count_tree (rec_find_count_tree : ((List (Option (List Int))) × (List (List (Option Int))) × (List (List Int))) → Mk false PyData) (v : ((List (Option (List Int))) × (List (List (Option Int))) × (List (List Int)))) : Mk false (Out Empty PyData) := (bk false (bk false (bk false (pk false v.2.1) fun x2 => (bk false (pk false v.2.2) fun x3 => (pk false (x2, x3)))) fun v4 => (lk false (m_find_twins v4))) fun (y1 : (Option (Int × Int × Int))) => (bk false (bk false (pk false y1) fun x5 => (pk false (!isNo x5))) fun x6 => ob false (if x6 = true then (bk false (bk false (bk false (bk false (pk false ("twins" : Str)) fun x12 => (bk false (bk false (bk false (pk false y1) fun x9 => (lk false x9)) fun x10 => (bk false (pk false ()) fun x11 => (pk false (x10, x11)))) fun x13 => (pk false (x12, x13)))) fun x14 => (pk false (x14.1, x14.2.1.1, x14.2.1.2.1, x14.2.1.2.2))) fun x15 => (pk false ((eP4 eS eI eI eI) x15))) fun x8 => (pk false (Out.rt (id x8)))) else (pk false (Out.nx ()))) fun (s7 : Unit) => (bk false (bk false (bk false (pk false v.2.1) fun x16 => (bk false (pk false v.2.2) fun x17 => (pk false (x16, x17)))) fun v18 => (lk false (m_are_sure v18))) fun x19 => ob false (if x19 = true then (bk false (pk false (PyData.tuple [(PyData.str "sure")])) fun x21 => (pk false (Out.rt (id x21)))) else (pk false (Out.nx ()))) fun (s20 : Unit) => (bk false (bk false (bk false (pk false v.2.1) fun v23 => (lk false (m_find_unknown v23))) fun x24 => (bk false (pk false (0 : Int)) fun x25 => (lk false (oAt x24 x25)))) fun (y22 : (Int × Int)) => (bk false (bk false (bk false (bk false (bk false (pk false v.1) fun x27 => (bk false (pk false y22.2) fun x28 => (lk false (oAt x27 x28)))) fun x29 => (lk false x29)) fun x30 => (pk false x30)) fun l45 => cM false (fun (a31 : Int) => (pk false true)) (fun (a31 : Int) => (bk false (bk false (pk false v.1) fun x42 => (bk false (bk false (bk false (bk false (pk false v.2.1) fun x37 => (bk false (bk false (pk false y22.1) fun x35 => (bk false (bk false (pk false y22.2) fun x33 => (bk false (bk false (pk false a31) fun x32 => (pk false (some x32))) fun x34 => (pk false (x33, x34)))) fun x36 => (pk false (x35, x36)))) fun x38 => (pk false (x37, x38)))) fun v39 => (lk false (m_with_entry v39))) fun x40 => (bk false (pk false v.2.2) fun x41 => (pk false (x40, x41)))) fun x43 => (pk false (x42, x43)))) fun v44 => (lk false (rec_find_count_tree v44)))) l45) fun (y26 : List PyData) => (bk false (bk false (bk false (bk false (pk false (PyData.str "split")) fun x55 => (bk false (bk false (bk false (pk false y22.1) fun x47 => (pk false (eI x47))) fun x53 => (bk false (bk false (bk false (pk false y22.2) fun x48 => (pk false (eI x48))) fun x51 => (bk false (bk false (bk false (pk false y26) fun x49 => (pk false x49)) fun x50 => (pk false ((eT eA) x50))) fun x52 => (pk false (x51, x52)))) fun x54 => (pk false (x53, x54)))) fun x56 => (pk false (x55, x56)))) fun x57 => (pk false ([x57.1, x57.2.1, x57.2.2.1, x57.2.2.2]))) fun x58 => (pk false ((eT eA) x58))) fun x46 => (pk false (Out.rt (id x46)))))))))
def m_find_count_tree : Nat → ((List (Option (List Int))) × (List (List (Option Int))) × (List (List Int))) → Mk false PyData
  | 0, _ => lk false none
  | n + 1, v => exO false (Empty.elim) (b_find_count_tree (m_find_count_tree n) v)
theorem k_find_count_tree {P : Program} {w : World} {K : PySem.W.Frag} {mg : Str → Option Value} {base : Heap} (W : Wd K mg) : ∀ n, Kn P w K mg base (3 + n + 1) "find_count_tree" (spM K (fun (v : ((List (Option (List Int))) × (List (List (Option Int))) × (List (List Int)))) => [(eT (eO (eT eI))) v.1, (eT (eT (eO eI))) v.2.1, (eT (eT eI)) v.2.2]) (m_find_count_tree n) (xV eA))
  | 0 => kn_m (er := fun (v : ((List (Option (List Int))) × (List (List (Option Int))) × (List (List Int)))) => [(eT (eO (eT eI))) v.1, (eT (eT (eO eI))) v.2.1, (eT (eT eI)) v.2.2]) (xr := (xV eA)) W.f_find_count_tree W.g_find_count_tree sc_find_count_tree (fun _ _ _ _ _ _ us hl => match us, hl with | [_, _, _], _ => rfl) (fun _ => rfl) (by decide) (Empty.elim) (fun s => nomatch s) (fun _ _ s => nomatch s) (fun _ => lk false none) (fun _ _ s => nomatch s) (fun f cdv A outer s H g E' E0 v B p hr tk => ms_none)
  | n + 1 => by
    have c_find_count_tree := (k_find_count_tree (P := P) (w := w) (base := base) W n).mono (show 3 + n + 1 ≤ 3 + n + 1 from Nat.le_refl _)
    exact kn_m (er := fun (v : ((List (Option (List Int))) × (List (List (Option Int))) × (List (List Int)))) => [(eT (eO (eT eI))) v.1, (eT (eT (eO eI))) v.2.1, (eT (eT eI)) v.2.2]) (xr := (xV eA)) W.f_find_count_tree W.g_find_count_tree sc_find_count_tree (fun _ _ _ _ _ _ us hl => match us, hl with | [_, _, _], _ => rfl) (fun _ => rfl) (by decide) (Empty.elim) (fun s => nomatch s) (fun _ _ s => nomatch s) (b_find_count_tree (m_find_count_tree n)) (fun _ _ s => nomatch s) (fun f cdv A outer s H g E' E0 v B p hr tk => by
      have nd := sc_find_count_tree.nd
      have c_are_sure := (k_are_sure (P := P) (w := w) (base := base) W).mono (show 3 ≤ 3 + n + 1 by omega)
      have c_find_twins := (k_find_twins (P := P) (w := w) (base := base) W).mono (show 2 ≤ 3 + n + 1 by omega)
      have c_find_unknown := (k_find_unknown (P := P) (w := w) (base := base) W).mono (show 1 ≤ 3 + n + 1 by omega)
      have c_with_entry := (k_with_entry (P := P) (w := w) (base := base) W).mono (show 1 ≤ 3 + n + 1 by omega)
      unfold b_find_count_tree
      exact (ms_set 3 (fun _ => nd) (me_callV (fun _ => c_find_twins) (fun _ => hr) (fun _ => tk) (ma_cons (me_v 1 v.2.1) (ma_one (me_v 2 v.2.2)))) (fun y1 => (ms_if (Cm := fun (s7 : Unit) => (⟨[(0, .p ((eT (eO (eT eI))) v.1)), (1, .p ((eT (eT (eO eI))) v.2.1)), (2, .p ((eT (eT eI)) v.2.2)), (3, .p ((eO (eP3 eI eI eI)) y1))], [], [], p, 8, B⟩ : Ct)) (mt_isnotN (f := isNo) (isO noP3) (me_v 3 y1)) (ms_ret id (fun _ => rfl) (me_any (me_as (f := fun v => (v.1, v.2.1.1, v.2.1.2.1, v.2.1.2.2)) (eb := (eP4 eS eI eI eI)) (me_tup (ma_cons me_str (ma_star sqP3 (me_get (me_v 3 y1)) ma_nil))) (fun _ => rfl)))) (ms_nil (s := ()) (sub_of (SubF.cons rfl (SubF.cons rfl (SubF.cons rfl (SubF.cons rfl SubF.nil)))))) (fun s7 => (ms_if (Cm := fun (s20 : Unit) => (⟨[(0, .p ((eT (eO (eT eI))) v.1)), (1, .p ((eT (eT (eO eI))) v.2.1)), (2, .p ((eT (eT eI)) v.2.2)), (3, .p ((eO (eP3 eI eI eI)) y1))], [], [], p, 8, B⟩ : Ct)) (mt_e (me_callV (fun _ => c_are_sure) (fun _ => hr) (fun _ => tk) (ma_cons (me_v 1 v.2.1) (ma_one (me_v 2 v.2.2))))) (ms_ret id (fun _ => rfl) (me_lit (ml_tup (mls_cons ml_str mls_nil)))) (ms_nil (s := ()) (sub_of (SubF.cons rfl (SubF.cons rfl (SubF.cons rfl (SubF.cons rfl SubF.nil)))))) (fun s20 => (ms_asg (me_ix sqL (me_enc (eb := (eL (eP2 eI eI))) (me_N (mn_callV (fun _ => c_find_unknown) (fun _ => hr) (fun _ => tk) (ma_one (me_v 1 v.2.1))))) me_int) (mg_tup2 4 5 (fun _ => nd)) (fun y22 => (ms_setLc 6 (fun _ => rfl) (fun _ => nd) (fun _ => blk_ok (own := [("value", 7)]) (by kernel_rfl)) (mi_seq sqT (me_get (me_ix sqT (me_v 0 v.1) (me_v 5 y22.2)))) (mg_name 7 (fun _ => nd)) (fun a31 => mts_nil) (fun a31 => (me_callV (fun _ => c_find_count_tree) (fun _ => hr) (fun _ => tk0) (ma_cons (me_v 0 v.1) (ma_cons (me_callV (fun _ => c_with_entry) (fun _ => hr) (fun _ => tk0) (ma_cons (me_v 1 v.2.1) (ma_cons (me_v 4 y22.1) (ma_cons (me_v 5 y22.2) (ma_one (me_some (me_v 7 a31))))))) (ma_one (me_v 2 v.2.2)))))) (fun y26 => (ms_ret id (fun _ => rfl) (me_any (me_as (f := fun v => [v.1, v.2.1, v.2.2.1, v.2.2.2]) (eb := (eT eA)) (me_tup (ma_cons (me_lit ml_str) (ma_cons (me_any (me_v 4 y22.1)) (ma_cons (me_any (me_v 5 y22.2)) (ma_one (me_any (me_tuple sqL (fun _ => W.m_tuple) (me_v 6 y26)))))))) (fun _ => rfl)))))))))))))))
end Q92
end
section
set_option maxHeartbeats 4000000
namespace Q92
open PySem PySem.Spec PyProof.Rows L2 SK
/-! ### find_split_number_find_tree_number -/
theorem sc_find_split_number : FnScope ["columns", "table", "demand", "value", "i", "column", "trees", "number", "entry", "tree", "own"] ["columns", "table", "demand", "value"] (defScope S_find_split_number) := ⟨rfl, rfl, rfl, by decide +kernel, rfl, by decide +kernel, by decide +kernel⟩
def b_find_split_number (rec_find_split_number : ((List (Option (List Int))) × (List (List (Option Int))) × (List (List Int)) × PyData) → Mk false (Option Int)) (rec_find_tree_number : ((List (Option (List Int))) × (List (List (Option Int))) × (List (List Int)) × PyData) → Mk false (Option Int)) (v : ((List (Option (List Int))) × (List (List (Option Int))) × (List (List Int)) × PyData)) : Mk false (Out Empty (Option Int)) := (bk false (bk false (bk false (pk false v.2.2.2) fun x3 => (bk false (bk false (pk false (1 : Int)) fun x2 => (pk false (some x2))) fun x4 => (bk false (pk false (none : Option Int)) fun x5 => (lk false (pCut x3 x4 x5))))) fun x6 => (lk false ((SK.dP3 dA dA dA) x6))) fun (y1 : (PyData × PyData × PyData)) => (bk false (bk false (bk false (bk false (pk false v.1) fun x11 => (bk false (bk false (pk false v.2.1) fun x9 => (bk false (bk false (pk false y1.1) fun x7 => (bk false (pk false y1.2.1) fun x8 => (pk false (x7, x8)))) fun x10 => (pk false (x9, x10)))) fun x12 => (pk false (x11, x12)))) fun v13 => (lk false (m_is_unknown v13))) fun x14 => (pk false (!x14))) fun x15 => ob false (if x15 = true then (bk false (bk false (pk false ()) fun _ => (pk false (none : (Option Int)))) fun x17 => (pk false (Out.rt (id x17)))) else (pk false (Out.nx ()))) fun (s16 : Unit) => (bk false (bk false (bk false (bk false (pk false y1.2.2) fun x18 => (pk false (isP "tuple" (eA x18)))) fun x19 => (pk false (!x19))) fun x28 => if x28 = true then (pk false true) else (bk false (bk false (pk false y1.2.2) fun x20 => (lk false (pLen x20))) fun x26 => (bk false (bk false (bk false (bk false (pk false v.1) fun x23 => (bk false (bk false (pk false y1.2.1) fun x22 => (lk false (dI x22))) fun x24 => (lk false (oAt x23 x24)))) fun x25 => (lk false x25)) fun x21 => (pk false (x21.length : Int))) fun x27 => (pk false (true ^^ decide (x26 = x27)))))) fun x29 => ob false (if x29 = true then (bk false (bk false (pk false ()) fun _ => (pk false (none : (Option Int)))) fun x31 => (pk false (Out.rt (id x31)))) else (pk false (Out.nx ()))) fun (s30 : Unit) => (bk false (pk false (0 : Int)) fun (y32 : Int) => (bk false (bk false (bk false (bk false (pk false v.1) fun x34 => (bk false (bk false (pk false y1.2.1) fun x33 => (lk false (dI x33))) fun x35 => (lk false (oAt x34 x35)))) fun x36 => (lk false x36)) fun x37 => (bk false (pk false y1.2.2) fun x38 => (bk false (pk false x37) fun x39 => (bk false (lk false (pItems x38)) fun x40 => (pk false (x39.zip x40)))))) fun l71 => ob false (forM false (fun (a41 : (Int × PyData)) (s42 : Int) => (bk false (bk false (bk false (pk false v.1) fun x58 => (bk false (bk false (bk false (bk false (pk false v.2.1) fun x51 => (bk false (bk false (bk false (pk false y1.1) fun x44 => (lk false (dI x44))) fun x49 => (bk false (bk false (bk false (pk false y1.2.1) fun x45 => (lk false (dI x45))) fun x47 => (bk false (bk false (pk false a41.1) fun x46 => (pk false (some x46))) fun x48 => (pk false (x47, x48)))) fun x50 => (pk false (x49, x50)))) fun x52 => (pk false (x51, x52)))) fun v53 => (lk false (m_with_entry v53))) fun x56 => (bk false (bk false (pk false v.2.2.1) fun x54 => (bk false (pk false a41.2) fun x55 => (pk false (x54, x55)))) fun x57 => (pk false (x56, x57)))) fun x59 => (pk false (x58, x59)))) fun v60 => (lk false (rec_find_tree_number v60))) fun (y43 : (Option Int)) => (bk false (bk false (pk false y43) fun x61 => (pk false (isNo x61))) fun x62 => ob false (if x62 = true then (bk false (bk false (pk false ()) fun _ => (pk false (none : (Option Int)))) fun x64 => (pk false (Out.rt (id x64)))) else (pk false (Out.nx ()))) fun (s63 : Unit) => (bk false (bk false (pk false s42) fun x67 => (bk false (bk false (pk false y43) fun x66 => (lk false x66)) fun x68 => (pk false (x67 + x68)))) fun (y65 : Int) => (pk false (Out.nx y65)))))) l71 y32) fun (s42 : Int) => (bk false (bk false (pk false s42) fun x70 => (pk false (some x70))) fun x69 => (pk false (Out.rt (id x69)))))))))
theorem sc_find_tree_number : FnScope ["columns", "table", "demand", "value"] ["columns", "table", "demand", "value"] (defScope S_find_tree_number) := ⟨rfl, rfl, rfl, by decide +kernel, rfl, by decide +kernel, by decide +kernel⟩
def b_find_tree_number (rec_find_split_number : ((List (Option (List Int))) × (List (List (Option Int))) × (List (List Int)) × PyData) → Mk false (Option Int)) (rec_find_tree_number : ((List (Option (List Int))) × (List (List (Option Int))) × (List (List Int)) × PyData) → Mk false (Option Int)) (v : ((List (Option (List Int))) × (List (List (Option Int))) × (List (List Int)) × PyData)) : Mk false (Out Empty (Option Int)) := (bk false (bk false (bk false (bk false (pk false v.2.2.2) fun x1 => (pk false (isP "tuple" (eA x1)))) fun x2 => (pk false (!x2))) fun x10 => if x10 = true then (pk false true) else (bk false (bk false (pk false v.2.2.2) fun x3 => (bk false (pk false (PyData.tuple [])) fun x4 => (lk false ((oEq x3 x4).map fun z => false ^^ z)))) fun x9 => if x9 = true then (pk false true) else (bk false (bk false (bk false (pk false v.2.2.2) fun x6 => (bk false (pk false (0 : Int)) fun x7 => (lk false (pAt x6 x7)))) fun x5 => (pk false (isP "str" (eA x5)))) fun x8 => (pk false (!x8))))) fun x11 => ob false (if x11 = true then (bk false (bk false (pk false ()) fun _ => (pk false (none : (Option Int)))) fun x13 => (pk false (Out.rt (id x13)))) else (pk false (Out.nx ()))) fun (s12 : Unit) => (bk false (bk false (bk false (pk false v.2.2.2) fun x14 => (bk false (pk false (0 : Int)) fun x15 => (lk false (pAt x14 x15)))) fun x17 => (bk false (bk false (pk false ("twins" : Str)) fun x16 => (pk false (eS x16))) fun x18 => (lk false ((oEq x17 x18).map fun z => false ^^ z)))) fun x19 => ob false (if x19 = true then (bk false (bk false (bk false (bk false (pk false v.2.1) fun x24 => (bk false (bk false (pk false v.2.2.1) fun x22 => (bk false (pk false v.2.2.2) fun x23 => (pk false (x22, x23)))) fun x25 => (pk false (x24, x25)))) fun v26 => (lk false (m_is_twins v26))) fun x28 => if x28 = true then (bk false (pk false (0 : Int)) fun x27 => (pk false (some x27))) else (bk false (pk false ()) fun _ => (pk false (none : (Option Int))))) fun x21 => (pk false (Out.rt (id x21)))) else (pk false (Out.nx ()))) fun (s20 : Unit) => (bk false (bk false (bk false (pk false v.2.2.2) fun x29 => (bk false (pk false (0 : Int)) fun x30 => (lk false (pAt x29 x30)))) fun x32 => (bk false (bk false (pk false ("sure" : Str)) fun x31 => (pk false (eS x31))) fun x33 => (lk false ((oEq x32 x33).map fun z => false ^^ z)))) fun x34 => ob false (if x34 = true then (bk false (bk false (bk false (bk false (bk false (pk false v.2.2.2) fun x37 => (lk false (pLen x37))) fun x38 => (bk false (pk false (1 : Int)) fun x39 => (pk false (false ^^ decide (x38 = x39))))) fun x43 => if x43 = true then (bk false (bk false (pk false v.2.1) fun x40 => (bk false (pk false v.2.2.1) fun x41 => (pk false (x40, x41)))) fun v42 => (lk false (m_are_sure v42))) else (pk false false)) fun x48 => if x48 = true then (bk false (bk false (bk false (pk false v.1) fun x44 => (bk false (pk false v.2.1) fun x45 => (pk false (x44, x45)))) fun v46 => (lk false (m_count_all v46))) fun x47 => (pk false (some x47))) else (bk false (pk false ()) fun _ => (pk false (none : (Option Int))))) fun x36 => (pk false (Out.rt (id x36)))) else (pk false (Out.nx ()))) fun (s35 : Unit) => (bk false (bk false (bk false (bk false (pk false v.2.2.2) fun x49 => (bk false (pk false (0 : Int)) fun x50 => (lk false (pAt x49 x50)))) fun x52 => (bk false (bk false (pk false ("split" : Str)) fun x51 => (pk false (eS x51))) fun x53 => (lk false ((oEq x52 x53).map fun z => true ^^ z)))) fun x57 => if x57 = true then (pk false true) else (bk false (bk false (pk false v.2.2.2) fun x54 => (lk false (pLen x54))) fun x55 => (bk false (pk false (4 : Int)) fun x56 => (pk false (true ^^ decide (x55 = x56)))))) fun x58 => ob false (if x58 = true then (bk false (bk false (pk false ()) fun _ => (pk false (none : (Option Int)))) fun x60 => (pk false (Out.rt (id x60)))) else (pk false (Out.nx ()))) fun (s59 : Unit) => (bk false (bk false (bk false (pk false v.1) fun x66 => (bk false (bk false (pk false v.2.1) fun x64 => (bk false (bk false (pk false v.2.2.1) fun x62 => (bk false (pk false v.2.2.2) fun x63 => (pk false (x62, x63)))) fun x65 => (pk false (x64, x65)))) fun x67 => (pk false (x66, x67)))) fun v68 => (lk false (rec_find_split_number v68))) fun x61 => (pk false (Out.rt (id x61))))))))
def m_find_split_number_find_tree_number : Nat → (((List (Option (List Int))) × (List (List (Option Int))) × (List (List Int)) × PyData) → Mk false (Option Int)) × (((List (Option (List Int))) × (List (List (Option Int))) × (List (List Int)) × PyData) → Mk false (Option Int))
  | 0 => (fun _ => lk false none, fun _ => lk false none)
  | n + 1 => (fun v => exO false Empty.elim (b_find_split_number (m_find_split_number_find_tree_number n).1 (m_find_split_number_find_tree_number n).2 v), fun v => exO false Empty.elim (b_find_tree_number (m_find_split_number_find_tree_number n).1 (m_find_split_number_find_tree_number n).2 v))
abbrev m_find_split_number (n : Nat) : ((List (Option (List Int))) × (List (List (Option Int))) × (List (List Int)) × PyData) → Mk false (Option Int) := (m_find_split_number_find_tree_number n).1
abbrev m_find_tree_number (n : Nat) : ((List (Option (List Int))) × (List (List (Option Int))) × (List (List Int)) × PyData) → Mk false (Option Int) := (m_find_split_number_find_tree_number n).2
theorem k_find_split_number_find_tree_number {P : Program} {w : World} {K : PySem.W.Frag} {mg : Str → Option Value} {base : Heap} (W : Wd K mg) : ∀ n, Kn P w K mg base (3 + n + 1) "find_split_number" (spM K (fun (v : ((List (Option (List Int))) × (List (List (Option Int))) × (List (List Int)) × PyData)) => [(eT (eO (eT eI))) v.1, (eT (eT (eO eI))) v.2.1, (eT (eT eI)) v.2.2.1, eA v.2.2.2]) (m_find_split_number n) (xV (eO eI))) ∧ Kn P w K mg base (3 + n + 1) "find_tree_number" (spM K (fun (v : ((List (Option (List Int))) × (List (List (Option Int))) × (List (List Int)) × PyData)) => [(eT (eO (eT eI))) v.1, (eT (eT (eO eI))) v.2.1, (eT (eT eI)) v.2.2.1, eA v.2.2.2]) (m_find_tree_number n) (xV (eO eI)))
  | 0 => ⟨kn_m (er := fun (v : ((List (Option (List Int))) × (List (List (Option Int))) × (List (List Int)) × PyData)) => [(eT (eO (eT eI))) v.1, (eT (eT (eO eI))) v.2.1, (eT (eT eI)) v.2.2.1, eA v.2.2.2]) (xr := (xV (eO eI))) W.f_find_split_number W.g_find_split_number sc_find_split_number (fun _ _ _ _ _ _ us hl => match us, hl with | [_, _, _, _], _ => rfl) (fun _ => rfl) (by decide) (Empty.elim) (fun s => nomatch s) (fun _ _ s => nomatch s) (fun _ => lk false none) (fun _ _ s => nomatch s) (fun f cdv A outer s H g E' E0 v B p hr tk => ms_none), kn_m (er := fun (v : ((List (Option (List Int))) × (List (List (Option Int))) × (List (List Int)) × PyData)) => [(eT (eO (eT eI))) v.1, (eT (eT (eO eI))) v.2.1, (eT (eT eI)) v.2.2.1, eA v.2.2.2]) (xr := (xV (eO eI))) W.f_find_tree_number W.g_find_tree_number sc_find_tree_number (fun _ _ _ _ _ _ us hl => match us, hl with | [_, _, _, _], _ => rfl) (fun _ => rfl) (by decide) (Empty.elim) (fun s => nomatch s) (fun _ _ s => nomatch s) (fun _ => lk false none) (fun _ _ s => nomatch s) (fun f cdv A outer s H g E' E0 v B p hr tk => ms_none)⟩
  | n + 1 => by
    obtain ⟨d_find_split_number, d_find_tree_number⟩ := k_find_split_number_find_tree_number (P := P) (w := w) (base := base) W n
    have c_find_split_number := d_find_split_number.mono (show 3 + n + 1 ≤ 3 + n + 1 from Nat.le_refl _)
    have c_find_tree_number := d_find_tree_number.mono (show 3 + n + 1 ≤ 3 + n + 1 from Nat.le_refl _)
    have c_are_sure := (k_are_sure (P := P) (w := w) (base := base) W).mono (show 3 ≤ 3 + n + 1 by omega)
    have c_count_all := (k_count_all (P := P) (w := w) (base := base) W).mono (show 2 ≤ 3 + n + 1 by omega)
    have c_is_twins := (k_is_twins (P := P) (w := w) (base := base) W).mono (show 3 ≤ 3 + n + 1 by omega)
    have c_is_unknown := (k_is_unknown (P := P) (w := w) (base := base) W).mono (show 3 ≤ 3 + n + 1 by omega)
    have c_with_entry := (k_with_entry (P := P) (w := w) (base := base) W).mono (show 1 ≤ 3 + n + 1 by omega)
    exact ⟨kn_m (er := fun (v : ((List (Option (List Int))) × (List (List (Option Int))) × (List (List Int)) × PyData)) => [(eT (eO (eT eI))) v.1, (eT (eT (eO eI))) v.2.1, (eT (eT eI)) v.2.2.1, eA v.2.2.2]) (xr := (xV (eO eI))) W.f_find_split_number W.g_find_split_number sc_find_split_number (fun _ _ _ _ _ _ us hl => match us, hl with | [_, _, _, _], _ => rfl) (fun _ => rfl) (by decide) (Empty.elim) (fun s => nomatch s) (fun _ _ s => nomatch s) (b_find_split_number (m_find_split_number_find_tree_number n).1 (m_find_split_number_find_tree_number n).2) (fun _ _ s => nomatch s) (fun f cdv A outer s H g E' E0 v B p hr tk => by
        have nd := sc_find_split_number.nd
        unfold b_find_split_number
        exact (ms_asg (me_dec (me_slA (me_v 3 v.2.2.2) (mp_some me_int) mp_none) (cP3 cA cA cA)) (mg_tup3 4 5 6 (fun _ => nd)) (fun y1 => (ms_if (Cm := fun (s16 : Unit) => (⟨[(0, .p ((eT (eO (eT eI))) v.1)), (1, .p ((eT (eT (eO eI))) v.2.1)), (2, .p ((eT (eT eI)) v.2.2.1)), (3, .p (eA v.2.2.2)), (4, .p (eA y1.1)), (5, .p (eA y1.2.1)), (6, .p (eA y1.2.2))], [], [], p, 11, B⟩ : Ct)) (mt_not (mt_e (me_callV (fun _ => c_is_unknown) (fun _ => hr) (fun _ => tk) (ma_cons (me_v 0 v.1) (ma_cons (me_v 1 v.2.1) (ma_cons (me_v 4 y1.1) (ma_one (me_v 5 y1.2.1)))))))) (ms_ret id (fun _ => rfl) (me_none (ea := eI) me_non)) (ms_nil (s := ()) (sub_of (SubF.cons rfl (SubF.cons rfl (SubF.cons rfl (SubF.cons rfl (SubF.cons rfl (SubF.cons rfl (SubF.cons rfl SubF.nil))))))))) (fun s16 => (ms_if (Cm := fun (s30 : Unit) => (⟨[(0, .p ((eT (eO (eT eI))) v.1)), (1, .p ((eT (eT (eO eI))) v.2.1)), (2, .p ((eT (eT eI)) v.2.2.1)), (3, .p (eA v.2.2.2)), (4, .p (eA y1.1)), (5, .p (eA y1.2.1)), (6, .p (eA y1.2.2))], [], [], p, 11, B⟩ : Ct)) (mt_w (mw_or (mt_not (mt_e (me_isi "tuple" (fun _ => W.m_isinstance) (fun _ => W.m_tuple) (me_v 6 y1.2.2)))) (mw_or1 (mt_cmp (fun _ => opEq true hr.r.units) (re_eqT true qI (by decide) (me_lenA (fun _ => W.m_len) (me_v 6 y1.2.2)) (me_len sqT (fun _ => W.m_len) (me_get (me_ix sqT (me_v 0 v.1) (me_dec (me_v 5 y1.2.1) cI))))))))) (ms_ret id (fun _ => rfl) (me_none (ea := eI) me_non)) (ms_nil (s := ()) (sub_of (SubF.cons rfl (SubF.cons rfl (SubF.cons rfl (SubF.cons rfl (SubF.cons rfl (SubF.cons rfl (SubF.cons rfl SubF.nil))))))))) (fun s30 => (ms_set 7 (fun _ => nd) me_int (fun y32 => (ms_for (Cl := fun (s42 : Int) => (⟨[(0, .p ((eT (eO (eT eI))) v.1)), (1, .p ((eT (eT (eO eI))) v.2.1)), (2, .p ((eT (eT eI)) v.2.2.1)), (3, .p (eA v.2.2.2)), (4, .p (eA y1.1)), (5, .p (eA y1.2.1)), (6, .p (eA y1.2.2)), (7, .p (eI s42))], [], [], p, 11, B⟩ : Ct)) y32 (fun _ => passes_of rfl) (mi_zipA sqT (fun _ => W.m_zip) (me_get (me_ix sqT (me_v 0 v.1) (me_dec (me_v 5 y1.2.1) cI))) (me_v 6 y1.2.2)) (mg_tup2 8 9 (fun _ => nd)) (sub_of (SubF.cons rfl (SubF.cons rfl (SubF.cons rfl (SubF.cons rfl (SubF.cons rfl (SubF.cons rfl (SubF.cons rfl (SubF.cons rfl SubF.nil))))))))) (fun a41 s42 => (ms_set 10 (fun _ => nd) (me_callV (fun _ => c_find_tree_number) (fun _ => hr) (fun _ => tk) (ma_cons (me_v 0 v.1) (ma_cons (me_callV (fun _ => c_with_entry) (fun _ => hr) (fun _ => tk) (ma_cons (me_v 1 v.2.1) (ma_cons (me_dec (me_v 4 y1.1) cI) (ma_cons (me_dec (me_v 5 y1.2.1) cI) (ma_one (me_some (me_v 8 a41.1))))))) (ma_cons (me_v 2 v.2.2.1) (ma_one (me_v 9 a41.2)))))) (fun y43 => (ms_if (Cm := fun (s63 : Unit) => (⟨[(0, .p ((eT (eO (eT eI))) v.1)), (1, .p ((eT (eT (eO eI))) v.2.1)), (2, .p ((eT (eT eI)) v.2.2.1)), (3, .p (eA v.2.2.2)), (4, .p (eA y1.1)), (5, .p (eA y1.2.1)), (6, .p (eA y1.2.2)), (7, .p (eI s42)), (8, .p (eI a41.1)), (9, .p (eA a41.2)), (10, .p ((eO eI) y43))], [], [], p, 11, B⟩ : Ct)) (mt_isN (f := isNo) (isO noI) (me_v 10 y43)) (ms_ret id (fun _ => rfl) (me_none (ea := eI) me_non)) (ms_nil (s := ()) (sub_of (SubF.cons rfl (SubF.cons rfl (SubF.cons rfl (SubF.cons rfl (SubF.cons rfl (SubF.cons rfl (SubF.cons rfl (SubF.cons rfl (SubF.cons rfl (SubF.cons rfl (SubF.cons rfl SubF.nil))))))))))))) (fun s63 => (ms_set 7 (fun _ => nd) (me_addI (me_v 7 s42) (me_get (me_v 10 y43))) (fun y65 => (ms_nil (s := y65) (sub_of (SubF.cons rfl (SubF.cons rfl (SubF.cons rfl (SubF.cons rfl (SubF.cons rfl (SubF.cons rfl (SubF.cons rfl (SubF.cons rfl SubF.nil))))))))))))))))) (fun s42 => (ms_ret id (fun _ => rfl) (me_some (me_v 7 s42)))))))))))))),
      kn_m (er := fun (v : ((List (Option (List Int))) × (List (List (Option Int))) × (List (List Int)) × PyData)) => [(eT (eO (eT eI))) v.1, (eT (eT (eO eI))) v.2.1, (eT (eT eI)) v.2.2.1, eA v.2.2.2]) (xr := (xV (eO eI))) W.f_find_tree_number W.g_find_tree_number sc_find_tree_number (fun _ _ _ _ _ _ us hl => match us, hl with | [_, _, _, _], _ => rfl) (fun _ => rfl) (by decide) (Empty.elim) (fun s => nomatch s) (fun _ _ s => nomatch s) (b_find_tree_number (m_find_split_number_find_tree_number n).1 (m_find_split_number_find_tree_number n).2) (fun _ _ s => nomatch s) (fun f cdv A outer s H g E' E0 v B p hr tk => by
        have nd := sc_find_tree_number.nd
        unfold b_find_tree_number
        exact (ms_if (Cm := fun (s12 : Unit) => (⟨[(0, .p ((eT (eO (eT eI))) v.1)), (1, .p ((eT (eT (eO eI))) v.2.1)), (2, .p ((eT (eT eI)) v.2.2.1)), (3, .p (eA v.2.2.2))], [], [], p, 4, B⟩ : Ct)) (mt_w (mw_or (mt_not (mt_e (me_isi "tuple" (fun _ => W.m_isinstance) (fun _ => W.m_tuple) (me_v 3 v.2.2.2)))) (mw_or (mt_cmp (fun _ => opEq false hr.r.units) (re_eqA false (me_v 3 v.2.2.2) (me_lit (ml_tup mls_nil)))) (mw_or1 (mt_not (mt_e (me_isi "str" (fun _ => W.m_isinstance) (fun _ => W.m_str) (me_ixA (me_v 3 v.2.2.2) me_int)))))))) (ms_ret id (fun _ => rfl) (me_none (ea := eI) me_non)) (ms_nil (s := ()) (sub_of (SubF.cons rfl (SubF.cons rfl (SubF.cons rfl (SubF.cons rfl SubF.nil)))))) (fun s12 => (ms_if (Cm := fun (s20 : Unit) => (⟨[(0, .p ((eT (eO (eT eI))) v.1)), (1, .p ((eT (eT (eO eI))) v.2.1)), (2, .p ((eT (eT eI)) v.2.2.1)), (3, .p (eA v.2.2.2))], [], [], p, 4, B⟩ : Ct)) (mt_cmp (fun _ => opEq false hr.r.units) (re_eqA false (me_ixA (me_v 3 v.2.2.2) me_int) (me_any me_str))) (ms_ret id (fun _ => rfl) (me_if (mt_e (me_callV (fun _ => c_is_twins) (fun _ => hr) (fun _ => tk) (ma_cons (me_v 1 v.2.1) (ma_cons (me_v 2 v.2.2.1) (ma_one (me_v 3 v.2.2.2)))))) (me_some me_int) (me_none (ea := eI) me_non))) (ms_nil (s := ()) (sub_of (SubF.cons rfl (SubF.cons rfl (SubF.cons rfl (SubF.cons rfl SubF.nil)))))) (fun s20 => (ms_if (Cm := fun (s35 : Unit) => (⟨[(0, .p ((eT (eO (eT eI))) v.1)), (1, .p ((eT (eT (eO eI))) v.2.1)), (2, .p ((eT (eT eI)) v.2.2.1)), (3, .p (eA v.2.2.2))], [], [], p, 4, B⟩ : Ct)) (mt_cmp (fun _ => opEq false hr.r.units) (re_eqA false (me_ixA (me_v 3 v.2.2.2) me_int) (me_any me_str))) (ms_ret id (fun _ => rfl) (me_if (mt_w (mw_and (mt_cmp (fun _ => opEq false hr.r.units) (re_eqT false qI (by decide) (me_lenA (fun _ => W.m_len) (me_v 3 v.2.2.2)) me_int)) (mw_and1 (mt_e (me_callV (fun _ => c_are_sure) (fun _ => hr) (fun _ => tk) (ma_cons (me_v 1 v.2.1) (ma_one (me_v 2 v.2.2.1)))))))) (me_some (me_callV (fun _ => c_count_all) (fun _ => hr) (fun _ => tk) (ma_cons (me_v 0 v.1) (ma_one (me_v 1 v.2.1))))) (me_none (ea := eI) me_non))) (ms_nil (s := ()) (sub_of (SubF.cons rfl (SubF.cons rfl (SubF.cons rfl (SubF.cons rfl SubF.nil)))))) (fun s35 => (ms_if (Cm := fun (s59 : Unit) => (⟨[(0, .p ((eT (eO (eT eI))) v.1)), (1, .p ((eT (eT (eO eI))) v.2.1)), (2, .p ((eT (eT eI)) v.2.2.1)), (3, .p (eA v.2.2.2))], [], [], p, 4, B⟩ : Ct)) (mt_w (mw_or (mt_cmp (fun _ => opEq true hr.r.units) (re_eqA true (me_ixA (me_v 3 v.2.2.2) me_int) (me_any me_str))) (mw_or1 (mt_cmp (fun _ => opEq true hr.r.units) (re_eqT true qI (by decide) (me_lenA (fun _ => W.m_len) (me_v 3 v.2.2.2)) me_int))))) (ms_ret id (fun _ => rfl) (me_none (ea := eI) me_non)) (ms_nil (s := ()) (sub_of (SubF.cons rfl (SubF.cons rfl (SubF.cons rfl (SubF.cons rfl SubF.nil)))))) (fun s59 => (ms_ret id (fun _ => rfl) (me_callV (fun _ => c_find_split_number) (fun _ => hr) (fun _ => tk) (ma_cons (me_v 0 v.1) (ma_cons (me_v 1 v.2.1) (ma_cons (me_v 2 v.2.2.1) (ma_one (me_v 3 v.2.2.2))))))))))))))))⟩
theorem k_find_split_number {P : Program} {w : World} {K : PySem.W.Frag} {mg : Str → Option Value} {base : Heap} (W : Wd K mg) (n : Nat) : Kn P w K mg base (3 + n + 1) "find_split_number" (spM K (fun (v : ((List (Option (List Int))) × (List (List (Option Int))) × (List (List Int)) × PyData)) => [(eT (eO (eT eI))) v.1, (eT (eT (eO eI))) v.2.1, (eT (eT eI)) v.2.2.1, eA v.2.2.2]) (m_find_split_number n) (xV (eO eI))) := (k_find_split_number_find_tree_number W n).1
theorem k_find_tree_number {P : Program} {w : World} {K : PySem.W.Frag} {mg : Str → Option Value} {base : Heap} (W : Wd K mg) (n : Nat) : Kn P w K mg base (3 + n + 1) "find_tree_number" (spM K (fun (v : ((List (Option (List Int))) × (List (List (Option Int))) × (List (List Int)) × PyData)) => [(eT (eO (eT eI))) v.1, (eT (eT (eO eI))) v.2.1, (eT (eT eI)) v.2.2.1, eA v.2.2.2]) (m_find_tree_number n) (xV (eO eI))) := (k_find_split_number_find_tree_number W n).2
end Q92
end
section
set_option maxHeartbeats 4000000
namespace Q92
open PySem PySem.Spec PyProof.Rows L2 SK
/-! ### find_count -/
theorem sc_find_count : FnScope ["columns", "table", "demand"] ["columns", "table", "demand"] (defScope S_find_count) := ⟨rfl, rfl, rfl, by decide +kernel, rfl, by decide +kernel, by decide +kernel⟩
def b_find_count (v : ((List (Option (List Int))) × (List (List (Option Int))) × (List (List Int)))) : Mk false (Out Empty (Option Int)) := (bk false (bk false (bk false (pk false v.1) fun x1 => (bk false (pk false v.2.1) fun x2 => (pk false (x1, x2)))) fun v3 => (lk false (m_is_endless v3))) fun x4 => ob false (if x4 = true then (bk false (bk false (bk false (bk false (bk false (pk false v.1) fun x9 => (bk false (bk false (pk false v.2.1) fun x7 => (bk false (pk false v.2.2) fun x8 => (pk false (x7, x8)))) fun x10 => (pk false (x9, x10)))) fun v11 => (lk false (m_find_common v11))) fun x12 => (pk false (isNo x12))) fun x14 => if x14 = true then (bk false (pk false (0 : Int)) fun x13 => (pk false (some x13))) else (bk false (pk false ()) fun _ => (pk false (none : (Option Int))))) fun x6 => (pk false (Out.rt (id x6)))) else (pk false (Out.nx ()))) fun (s5 : Unit) => (bk false (bk false (bk false (pk false v.1) fun x25 => (bk false (bk false (pk false v.2.1) fun x23 => (bk false (bk false (pk false v.2.2) fun x21 => (bk false (bk false (bk false (pk false v.1) fun x18 => (bk false (bk false (pk false v.2.1) fun x16 => (bk false (pk false v.2.2) fun x17 => (pk false (x16, x17)))) fun x19 => (pk false (x18, x19)))) fun v20 => (lk false ((m_find_count_tree 10) v20))) fun x22 => (pk false (x21, x22)))) fun x24 => (pk false (x23, x24)))) fun x26 => (pk false (x25, x26)))) fun v27 => (lk false ((m_find_tree_number 16) v27))) fun x15 => (pk false (Out.rt (id x15)))))
def m_find_count (v : ((List (Option (List Int))) × (List (List (Option Int))) × (List (List Int)))) : Mk false (Option Int) := exO false (Empty.elim) (b_find_count v)
theorem k_find_count {P : Program} {w : World} {K : PySem.W.Frag} {mg : Str → Option Value} {base : Heap} (W : Wd K mg) : Kn P w K mg base 21 "find_count" (spM K (fun (v : ((List (Option (List Int))) × (List (List (Option Int))) × (List (List Int)))) => [(eT (eO (eT eI))) v.1, (eT (eT (eO eI))) v.2.1, (eT (eT eI)) v.2.2]) m_find_count (xV (eO eI))) :=
  kn_m (er := fun (v : ((List (Option (List Int))) × (List (List (Option Int))) × (List (List Int)))) => [(eT (eO (eT eI))) v.1, (eT (eT (eO eI))) v.2.1, (eT (eT eI)) v.2.2]) (xr := (xV (eO eI))) W.f_find_count W.g_find_count sc_find_count (fun _ _ _ _ _ _ us hl => match us, hl with | [_, _, _], _ => rfl) (fun _ => rfl) (by decide) (Empty.elim) (fun s => nomatch s) (fun _ _ s => nomatch s) b_find_count (fun _ _ s => nomatch s) (fun f cdv A outer s H g E' E0 v B p hr tk => by
    have nd := sc_find_count.nd
    have c_find_common := (k_find_common (P := P) (w := w) (base := base) W).mono (show 14 ≤ 20 by decide)
    have c_find_count_tree := (k_find_count_tree (P := P) (w := w) (base := base) W 10).mono (show 4 + 10 ≤ 20 by decide)
    have c_find_tree_number := (k_find_tree_number (P := P) (w := w) (base := base) W 16).mono (show 4 + 16 ≤ 20 by decide)
    have c_is_endless := (k_is_endless (P := P) (w := w) (base := base) W).mono (show 2 ≤ 20 by decide)
    unfold b_find_count
    exact (ms_if (Cm := fun (s5 : Unit) => (⟨[(0, .p ((eT (eO (eT eI))) v.1)), (1, .p ((eT (eT (eO eI))) v.2.1)), (2, .p ((eT (eT eI)) v.2.2))], [], [], p, 3, B⟩ : Ct)) (mt_e (me_callV (fun _ => c_is_endless) (fun _ => hr) (fun _ => tk) (ma_cons (me_v 0 v.1) (ma_one (me_v 1 v.2.1))))) (ms_ret id (fun _ => rfl) (me_if (mt_isN (f := isNo) (isO noT) (me_callV (fun _ => c_find_common) (fun _ => hr) (fun _ => tk) (ma_cons (me_v 0 v.1) (ma_cons (me_v 1 v.2.1) (ma_one (me_v 2 v.2.2)))))) (me_some me_int) (me_none (ea := eI) me_non))) (ms_nil (s := ()) (sub_of (SubF.cons rfl (SubF.cons rfl (SubF.cons rfl SubF.nil))))) (fun s5 => (ms_ret id (fun _ => rfl) (me_callV (fun _ => c_find_tree_number) (fun _ => hr) (fun _ => tk) (ma_cons (me_v 0 v.1) (ma_cons (me_v 1 v.2.1) (ma_cons (me_v 2 v.2.2) (ma_one (me_callV (fun _ => c_find_count_tree) (fun _ => hr) (fun _ => tk) (ma_cons (me_v 0 v.1) (ma_cons (me_v 1 v.2.1) (ma_one (me_v 2 v.2.2))))))))))))))
end Q92
end
section
set_option maxHeartbeats 4000000
namespace Q92
open PySem PySem.Spec PyProof.Rows L2 SK
/-! ### kept_count -/
theorem sc_kept_count : FnScope ["columns", "table", "demand"] ["columns", "table", "demand"] (defScope S_kept_count) := ⟨rfl, rfl, rfl, by decide +kernel, rfl, by decide +kernel, by decide +kernel⟩
def b_kept_count (v : (PyData × PyData × PyData)) : Mk false (Out Empty (Res (Option Int))) := (rb false Res.er (bk false (bk false (pk false v.1) fun x1 => (bk false (pk false v.2.1) fun x2 => (pk false (x1, x2)))) fun v3 => (lk false (m_require_table v3))) fun _ => (rb false Res.er (bk false (bk false (bk false (pk false v.1) fun x4 => (lk false ((SK.dT (SK.dO (SK.dT dI))) x4))) fun x5 => (bk false (pk false v.2.2) fun x6 => (pk false (x5, x6)))) fun v7 => (lk false (m_require_demand v7))) fun _ => (bk false (bk false (bk false (bk false (pk false v.1) fun x9 => (lk false ((SK.dT (SK.dO (SK.dT dI))) x9))) fun x14 => (bk false (bk false (bk false (pk false v.2.1) fun x10 => (lk false ((SK.dT (SK.dT (SK.dO dI))) x10))) fun x12 => (bk false (bk false (pk false v.2.2) fun x11 => (lk false ((SK.dT (SK.dT dI)) x11))) fun x13 => (pk false (x12, x13)))) fun x15 => (pk false (x14, x15)))) fun v16 => (lk false (m_find_count v16))) fun x8 => (pk false (Out.rt (Res.ok x8))))))
def m_kept_count (v : (PyData × PyData × PyData)) : Mk false (Res (Option Int)) := exO false (Empty.elim) (b_kept_count v)
theorem k_kept_count {P : Program} {w : World} {K : PySem.W.Frag} {mg : Str → Option Value} {base : Heap} (W : Wd K mg) : Kn P w K mg base 22 "kept_count" (spM K (fun (v : (PyData × PyData × PyData)) => [eA v.1, eA v.2.1, eA v.2.2]) m_kept_count (xR (eO eI))) :=
  kn_m (er := fun (v : (PyData × PyData × PyData)) => [eA v.1, eA v.2.1, eA v.2.2]) (xr := (xR (eO eI))) W.f_kept_count W.g_kept_count sc_kept_count (fun _ _ _ _ _ _ us hl => match us, hl with | [_, _, _], _ => rfl) (fun _ => rfl) (by decide) (Empty.elim) (fun s => nomatch s) (fun _ _ s => nomatch s) b_kept_count (fun _ _ s => nomatch s) (fun f cdv A outer s H g E' E0 v B p hr tk => by
    have nd := sc_kept_count.nd
    have c_find_count := (k_find_count (P := P) (w := w) (base := base) W).mono (show 21 ≤ 21 by decide)
    have c_require_demand := (k_require_demand (P := P) (w := w) (base := base) W).mono (show 6 ≤ 21 by decide)
    have c_require_table := (k_require_table (P := P) (w := w) (base := base) W).mono (show 6 ≤ 21 by decide)
    unfold b_kept_count
    exact (ms_exprE Res.er (fun _ => rfl) (mr_callR (fun _ => c_require_table) (fun _ => hr) (fun _ => tk) (ma_cons (me_v 0 v.1) (ma_one (me_v 1 v.2.1)))) (fun _ => (ms_exprE Res.er (fun _ => rfl) (mr_callR (fun _ => c_require_demand) (fun _ => hr) (fun _ => tk) (ma_cons (me_dec (me_v 0 v.1) (cT (cO (cT cI)))) (ma_one (me_v 2 v.2.2)))) (fun _ => (ms_ret Res.ok (fun _ => rfl) (me_callV (fun _ => c_find_count) (fun _ => hr) (fun _ => tk) (ma_cons (me_dec (me_v 0 v.1) (cT (cO (cT cI)))) (ma_cons (me_dec (me_v 1 v.2.1) (cT (cT (cO cI)))) (ma_one (me_dec (me_v 2 v.2.2) (cT (cT cI)))))))))))))
end Q92
end
section
set_option maxHeartbeats 4000000
namespace Q92
open PySem PySem.Spec PyProof.Rows L2 SK
/-! ### count_tree -/
theorem sc_count_tree : FnScope ["columns", "table", "demand"] ["columns", "table", "demand"] (defScope S_count_tree) := ⟨rfl, rfl, rfl, by decide +kernel, rfl, by decide +kernel, by decide +kernel⟩
def b_count_tree (v : (PyData × PyData × PyData)) : Mk false (Out Empty (Res PyData)) := (rb false Res.er (bk false (bk false (pk false v.1) fun x1 => (bk false (pk false v.2.1) fun x2 => (pk false (x1, x2)))) fun v3 => (lk false (m_require_table v3))) fun _ => (rb false Res.er (bk false (bk false (bk false (pk false v.1) fun x4 => (lk false ((SK.dT (SK.dO (SK.dT dI))) x4))) fun x5 => (bk false (pk false v.2.2) fun x6 => (pk false (x5, x6)))) fun v7 => (lk false (m_require_demand v7))) fun _ => (bk false (bk false (bk false (bk false (bk false (pk false v.1) fun x9 => (lk false ((SK.dT (SK.dO (SK.dT dI))) x9))) fun x11 => (bk false (bk false (pk false v.2.1) fun x10 => (lk false ((SK.dT (SK.dT (SK.dO dI))) x10))) fun x12 => (pk false (x11, x12)))) fun v13 => (lk false (m_is_endless v13))) fun x22 => if x22 = true then (pk false PyData.none) else (bk false (bk false (bk false (pk false v.1) fun x14 => (lk false ((SK.dT (SK.dO (SK.dT dI))) x14))) fun x19 => (bk false (bk false (bk false (pk false v.2.1) fun x15 => (lk false ((SK.dT (SK.dT (SK.dO dI))) x15))) fun x17 => (bk false (bk false (pk false v.2.2) fun x16 => (lk false ((SK.dT (SK.dT dI)) x16))) fun x18 => (pk false (x17, x18)))) fun x20 => (pk false (x19, x20)))) fun v21 => (lk false ((m_find_count_tree 10) v21)))) fun x8 => (pk false (Out.rt (Res.ok x8))))))
def m_count_tree (v : (PyData × PyData × PyData)) : Mk false (Res PyData) := exO false (Empty.elim) (b_count_tree v)
theorem k_count_tree {P : Program} {w : World} {K : PySem.W.Frag} {mg : Str → Option Value} {base : Heap} (W : Wd K mg) : Kn P w K mg base 15 "count_tree" (spM K (fun (v : (PyData × PyData × PyData)) => [eA v.1, eA v.2.1, eA v.2.2]) m_count_tree (xR eA)) :=
  kn_m (er := fun (v : (PyData × PyData × PyData)) => [eA v.1, eA v.2.1, eA v.2.2]) (xr := (xR eA)) W.f_count_tree W.g_count_tree sc_count_tree (fun _ _ _ _ _ _ us hl => match us, hl with | [_, _, _], _ => rfl) (fun _ => rfl) (by decide) (Empty.elim) (fun s => nomatch s) (fun _ _ s => nomatch s) b_count_tree (fun _ _ s => nomatch s) (fun f cdv A outer s H g E' E0 v B p hr tk => by
    have nd := sc_count_tree.nd
    have c_find_count_tree := (k_find_count_tree (P := P) (w := w) (base := base) W 10).mono (show 4 + 10 ≤ 14 by decide)
    have c_is_endless := (k_is_endless (P := P) (w := w) (base := base) W).mono (show 2 ≤ 14 by decide)
    have c_require_demand := (k_require_demand (P := P) (w := w) (base := base) W).mono (show 6 ≤ 14 by decide)
    have c_require_table := (k_require_table (P := P) (w := w) (base := base) W).mono (show 6 ≤ 14 by decide)
    unfold b_count_tree
    exact (ms_exprE Res.er (fun _ => rfl) (mr_callR (fun _ => c_require_table) (fun _ => hr) (fun _ => tk) (ma_cons (me_v 0 v.1) (ma_one (me_v 1 v.2.1)))) (fun _ => (ms_exprE Res.er (fun _ => rfl) (mr_callR (fun _ => c_require_demand) (fun _ => hr) (fun _ => tk) (ma_cons (me_dec (me_v 0 v.1) (cT (cO (cT cI)))) (ma_one (me_v 2 v.2.2)))) (fun _ => (ms_ret Res.ok (fun _ => rfl) (me_if (mt_e (me_callV (fun _ => c_is_endless) (fun _ => hr) (fun _ => tk) (ma_cons (me_dec (me_v 0 v.1) (cT (cO (cT cI)))) (ma_one (me_dec (me_v 1 v.2.1) (cT (cT (cO cI)))))))) (me_lit ml_non) (me_callV (fun _ => c_find_count_tree) (fun _ => hr) (fun _ => tk) (ma_cons (me_dec (me_v 0 v.1) (cT (cO (cT cI)))) (ma_cons (me_dec (me_v 1 v.2.1) (cT (cT (cO cI)))) (ma_one (me_dec (me_v 2 v.2.2) (cT (cT cI))))))))))))))
end Q92
end
section
set_option maxHeartbeats 4000000
namespace Q92
open PySem PySem.Spec PyProof.Rows L2 SK
/-! ### tree_number -/
theorem sc_tree_number : FnScope ["columns", "table", "demand", "value"] ["columns", "table", "demand", "value"] (defScope S_tree_number) := ⟨rfl, rfl, rfl, by decide +kernel, rfl, by decide +kernel, by decide +kernel⟩
def b_tree_number (v : (PyData × PyData × PyData × PyData)) : Mk false (Out Empty (Res (Option Int))) := (rb false Res.er (bk false (bk false (pk false v.1) fun x1 => (bk false (pk false v.2.1) fun x2 => (pk false (x1, x2)))) fun v3 => (lk false (m_require_table v3))) fun _ => (rb false Res.er (bk false (bk false (bk false (pk false v.1) fun x4 => (lk false ((SK.dT (SK.dO (SK.dT dI))) x4))) fun x5 => (bk false (pk false v.2.2.1) fun x6 => (pk false (x5, x6)))) fun v7 => (lk false (m_require_demand v7))) fun _ => (bk false (bk false (bk false (bk false (bk false (pk false v.1) fun x9 => (lk false ((SK.dT (SK.dO (SK.dT dI))) x9))) fun x11 => (bk false (bk false (pk false v.2.1) fun x10 => (lk false ((SK.dT (SK.dT (SK.dO dI))) x10))) fun x12 => (pk false (x11, x12)))) fun v13 => (lk false (m_is_endless v13))) fun x24 => if x24 = true then (bk false (pk false ()) fun _ => (pk false (none : (Option Int)))) else (bk false (bk false (bk false (pk false v.1) fun x14 => (lk false ((SK.dT (SK.dO (SK.dT dI))) x14))) fun x21 => (bk false (bk false (bk false (pk false v.2.1) fun x15 => (lk false ((SK.dT (SK.dT (SK.dO dI))) x15))) fun x19 => (bk false (bk false (bk false (pk false v.2.2.1) fun x16 => (lk false ((SK.dT (SK.dT dI)) x16))) fun x17 => (bk false (pk false v.2.2.2) fun x18 => (pk false (x17, x18)))) fun x20 => (pk false (x19, x20)))) fun x22 => (pk false (x21, x22)))) fun v23 => (lk false ((m_find_tree_number 16) v23)))) fun x8 => (pk false (Out.rt (Res.ok x8))))))
def m_tree_number (v : (PyData × PyData × PyData × PyData)) : Mk false (Res (Option Int)) := exO false (Empty.elim) (b_tree_number v)
theorem k_tree_number {P : Program} {w : World} {K : PySem.W.Frag} {mg : Str → Option Value} {base : Heap} (W : Wd K mg) : Kn P w K mg base 21 "tree_number" (spM K (fun (v : (PyData × PyData × PyData × PyData)) => [eA v.1, eA v.2.1, eA v.2.2.1, eA v.2.2.2]) m_tree_number (xR (eO eI))) :=
  kn_m (er := fun (v : (PyData × PyData × PyData × PyData)) => [eA v.1, eA v.2.1, eA v.2.2.1, eA v.2.2.2]) (xr := (xR (eO eI))) W.f_tree_number W.g_tree_number sc_tree_number (fun _ _ _ _ _ _ us hl => match us, hl with | [_, _, _, _], _ => rfl) (fun _ => rfl) (by decide) (Empty.elim) (fun s => nomatch s) (fun _ _ s => nomatch s) b_tree_number (fun _ _ s => nomatch s) (fun f cdv A outer s H g E' E0 v B p hr tk => by
    have nd := sc_tree_number.nd
    have c_find_tree_number := (k_find_tree_number (P := P) (w := w) (base := base) W 16).mono (show 4 + 16 ≤ 20 by decide)
    have c_is_endless := (k_is_endless (P := P) (w := w) (base := base) W).mono (show 2 ≤ 20 by decide)
    have c_require_demand := (k_require_demand (P := P) (w := w) (base := base) W).mono (show 6 ≤ 20 by decide)
    have c_require_table := (k_require_table (P := P) (w := w) (base := base) W).mono (show 6 ≤ 20 by decide)
    unfold b_tree_number
    exact (ms_exprE Res.er (fun _ => rfl) (mr_callR (fun _ => c_require_table) (fun _ => hr) (fun _ => tk) (ma_cons (me_v 0 v.1) (ma_one (me_v 1 v.2.1)))) (fun _ => (ms_exprE Res.er (fun _ => rfl) (mr_callR (fun _ => c_require_demand) (fun _ => hr) (fun _ => tk) (ma_cons (me_dec (me_v 0 v.1) (cT (cO (cT cI)))) (ma_one (me_v 2 v.2.2.1)))) (fun _ => (ms_ret Res.ok (fun _ => rfl) (me_if (mt_e (me_callV (fun _ => c_is_endless) (fun _ => hr) (fun _ => tk) (ma_cons (me_dec (me_v 0 v.1) (cT (cO (cT cI)))) (ma_one (me_dec (me_v 1 v.2.1) (cT (cT (cO cI)))))))) (me_none (ea := eI) me_non) (me_callV (fun _ => c_find_tree_number) (fun _ => hr) (fun _ => tk) (ma_cons (me_dec (me_v 0 v.1) (cT (cO (cT cI)))) (ma_cons (me_dec (me_v 1 v.2.1) (cT (cT (cO cI)))) (ma_cons (me_dec (me_v 2 v.2.2.1) (cT (cT cI))) (ma_one (me_v 3 v.2.2.2)))))))))))))
end Q92
end
section
set_option maxHeartbeats 4000000
namespace Q92
open PySem PySem.Spec PyProof.Rows L2 SK
/-! ### value_counts -/
theorem sc_value_counts : FnScope ["columns", "table", "demand", "found", "i", "column", "value", "number"] ["columns", "table", "demand"] (defScope S_value_counts) := ⟨rfl, rfl, rfl, by decide +kernel, rfl, by decide +kernel, by decide +kernel⟩
def b_value_counts (v : (PyData × PyData × PyData)) : Mk false (Out Empty (Res (List (Int × Int × Int × (Option Int))))) := (rb false Res.er (bk false (bk false (pk false v.1) fun x1 => (bk false (pk false v.2.1) fun x2 => (pk false (x1, x2)))) fun v3 => (lk false (m_require_table v3))) fun _ => (rb false Res.er (bk false (bk false (bk false (pk false v.1) fun x4 => (lk false ((SK.dT (SK.dO (SK.dT dI))) x4))) fun x5 => (bk false (pk false v.2.2) fun x6 => (pk false (x5, x6)))) fun v7 => (lk false (m_require_demand v7))) fun _ => (bk false (bk false (pk false ()) fun _ => (pk false ([] : List (Int × Int × Int × (Option Int))))) fun (l8 : List (Int × Int × Int × (Option Int))) => (bk false (bk false (bk false (bk false (pk false v.2.1) fun x9 => (lk false ((SK.dT (SK.dT (SK.dO dI))) x9))) fun v10 => (lk false (m_find_unknown v10))) fun x11 => (pk false x11)) fun l51 => ob false (forM false (fun (a12 : (Int × Int)) (s13 : List (Int × Int × Int × (Option Int))) => (bk false (bk false (bk false (pk false v.1) fun x14 => (bk false (pk false a12.2) fun x15 => (lk false (pAt x14 x15)))) fun x16 => (pk false (!noneP x16))) fun x17 => if x17 = true then (bk false (bk false (bk false (pk false v.1) fun x18 => (bk false (pk false a12.2) fun x19 => (lk false (pAt x18 x19)))) fun x20 => (lk false (pItems x20))) fun l49 => ob false (forM false (fun (a21 : PyData) (s22 : List (Int × Int × Int × (Option Int))) => (bk false (bk false (bk false (bk false (pk false v.1) fun x24 => (lk false ((SK.dT (SK.dO (SK.dT dI))) x24))) fun x37 => (bk false (bk false (bk false (bk false (bk false (pk false v.2.1) fun x25 => (lk false ((SK.dT (SK.dT (SK.dO dI))) x25))) fun x31 => (bk false (bk false (pk false a12.1) fun x29 => (bk false (bk false (pk false a12.2) fun x27 => (bk false (bk false (pk false a21) fun x26 => (lk false ((SK.dO dI) x26))) fun x28 => (pk false (x27, x28)))) fun x30 => (pk false (x29, x30)))) fun x32 => (pk false (x31, x32)))) fun v33 => (lk false (m_with_entry v33))) fun x35 => (bk false (bk false (pk false v.2.2) fun x34 => (lk false ((SK.dT (SK.dT dI)) x34))) fun x36 => (pk false (x35, x36)))) fun x38 => (pk false (x37, x38)))) fun v39 => (lk false (m_find_count v39))) fun (y23 : (Option Int)) => (bk false (bk false (pk false a12.1) fun x46 => (bk false (bk false (pk false a12.2) fun x44 => (bk false (bk false (bk false (pk false a21) fun x41 => (lk false (dI x41))) fun x42 => (bk false (pk false y23) fun x43 => (pk false (x42, x43)))) fun x45 => (pk false (x44, x45)))) fun x47 => (pk false (x46, x47)))) fun x48 => (bk false (lk false (oApp s22 x48)) fun (l40 : List (Int × Int × Int × (Option Int))) => (pk false (Out.nx l40)))))) l49 s13) fun (s22 : List (Int × Int × Int × (Option Int))) => (pk false (Out.nx s22))) else (pk false (Out.nx s13)))) l51 l8) fun (s13 : List (Int × Int × Int × (Option Int))) => (pk false (Out.rt (Res.ok s13)))))))
def m_value_counts (v : (PyData × PyData × PyData)) : Mk false (Res (List (Int × Int × Int × (Option Int)))) := exO false (Empty.elim) (b_value_counts v)
theorem k_value_counts {P : Program} {w : World} {K : PySem.W.Frag} {mg : Str → Option Value} {base : Heap} (W : Wd K mg) : Kn P w K mg base 22 "value_counts" (spM K (fun (v : (PyData × PyData × PyData)) => [eA v.1, eA v.2.1, eA v.2.2]) m_value_counts (xRL (eP4 eI eI eI (eO eI)))) :=
  kn_m (er := fun (v : (PyData × PyData × PyData)) => [eA v.1, eA v.2.1, eA v.2.2]) (xr := (xRL (eP4 eI eI eI (eO eI)))) W.f_value_counts W.g_value_counts sc_value_counts (fun _ _ _ _ _ _ us hl => match us, hl with | [_, _, _], _ => rfl) (fun _ => rfl) (by decide) (Empty.elim) (fun s => nomatch s) (fun _ _ s => nomatch s) b_value_counts (fun _ _ s => nomatch s) (fun f cdv A outer s H g E' E0 v B p hr tk => by
    have nd := sc_value_counts.nd
    have c_find_count := (k_find_count (P := P) (w := w) (base := base) W).mono (show 21 ≤ 21 by decide)
    have c_find_unknown := (k_find_unknown (P := P) (w := w) (base := base) W).mono (show 1 ≤ 21 by decide)
    have c_require_demand := (k_require_demand (P := P) (w := w) (base := base) W).mono (show 6 ≤ 21 by decide)
    have c_require_table := (k_require_table (P := P) (w := w) (base := base) W).mono (show 6 ≤ 21 by decide)
    have c_with_entry := (k_with_entry (P := P) (w := w) (base := base) W).mono (show 1 ≤ 21 by decide)
    unfold b_value_counts
    exact (ms_exprE Res.er (fun _ => rfl) (mr_callR (fun _ => c_require_table) (fun _ => hr) (fun _ => tk) (ma_cons (me_v 0 v.1) (ma_one (me_v 1 v.2.1)))) (fun _ => (ms_exprE Res.er (fun _ => rfl) (mr_callR (fun _ => c_require_demand) (fun _ => hr) (fun _ => tk) (ma_cons (me_dec (me_v 0 v.1) (cT (cO (cT cI)))) (ma_one (me_v 2 v.2.2)))) (fun _ => (ms_setN 3 (fun _ => nd) (mn_F (mf_as (f := fun _ => ([] : List (Int × Int × Int × (Option Int)))) (er' := fun l => l.map (eP4 eI eI eI (eO eI))) (mf_lst ma_nil) (fun _ => rfl))) (fun l8 => (ms_for (Cl := fun (s13 : List (Int × Int × Int × (Option Int))) => (⟨[(0, .p (eA v.1)), (1, .p (eA v.2.1)), (2, .p (eA v.2.2))], [(3, false, vL (eP4 eI eI eI (eO eI)) s13)], [], p, 8, B⟩ : Ct)) l8 (fun _ => passes_of rfl) (mi_seq sqL (me_enc (eb := (eL (eP2 eI eI))) (me_N (mn_callV (fun _ => c_find_unknown) (fun _ => hr) (fun _ => tk) (ma_one (me_dec (me_v 1 v.2.1) (cT (cT (cO cI))))))))) (mg_tup2 4 5 (fun _ => nd)) (sub_of (SubF.cons rfl (SubF.cons rfl (SubF.cons rfl SubF.nil)))) (fun a12 s13 => (ms_ifl (mt_isnotN (f := noneP) isA (me_ixA (me_v 0 v.1) (me_v 5 a12.2))) (ms_for (Cl := fun (s22 : List (Int × Int × Int × (Option Int))) => (⟨[(0, .p (eA v.1)), (1, .p (eA v.2.1)), (2, .p (eA v.2.2)), (4, .p (eI a12.1)), (5, .p (eI a12.2))], [(3, false, vL (eP4 eI eI eI (eO eI)) s22)], [], p, 8, B⟩ : Ct)) s13 (fun _ => passes_of rfl) (mi_any (me_ixA (me_v 0 v.1) (me_v 5 a12.2))) (mg_name 6 (fun _ => nd)) (sub_of (SubF.cons rfl (SubF.cons rfl (SubF.cons rfl (SubF.cons rfl (SubF.cons rfl SubF.nil)))))) (fun a21 s22 => (ms_set 7 (fun _ => nd) (me_callV (fun _ => c_find_count) (fun _ => hr) (fun _ => tk) (ma_cons (me_dec (me_v 0 v.1) (cT (cO (cT cI)))) (ma_cons (me_callV (fun _ => c_with_entry) (fun _ => hr) (fun _ => tk) (ma_cons (me_dec (me_v 1 v.2.1) (cT (cT (cO cI)))) (ma_cons (me_v 4 a12.1) (ma_cons (me_v 5 a12.2) (ma_one (me_dec (me_v 6 a21) (cO cI))))))) (ma_one (me_dec (me_v 2 v.2.2) (cT (cT cI))))))) (fun y23 => (ms_append 3 (me_enc (eb := (eP4 eI eI eI (eO eI))) (me_tup (ma_cons (me_v 4 a12.1) (ma_cons (me_v 5 a12.2) (ma_cons (me_dec (me_v 6 a21) cI) (ma_one (me_v 7 y23))))))) (fun l40 => (ms_nil (s := l40) (sub_of (SubF.cons rfl (SubF.cons rfl (SubF.cons rfl (SubF.cons rfl (SubF.cons rfl SubF.nil)))))))))))) (fun s22 => (ms_nil (s := s22) (sub_of (SubF.cons rfl (SubF.cons rfl (SubF.cons rfl SubF.nil))))))) (ms_nil (s := s13) (sub_of (SubF.cons rfl (SubF.cons rfl (SubF.cons rfl SubF.nil))))))) (fun s13 => (ms_retO 3 Res.ok (fun _ => rfl)))))))))))
end Q92
end
section
set_option maxHeartbeats 4000000
namespace Q92
open PySem PySem.Spec PyProof.Rows L2 SK
/-! ### _law_spread -/
theorem sc__law_spread : FnScope ["cell", "at", "primes", "mixed", "one", "rest", "two", "three"] ["cell", "at"] (defScope S__law_spread) := ⟨rfl, rfl, rfl, by decide +kernel, rfl, by decide +kernel, by decide +kernel⟩
theorem k__law_spread {P : Program} {w : World} {K : PySem.W.Frag} {mg : Str → Option Value} {base : Heap} (W : Wd K mg) : Kn P w K mg base 1 "_law_spread" (sp__law_spread) := by
  refine kn_mk (sp := sp__law_spread) W.f__law_spread W.g__law_spread sc__law_spread (fun _ _ _ _ _ _ us hl => match us, hl with | [_, _], _ => rfl) (fun ds g Q E hsp => by obtain ⟨c, a, rfl, _⟩ := hsp; rfl) (fun f cdv A outer s H g ds Q E E' hr hsp tk => ?_)
  have nd := sc__law_spread.nd
  obtain ⟨c, a, rfl, ha, hb, hq⟩ := hsp
  refine ⟨_, (qs_cons (qs_if (qt_cmp d_ge (qv 0) (q_op d_pow qc_int qc_int)) (qs_one (qs_ret (qv 0))) qs_nil)
      (qs_cons (qs_set 2 nd (QF.qe (q_lst (qa_cons qc_int (qa_cons qc_int (qa_cons qc_int (qa_cons qc_int (qa_cons qc_int (qa_cons qc_int (qa_cons qc_int qa_nil))))))))))
      (qs_cons (qs_set 2 nd (q_op d_add (qv 2) (QF.qe (q_lst (qa_cons qc_int (qa_cons qc_int (qa_cons qc_int (qa_cons qc_int (qa_cons qc_int (qa_cons qc_int qa_nil))))))))))
      (qs_cons (qs_set 3 nd (q_op d_add (q_op d_add (q_op d_mul (q_op d_mod (q_callTy c_int rfl W.m_int rfl (qa_cons (qv 0) qa_nil)) qc_int) (q_op d_add (q_op d_mul qc_int (qv 1)) qc_int)) (q_op d_mul (qv 1) qc_int)) qc_int))
      (qs_cons (qs_set 4 nd (q_op d_mod (q_callTy c_int rfl W.m_int rfl (qa_cons (q_op d_pow (qv 3) qc_int) qa_nil)) (q_ix d_ix (qv 2) (q_op d_mod (q_callTy c_int rfl W.m_int rfl (qa_cons (qv 1) qa_nil)) qc_int))))
      (qs_cons (qs_set 5 nd (q_op d_add (q_op d_mod (q_callTy c_int rfl W.m_int rfl (qa_cons (qv 0) qa_nil)) qc_int) qc_int))
      (qs_cons (qs_set 6 nd (q_op d_mod (q_callTy c_int rfl W.m_int rfl (qa_cons (q_op d_pow (q_op d_add (q_op d_mul (qv 4) (q_op d_add (qv 1) qc_int)) (qv 5)) qc_int) qa_nil)) (q_ix d_ix (qv 2) (q_op d_mod (q_callTy c_int rfl W.m_int rfl (qa_cons (q_op d_add (qv 1) qc_int) qa_nil)) qc_int))))
      (qs_cons (qs_set 7 nd (q_op d_mod (q_callTy c_int rfl W.m_int rfl (qa_cons (q_op d_pow (q_op d_add (q_op d_add (qv 6) (q_op d_mod (q_callTy c_int rfl W.m_int rfl (qa_cons (qv 4) qa_nil)) qc_int)) (qv 1)) qc_int) qa_nil)) (q_ix d_ix (qv 2) (q_op d_mod (q_callTy c_int rfl W.m_int rfl (qa_cons (q_op d_add (qv 1) qc_int) qa_nil)) qc_int))))
      (qs_one (qs_ret (q_op d_add (q_op d_mul (q_op d_add (q_op d_mul (qv 4) qc_int) (qv 6)) qc_int) (qv 7)))))))))))), ?_⟩
  refine if_tl (b := decide ((10 : Int) ^ 18 ≤ c)) (tl_ge (vl_v rfl) (vl_pow vl_k vl_k ⟨by decide, by decide, by decide⟩)) (fun h => ?_) (fun _ => ?_)
  · have h := of_decide_eq_true h
    exact ret_vl (vl_v rfl) (fg.here (hq c (Int.le_trans (by decide) h)))
  simp only [sNext]
  refine seq_lst (ds := isD [2147483629, 2147483587, 2147483579, 2147483563, 2147483549, 2147483543, 2147483497]) (fun Q q => ⟨by decide, q⟩) (fun g1 p1 l1 _ o1 => ?_)
  refine seq_cat (ys := isD [2147483489, 2147483477, 2147483423, 2147483399, 2147483353, 2147483323]) rfl o1 (fun Q q => ⟨by decide, q⟩) (by decide) (fun g2 p2 l2 _ o2 => ?_)
  have l := l1.trans l2
  have it : items g2 (.v (.ref p2)) = some (isD spPrimes) := lst_items o2
  have bd : (a : Int) < 2147483648 := hb
  have C1 : ∀ {x y : Int}, 0 ≤ y → y < 2 ^ 64 → CMul x y := fun h1 h2 => .inr ⟨by omega, h2⟩
  obtain ⟨c1, c2⟩ := fmod_bd (a := c) (b := 1000000007) (by decide)
  refine seq_int (x := c.fmod 1000000007 * (2 * a + 69069) + a * 40503 + 977) (fun x => 0 ≤ x ∧ x < 2 ^ 64) ?_ ?_ (fun m hm => ?_)
  · (repeat' (first | exact vl_k | exact vl_v rfl | refine vl_add ?_ ?_ | refine vl_sub ?_ ?_ | refine vl_mul ?_ ?_ ?_ | refine vl_mod ?_ ?_ ?_ | refine vl_fdiv ?_ ?_ ?_ | refine vl_pow ?_ ?_ ?_ | refine vl_int ?_))
    · decide
    · exact C1 ha (by omega)
    · exact C1 (by omega) (by omega)
    · exact C1 (by decide) (by decide)
  · generalize c.fmod 1000000007 = x at c1 c2
    have k1 : x * (2 * a + 69069) ≤ 1000000007 * (2 * 2147483648 + 69069) := Int.mul_le_mul (by omega) (by omega) (by omega) (by decide)
    have k2 : 0 ≤ x * (2 * a + 69069) := Int.mul_nonneg c1 (by omega)
    constructor <;> omega
  have pm : ∀ {e : Ev} {t tx t1 : TE'} {z y : Int}, Vl tx e g2 (.v (.ref p2)) → Vl t e g2 (iD z) → Vl t1 e g2 (iD y) → ∃ x, Vl (tO dMod t1 (tO dIx tx (tO dMod t (tK (.v (.int 13)))))) e g2 (iD x) ∧ (0 ≤ x ∧ x < 2147483648) := by
    intro e t tx t1 z y hx h h1
    obtain ⟨z1, z2⟩ := fmod_bd (a := z) (b := 13) (by decide)
    obtain ⟨q, e1, e2, e3⟩ := prime_at z1 z2
    exact ⟨y.fmod q, vl_mod h1 (vl_ix hx (vl_mod h vl_k (by decide)) it e1) (by omega), (fmod_bd e2).1, Int.lt_trans (fmod_bd e2).2 e3⟩
  have P3 : ∀ {x : Int} {n : Int}, 0 ≤ n → n ≤ 1000000 → 0 ≤ x → x < 2 ^ 64 → CPow x n := fun h1 h2 h3 h4 => ⟨h1, h2, by omega⟩
  refine seq_intE (fun x => 0 ≤ x ∧ x < 2147483648) (pm (vl_v rfl) (vl_int (vl_v rfl)) (vl_int (vl_pow (vl_v rfl) vl_k (P3 (by decide) (by decide) hm.1 hm.2)))) (fun one h1 => ?_)
  refine seq_int (x := c.fmod 65537 + 5) (fun x => 0 ≤ x ∧ x < 100000) ?_ ?_ (fun rest hr' => ?_)
  · (repeat' (first | exact vl_k | exact vl_v rfl | refine vl_add ?_ ?_ | refine vl_sub ?_ ?_ | refine vl_mul ?_ ?_ ?_ | refine vl_mod ?_ ?_ ?_ | refine vl_fdiv ?_ ?_ ?_ | refine vl_pow ?_ ?_ ?_ | refine vl_int ?_))
    decide
  · have := fmod_bd (a := c) (b := 65537) (by decide)
    constructor <;> omega
  refine seq_intE (fun x => 0 ≤ x ∧ x < 2147483648) (pm (vl_v rfl) (vl_int (vl_add (vl_v rfl) vl_k)) (vl_int (vl_pow (vl_add (vl_mul (vl_v rfl) (vl_add (vl_v rfl) vl_k) (C1 (by omega) (by omega))) (vl_v rfl)) vl_k (P3 (by decide) (by decide) ?_ ?_)))) (fun two h2 => ?_)
  · have := Int.mul_nonneg h1.1 (show 0 ≤ a + 3 by omega)
    omega
  · have : one * (a + 3) ≤ 2147483648 * (2147483648 + 3) := Int.mul_le_mul (by omega) (by omega) (by omega) (by decide)
    omega
  obtain ⟨w1, w2⟩ := fmod_bd (a := one) (b := 1009) (by decide)
  refine seq_intE (fun x => 0 ≤ x ∧ x < 2147483648) (pm (vl_v rfl) (vl_int (vl_add (vl_v rfl) vl_k)) (vl_int (vl_pow (vl_add (vl_add (vl_v rfl) (vl_mod (vl_int (vl_v rfl)) vl_k (by decide))) (vl_v rfl)) vl_k (P3 (by decide) (by decide) (by omega) (by omega))))) (fun three h3 => ?_)
  refine ret_vl (vl_add (vl_mul (vl_add (vl_mul (vl_v rfl) vl_k (C1 (by decide) (by decide))) (vl_v rfl)) vl_k (C1 (by decide) (by decide))) (vl_v rfl)) (fg.le l (hq _ ?_))
  have k1 := Int.mul_nonneg h1.1 (show (0 : Int) ≤ 2147483647 by decide)
  have k2 := Int.mul_nonneg (show 0 ≤ one * 2147483647 + two by omega) (show (0 : Int) ≤ 2147483647 by decide)
  omega
end Q92
end
section
set_option maxHeartbeats 4000000
namespace Q92
open PySem PySem.Spec PyProof.Rows L2 SK
/-! ### _law_open -/
theorem sc__law_open : FnScope ["script", "cells", "k", "cell"] ["script"] (defScope S__law_open) := ⟨rfl, rfl, rfl, by decide +kernel, rfl, by decide +kernel, by decide +kernel⟩
theorem k1__law_open {P : Program} {w : World} {K : PySem.W.Frag} {mg : Str → Option Value} {base : Heap} (W : Wd K mg) : Kn P w K mg base 1 "_law_open" (sp1__law_open) := by
  refine kn_mk (sp := sp1__law_open) W.f__law_open W.g__law_open sc__law_open (fun _ _ _ _ _ _ us hl => match us, hl with | [_], _ => rfl) (fun ds g Q E hsp => by obtain ⟨a, ns, rfl, _⟩ := hsp; rfl) (fun f cdv A outer s H g ds Q E E' hr hsp tk => ?_)
  have nd := sc__law_open.nd
  obtain ⟨a, ns, rfl, hs, hz, hp0, hq⟩ := hsp
  refine ⟨_, (qs_cons (qs_set 1 nd (QF.qe (q_list rfl W.m_list rfl (QF.qe (q_slS (qv 0) qp_none (qp_some qc_int))))))
      (qs_cons (qs_for (passes_of rfl) rfl (qi_enum rfl W.m_enumerate (QF.qe (q_slS (qv 0) (qp_some qc_int) (qp_some qc_int)))) (qg_tup (n := 2) rfl (qgs_cons (qg_name 2 nd) (qgs_cons (qg_name 3 nd) qgs_nil)))
      (qs_one (qs_asg (q_op d_add (q_ix d_ix (qv 1) (q_op d_mod (q_callTy c_int rfl W.m_int rfl (qa_cons (qv 2) qa_nil)) qc_int)) (qv 3)) (qg_sub (qv 1) (q_op d_mod (q_callTy c_int rfl W.m_int rfl (qa_cons (qv 2) qa_nil)) qc_int)))))
      (qs_one (qs_ret (QF.qe (q_lst (qa_cons (qv 1) (qa_cons qc_int (qa_cons qc_int qa_nil))))))))), ?_⟩
  obtain ⟨c0, e0, z0⟩ : ∃ c0, cutD (isD ns) none (some 12) = isD c0 ∧ (12 < ns.length → c0.length = 12) := ⟨_, cutD_ints, fun h => by
    simp only [HT.sIx, List.length_take, List.length_drop]
    simp
    omega⟩
  obtain ⟨s0, e1, z1⟩ : ∃ s0, cutD (isD ns) (some 12) (some 63) = isD s0 ∧ (s0 ≠ [] → 12 < ns.length) := ⟨_, cutD_ints, fun h => by
    refine Classical.byContradiction fun n => h ?_
    simp only [HT.sIx]
    simp
    omega⟩
  simp only [sSeq]
  refine ⟨_, rfl, 12, rfl, a, ns, rfl, hs, ?_⟩
  rw [e0]
  refine fun p1 n1 => ⟨_, lst_items G.put_same, fun ca n2 => ?_⟩
  have gca : g.o ca = none := by
    by_cases h : ca = p1
    · rw [h]; exact n1.1
    · have := n2.1
      rwa [G.put_ne h] at this
  have lB := (Le.put (m := .lst (isD c0)) n1).news (m := .lst (isD c0)) n2
  have oB : ((g.put p1 (.lst (isD c0))).put ca (.lst (isD c0))).o ca = some (.lst (isD c0)) := G.put_same
  have pB : ((g.put p1 (.lst (isD c0))).put ca (.lst (isD c0))).p = none := hp0
  have sB : ((g.put p1 (.lst (isD c0))).put ca (.lst (isD c0))).s = some (a, ns) := hs
  generalize (g.put p1 (.lst (isD c0))).put ca (.lst (isD c0)) = gB at lB oB pB sB
  refine ⟨_, rfl, 12, rfl, 63, rfl, a, ns, rfl, sB, ?_⟩
  rw [e1]
  refine fun p2 n3 => ⟨_, lst_items G.put_same, ?_⟩
  have np : ca ≠ p2 := fun h => by
    subst h
    have := n3.1
    rw [oB] at this
    cases this
  refine loop_ind (fun r e g' => ∃ x y cs, e = [some (.v (.ref a)), some (.v (.ref ca)), x, y] ∧ Le g g' ∧ g'.p = none ∧ g'.o ca = some (.lst (isD cs)) ∧ (s0 ≠ [] → cs.length = 12) ∧ g'.o p2 = some (.lst (isD s0)) ∧ (r ≠ [] → s0 ≠ []) ∧ ∀ d ∈ r, ∃ i c : Int, d = .k [iD i, iD c] ∧ 0 ≤ i) (fun d r e g' L hL hJ => ?_) (fun e g' hJ => ?_) _ _ _ ⟨none, none, c0, rfl, lB.news n3, pB, by rw [G.put_ne np]; exact oB, fun h => z0 (z1 h), G.put_same, fun h e => h (by rw [e]; rfl), enum_ints s0⟩
  · obtain ⟨x, y, cs, rfl, l, p, o, z, it, hr1, hd⟩ := hJ
    obtain ⟨i, c, rfl, hi⟩ := hd d (by simp)
    have hz12 := z (hr1 (by simp))
    obtain ⟨m1, m2⟩ := fmod_bd (a := i) (b := 12) (by decide)
    have hlt : (i.fmod 12).toNat < cs.length := by omega
    have hg := isD_get (List.getElem?_eq_getElem hlt)
    refine ⟨_, rfl, rfl, _, _, rfl, _, _, rfl, rfl, ?_⟩
    have vk : Vl (tO dMod (uCall rInt (uCons (tV 2) uNil)) (tK (.v (.int 12)))) [some (.v (.ref a)), some (.v (.ref ca)), some (iD i), some (iD c)] g' (iD (i.fmod 12)) := vl_mod (vl_int (vl_v rfl)) vl_k (by decide)
    refine vl_add (vl_ix (vl_v rfl) vk (lst_items o) (atD_nat m1 hg)) (vl_v (d := iD c) rfl) _ ?_
    refine ⟨_, rfl, vk _ ⟨_, (i.fmod 12).toNat, o, ixN_nat m1 (by rw [isD_len]; omega), ?_⟩⟩
    rw [isD_set]
    have it2 : (g'.put ca (.lst (isD (cs.set (i.fmod 12).toNat (cs[(i.fmod 12).toNat] + c))))).o p2 = some (.lst (isD s0)) := by
      rw [G.put_ne (Ne.symm np)]
      exact it
    exact ⟨lst_items it2, hL _ _ ⟨_, _, _, rfl, l.write gca, p, G.put_same, fun h => by rw [List.length_set]; exact z h, it2, fun h => hr1 (by simp), fun d hd' => hd d (by simp [hd'])⟩⟩
  · obtain ⟨x, y, cs, rfl, l, p, o, z, it, hr1, hd⟩ := hJ
    refine ⟨_, rfl, (show (3 : Nat) ≤ sizeLine by decide), fun pa n4 => ?_⟩
    have l4 := l.news (m := .lst [.v (.ref ca), iD 0, iD 0]) n4
    have nca : ca ≠ pa := fun h => by
      subst h
      rw [n4.1] at o
      cases o
    have gpa : g.o pa = none := by
      cases h : g.o pa with
      | none => rfl
      | some m =>
        have := l.o _ _ h
        rw [n4.1] at this
        cases this
    exact fg.here (hq _ pa ca cs l4 gpa gca ⟨G.put_same, by rw [G.put_ne nca]; exact o, nca, p⟩)
theorem k__law_open {P : Program} {w : World} {K : PySem.W.Frag} {mg : Str → Option Value} {base : Heap} (W : Wd K mg) : Kn P w K mg base 1 "_law_open" sp__law_open :=
  (k1__law_open W).conv (fun ds g Q E ⟨a, ns, e, h1, h2, h3, h4⟩ => ⟨ds, g, fun _ _ => True, E, rfl, a, ns, e, h1, h2, h3, fun _ _ _ _ _ _ _ _ => trivial⟩) fun ds g Q E ⟨a, ns, e, h1, h2, h3, h4⟩ H R =>
    ⟨g, fun d g' => ∃ pa ca cs, d = .v (.ref pa) ∧ Le g g' ∧ g.o pa = none ∧ g.o ca = none ∧ Pen g' pa ca cs 0 0, R, fun _ => Iff.rfl, ⟨a, ns, e, h1, h2, h3, fun g' pa ca cs l n1 n2 p => ⟨pa, ca, cs, rfl, l, n1, n2, p⟩⟩, fun d g' H' R' ⟨pa, ca, cs, ed, l, n1, n2, p⟩ => by
      obtain ⟨R2, dm⟩ := R'.repen (n := 0) p (Int.le_refl 0) (Int.le_refl 0) (Int.le_refl 0)
      have le : Le { g with p := some (pa, ca), n := 0 } (g'.repen pa ca 0) := ⟨fun b m hb => by
        have hb : g.o b = some m := hb
        show (if b = pa ∨ b = ca then none else g'.o b) = some m
        rw [if_neg (fun z => by rcases z with z | z <;> subst z <;> simp_all)]
        exact l.o b m hb, .inr ⟨rfl, Nat.le_refl _⟩, by rcases l.s with z | z; exact .inl z; exact .inr z⟩
      subst ed
      exact ⟨_, h4 pa ca, R2.le le, fun b z => dm b (le.dom z)⟩⟩
end Q92
end
section
set_option maxHeartbeats 4000000
namespace Q92
open PySem PySem.Spec PyProof.Rows L2 SK
/-! ### _law_take -/
theorem sc__law_take : FnScope ["pen", "many", "at", "cell", "found"] ["pen", "many"] (defScope S__law_take) := ⟨rfl, rfl, rfl, by decide +kernel, rfl, by decide +kernel, by decide +kernel⟩
theorem k1__law_take {P : Program} {w : World} {K : PySem.W.Frag} {mg : Str → Option Value} {base : Heap} (W : Wd K mg) : Kn P w K mg base 2 "_law_take" (sp1__law_take) := by
  refine kn_mk (sp := sp1__law_take) W.f__law_take W.g__law_take sc__law_take (fun _ _ _ _ _ _ us hl => match us, hl with | [_, _], _ => rfl) (fun ds g Q E hsp => by obtain ⟨pa, ca, cs, i, c, m, rfl, _⟩ := hsp; rfl) (fun f cdv A outer s H g ds Q E E' hr hsp tk => ?_)
  have nd := sc__law_take.nd
  have c__law_spread := (k__law_spread (P := P) (w := w) (base := base) W).mono (show 1 ≤ 1  by decide)
  obtain ⟨pa, ca, cs, i, c, m, rfl, hp, m0, m1, i0, i1, c0, hq⟩ := hsp
  refine ⟨_, (qs_cons (qs_if (qt_cmp d_lt (q_ix d_ix (qv 0) qc_int) (qv 1)) (qs_cons (qs_set 2 nd (q_ix d_ix (qv 0) qc_int))
      (qs_cons (qs_set 3 nd qc_int)
      (qs_cons (qs_if (qt_cmp d_lt (qv 2) (q_callB c_len rfl W.m_len rfl (qa_cons (q_ix d_ix (qv 0) qc_int) qa_nil))) (qs_one (qs_set 3 nd (q_ix d_ix (q_ix d_ix (qv 0) qc_int) (qv 2)))) (qs_one (qs_if (qt_cmp d_gt (q_callB c_len rfl W.m_len rfl (qa_cons (q_ix d_ix (qv 0) qc_int) qa_nil)) qc_int) (qs_one (qs_set 3 nd (q_op d_mod (q_callTy c_int rfl W.m_int rfl (qa_cons (q_ix d_ix (q_ix d_ix (qv 0) qc_int) (q_op d_mod (q_callTy c_int rfl W.m_int rfl (qa_cons (q_op d_add (q_op d_mul (qv 2) qc_int) qc_int) qa_nil)) (q_callB c_len rfl W.m_len rfl (qa_cons (q_ix d_ix (qv 0) qc_int) qa_nil)))) qa_nil)) (q_op d_add (q_op d_pow qc_int qc_int) (qv 2))))) qs_nil)))
      (qs_cons (qs_asg (q_op d_add (qv 2) qc_int) (qg_sub (qv 0) qc_int))
      (qs_one (qs_asg (q_call c__law_spread hr tk rfl (qa_cons (qv 3) (qa_cons (qv 2) qa_nil))) (qg_sub (qv 0) qc_int))))))) qs_nil)
      (qs_cons (qs_set 4 nd (q_op d_mod (q_callTy c_int rfl W.m_int rfl (qa_cons (q_ix d_ix (qv 0) qc_int) qa_nil)) (qv 1)))
      (qs_cons (qs_asg (q_op d_fdiv (q_ix d_ix (qv 0) qc_int) (qv 1)) (qg_sub (qv 0) qc_int))
      (qs_one (qs_ret (qv 4)))))), ?_⟩
  have L3 : ∀ {x y : Int} {e : Ev} {g' : G}, g'.o pa = some (.lst [.v (.ref ca), iD x, iD y]) → e[0]? = some (some (.v (.ref pa))) → Vl (tO dIx (tV 0) (tK (.v (.int 2)))) e g' (iD y) := fun h he => pen_ix2 h (vl_v he)
  have tail : ∀ (x y z : Option D) (g' : G) (i' c' : Int), g'.o pa = some (.lst [.v (.ref ca), iD i', iD c']) → 0 ≤ c' → (∀ k c'' : Int, 0 ≤ k → k < m → 0 ≤ c'' → Q (iD k) (g'.put pa (.lst [.v (.ref ca), iD i', iD c'']))) →
      sSeq (sAsg (tO dMod (uCall rInt (uCons (tO dIx (tV 0) (tK (D.v (V.int 2)))) uNil)) (tV 1)) (vName 4)) (sSeq (sAsg (tO dFdiv (tO dIx (tV 0) (tK (D.v (V.int 2)))) (tV 1)) (gSub' (tV 0) (tK (D.v (V.int 2))))) (sRet (tV 4))) (fgEn Q) [some (.v (.ref pa)), some (iD m), x, y, z] g' := by
    intro x y z g' i' c' h hc hk
    obtain ⟨f1, f2⟩ := fmod_bd (a := c') (b := m) m0
    refine seq_ev (d := iD (c'.fmod m)) (vl_mod (vl_int (L3 h rfl)) (vl_v rfl) (by omega)) ?_
    refine vl_fdiv (L3 h rfl) (vl_v rfl) ⟨by omega, by omega⟩ _ ?_
    refine ⟨_, rfl, _, 2, h, rfl, ?_⟩
    exact ⟨_, rfl, fg.here (hk _ _ f1 f2 (Int.fdiv_nonneg hc (by omega)))⟩
  refine if_tl (tl_lt (pen_ix2 hp.a (vl_v rfl)) (vl_v rfl)) (fun _ => ?_) (fun _ => ?_)
  · have rest : ∀ (y : Int) (z : Option D), sSeq (sAsg (tO dAdd (tV 2) (tK (D.v (V.int 1)))) (gSub' (tV 0) (tK (D.v (V.int 1))))) (sAsg (uFn sp__law_spread (fgX E) (uCons (tV 3) (uCons (tV 2) uNil))) (gSub' (tV 0) (tK (D.v (V.int 2)))))
        { fgEn Q with nx := fun e g => sSeq (sAsg (tO dMod (uCall rInt (uCons (tO dIx (tV 0) (tK (D.v (V.int 2)))) uNil)) (tV 1)) (vName 4)) (sSeq (sAsg (tO dFdiv (tO dIx (tV 0) (tK (D.v (V.int 2)))) (tV 1)) (gSub' (tV 0) (tK (D.v (V.int 2))))) (sRet (tV 4))) (fgEn Q) e g } [some (.v (.ref pa)), some (iD m), some (iD i), some (iD y), z] g := by
      intro y z
      refine vl_add (vl_v (d := iD i) rfl) vl_k _ ⟨_, rfl, _, 1, hp.a, rfl, ?_⟩
      refine ⟨_, rfl, _, rfl, y, i, rfl, i0, i1, fun v hv => ⟨_, rfl, _, 2, G.put_same, rfl, ?_⟩⟩
      rw [G.put_put]
      refine tail _ _ _ _ (i + 1) v G.put_same hv fun k c'' h1 h2 h3 => ?_
      rw [G.put_put]
      exact hq k (i + 1) c'' h1 h2 (by omega) (by omega) h3
    refine seq_ev (d := iD i) (pen_ix1 hp.a (vl_v rfl)) (seq_ev (d := iD 0) vl_k ?_)
    have vca : ∀ {e : Ev}, e[0]? = some (some (.v (.ref pa))) → Vl (tO dIx (tV 0) (tK (.v (.int 0)))) e g (.v (.ref ca)) := fun he => pen_ix0 hp.a (vl_v he)
    have vlen : ∀ {e : Ev}, e[0]? = some (some (.v (.ref pa))) → Vl (uCall rLenS (uCons (tO dIx (tV 0) (tK (.v (.int 0)))) uNil)) e g (iD (cs.length : Nat)) := fun he => by
      have h := vl_len (vca he) (lst_items hp.b)
      rwa [isD_len] at h
    refine if_tl (tl_lt (vl_v (d := iD i) rfl) (vlen rfl)) (fun h => ?_) (fun h => ?_)
    · have h := of_decide_eq_true h
      have hg := isD_get (ns := cs) (List.getElem?_eq_getElem (show i.toNat < cs.length by omega))
      exact vl_ix (vca rfl) (vl_v (d := iD i) rfl) (lst_items hp.b) (atD_nat i0 hg) _ (rest _ _)
    · have h := of_decide_eq_false h
      refine if_tl (tl_gt (vlen rfl) (vl_k (d := iD 0))) (fun h2 => ?_) (fun _ => rest _ _)
      have h2 := of_decide_eq_true h2
      obtain ⟨f1, f2⟩ := fmod_bd (a := i * 5 + 3) (b := (cs.length : Nat)) h2
      have hg := isD_get (ns := cs) (List.getElem?_eq_getElem (show ((i * 5 + 3).fmod (cs.length : Nat)).toNat < cs.length by omega))
      refine vl_mod (vl_int (vl_ix (vca rfl) (vl_mod (vl_int (vl_add (vl_mul (vl_v (d := iD i) rfl) vl_k (.inr ⟨by decide, by decide⟩)) vl_k)) (vlen rfl) (by omega)) (lst_items hp.b) (atD_nat f1 hg))) (vl_add (vl_pow vl_k vl_k ⟨by decide, by decide, by decide⟩) (vl_v (d := iD i) rfl)) ?_ _ (rest _ _)
      have : (0 : Int) ≤ 10 ^ (17 : Int).toNat := by decide
      omega
  · exact tail _ _ _ _ i c hp.a c0 fun k c'' h1 h2 h3 => hq k i c'' h1 h2 i0 (by omega) h3
theorem k__law_take {P : Program} {w : World} {K : PySem.W.Frag} {mg : Str → Option Value} {base : Heap} (W : Wd K mg) : Kn P w K mg base 2 "_law_take" sp__law_take :=
  (k1__law_take W).conv (fun ds g Q E ⟨pa, ca, m, e, h1, h2, h3, h4, h5⟩ => ⟨[.v (.ref 0), iD m], penG, fun _ _ => True, E, by rw [e]; rfl, 0, 1, [], 0, 0, m, rfl, penG_pen, h2, h3, Int.le_refl 0, by decide, Int.le_refl 0, fun _ _ _ _ _ _ _ _ => trivial⟩) fun ds g Q E ⟨pa, ca, m, e, h1, h2, h3, h4, h5⟩ H R => by
    obtain ⟨cs, i, c, b1, b2, b3, R1, dm, p⟩ := R.unpen h1
    refine ⟨g.unpen pa ca cs i c, fun d g' => ∃ k i' c' : Int, d = iD k ∧ 0 ≤ k ∧ k < m ∧ 0 ≤ i' ∧ i' ≤ i + 1 ∧ 0 ≤ c' ∧ g' = (g.unpen pa ca cs i c).put pa (.lst [.v (.ref ca), iD i', iD c']), R1, dm, ⟨pa, ca, cs, i, c, m, e, p, h2, h3, b1, by omega, b3, fun k i' c' a1 a2 a3 a4 a5 => ⟨k, i', c', rfl, a1, a2, a3, a4, a5, rfl⟩⟩, fun d g' H' R' ⟨k, i', c', ed, a1, a2, a3, a4, a5, eg⟩ => ?_⟩
    subst ed eg
    have p' : Pen ((g.unpen pa ca cs i c).put pa (.lst [.v (.ref ca), iD i', iD c'])) pa ca cs i' c' := ⟨G.put_same, by rw [G.put_ne p.ne]; exact p.b, p.ne, p.no⟩
    obtain ⟨R2, d2⟩ := R'.repen (n := g.n + 1) p' a3 (by omega) a5
    obtain ⟨n1, n2, _⟩ := R.pen pa ca h1
    have le : Le { g with n := g.n + 1 } (((g.unpen pa ca cs i c).put pa (.lst [.v (.ref ca), iD i', iD c'])).repen pa ca (g.n + 1)) := ⟨fun b m hb => by
      have hb : g.o b = some m := hb
      have e1 : b ≠ pa := fun z => by subst z; rw [n1] at hb; cases hb
      have e2 : b ≠ ca := fun z => by subst z; rw [n2] at hb; cases hb
      show (if b = pa ∨ b = ca then none else (G.put _ pa _).o b) = some m
      rw [if_neg (fun z => z.elim e1 e2), G.put_ne e1]
      show (if b = pa then _ else if b = ca then _ else g.o b) = some m
      rw [if_neg e1, if_neg e2]
      exact hb, .inr ⟨h1, Nat.le_refl _⟩, .inr rfl⟩
    exact ⟨_, h5 k a1 a2, R2.le le, fun b z => d2 b (le.dom z)⟩
theorem kx__law_take {P : Program} {w : World} {K : PySem.W.Frag} {mg : Str → Option Value} {base : Heap} (W : Wd K mg) : Kn P w K mg base 2 "_law_take" (spX K (fun v => [eI v]) m__law_take (xV eI)) := take_x (k__law_take W)
end Q92
end
section
set_option maxHeartbeats 4000000
namespace Q92
open PySem PySem.Spec PyProof.Rows L2 SK
/-! ### _law_anew -/
theorem sc__law_anew : FnScope ["pen"] ["pen"] (defScope S__law_anew) := ⟨rfl, rfl, rfl, by decide +kernel, rfl, by decide +kernel, by decide +kernel⟩
theorem k1__law_anew {P : Program} {w : World} {K : PySem.W.Frag} {mg : Str → Option Value} {base : Heap} (W : Wd K mg) : Kn P w K mg base 1 "_law_anew" (sp1__law_anew) := by
  refine kn_mk (sp := sp1__law_anew) W.f__law_anew W.g__law_anew sc__law_anew (fun _ _ _ _ _ _ us hl => match us, hl with | [_], _ => rfl) (fun ds g Q E hsp => by obtain ⟨pa, ca, cs, i, c, rfl, _⟩ := hsp; rfl) (fun f cdv A outer s H g ds Q E E' hr hsp tk => ?_)
  have nd := sc__law_anew.nd
  obtain ⟨pa, ca, cs, i, c, rfl, hp, hq⟩ := hsp
  refine ⟨_, (qs_cons (qs_asg qc_int (qg_sub (qv 0) qc_int))
      (qs_one (qs_ret (qv 0)))), ?_⟩
  exact ⟨_, rfl, _, 2, hp.a, rfl, _, rfl, fg.here hq⟩
theorem k__law_anew {P : Program} {w : World} {K : PySem.W.Frag} {mg : Str → Option Value} {base : Heap} (W : Wd K mg) : Kn P w K mg base 1 "_law_anew" sp__law_anew :=
  (k1__law_anew W).conv (fun ds g Q E ⟨pa, ca, e, h1, h5⟩ => ⟨[.v (.ref 0)], penG, fun _ _ => True, E, by rw [e]; rfl, 0, 1, [], 0, 0, rfl, penG_pen, trivial⟩) fun ds g Q E ⟨pa, ca, e, h1, h5⟩ H R => by
    obtain ⟨cs, i, c, b1, b2, b3, R1, dm, p⟩ := R.unpen h1
    refine ⟨g.unpen pa ca cs i c, fun d g' => d = .v (.ref pa) ∧ g' = (g.unpen pa ca cs i c).put pa (.lst [.v (.ref ca), iD i, iD 0]), R1, dm, ⟨pa, ca, cs, i, c, e, p, rfl, rfl⟩, fun d g' H' R' ⟨ed, eg⟩ => ?_⟩
    subst ed eg
    have p' : Pen ((g.unpen pa ca cs i c).put pa (.lst [.v (.ref ca), iD i, iD 0])) pa ca cs i 0 := ⟨G.put_same, by rw [G.put_ne p.ne]; exact p.b, p.ne, p.no⟩
    obtain ⟨R2, d2⟩ := R'.repen (n := g.n) p' b1 b2 (Int.le_refl 0)
    obtain ⟨n1, n2, _⟩ := R.pen pa ca h1
    have le : Le g (((g.unpen pa ca cs i c).put pa (.lst [.v (.ref ca), iD i, iD 0])).repen pa ca g.n) := ⟨fun b m hb => by
      have e1 : b ≠ pa := fun z => by subst z; rw [n1] at hb; cases hb
      have e2 : b ≠ ca := fun z => by subst z; rw [n2] at hb; cases hb
      show (if b = pa ∨ b = ca then none else (G.put _ pa _).o b) = some m
      rw [if_neg (fun z => z.elim e1 e2), G.put_ne e1]
      show (if b = pa then _ else if b = ca then _ else g.o b) = some m
      rw [if_neg e1, if_neg e2]
      exact hb, .inr ⟨h1, Nat.le_refl _⟩, .inr rfl⟩
    exact ⟨_, h5, R2.le le, fun b z => d2 b (le.dom z)⟩
end Q92
end
section
set_option maxHeartbeats 4000000
namespace Q92
open PySem PySem.Spec PyProof.Rows L2 SK
/-! ### _law_one -/
theorem sc__law_one : FnScope ["pen", "some"] ["pen", "some"] (defScope S__law_one) := ⟨rfl, rfl, rfl, by decide +kernel, rfl, by decide +kernel, by decide +kernel⟩
theorem k__law_one {P : Program} {w : World} {K : PySem.W.Frag} {mg : Str → Option Value} {base : Heap} (W : Wd K mg) : Kn P w K mg base 3 "_law_one" (sp__law_one) := by
  refine kn_mk (sp := sp__law_one) W.f__law_one W.g__law_one sc__law_one (fun _ _ _ _ _ _ us hl => match us, hl with | [_, _], _ => rfl) (fun ds g Q E hsp => by obtain ⟨pa, ca, d, xs, rfl, _⟩ := hsp; rfl) (fun f cdv A outer s H g ds Q E E' hr hsp tk => ?_)
  have nd := sc__law_one.nd
  have c__law_take := (k__law_take (P := P) (w := w) (base := base) W).mono (show 2 ≤ 2  by decide)
  obtain ⟨pa, ca, d, xs, rfl, hp, hn, hi, hx, hz, hq⟩ := hsp
  refine ⟨_, (qs_one (qs_ret (q_ix d_ix (qv 1) (q_call c__law_take hr tk rfl (qa_cons (qv 0) (qa_cons (q_callB c_len rfl W.m_len rfl (qa_cons (qv 1) qa_nil)) qa_nil)))))), ?_⟩
  refine ⟨_, rfl, _, rfl, _, rfl, xs, hi, pa, ca, (xs.length : Nat), rfl, hp, ?_, ?_, hn, fun k h1 h2 => ?_⟩
  · have := List.length_pos_iff.mpr hx
    omega
  · omega
  have hl : k.toNat < xs.length := by omega
  refine ⟨xs, xs[k.toNat], ?_, atD_nat h1 (List.getElem?_eq_getElem hl), fg.here (hq _ (List.getElem_mem hl))⟩
  show items (g.tick 1) d = _
  rw [tick_items]
  exact hi
end Q92
end
section
set_option maxHeartbeats 4000000
namespace Q92
open PySem PySem.Spec PyProof.Rows L2 SK
/-! ### _law_set -/
theorem sc__law_set : FnScope ["pen", "many", "column"] ["pen", "many"] (defScope S__law_set) := ⟨rfl, rfl, rfl, by decide +kernel, rfl, by decide +kernel, by decide +kernel⟩
def b__law_set (v : (Int)) : Mk true (Out Empty (List Int)) := (bk true (bk true (bk true (bk true (pk true v) fun x3 => (lk true (oRng 0 x3))) fun l8 => cM true (fun (a4 : Int) => (bk true (bk true (pk true (2 : Int)) fun v5 => (m__law_take v5)) fun x6 => (bk true (pk true (0 : Int)) fun x7 => (pk true (false ^^ decide (x6 = x7)))))) (fun (a4 : Int) => (pk true a4)) l8) fun x2 => (pk true x2)) fun x1 => (pk true (Out.rt (id x1))))
def m__law_set (v : (Int)) : Mk true (List Int) := exO true (Empty.elim) (b__law_set v)
theorem k__law_set {P : Program} {w : World} {K : PySem.W.Frag} {mg : Str → Option Value} {base : Heap} (W : Wd K mg) : Kn P w K mg base 3 "_law_set" (spX K (fun (v : (Int)) => [eI v]) m__law_set (xV (eT eI))) :=
  kn_x (er := fun (v : (Int)) => [eI v]) (xr := (xV (eT eI))) W.f__law_set W.g__law_set sc__law_set (fun _ _ _ _ _ _ us hl => match us, hl with | [_, _], _ => rfl) (fun _ => rfl) (by decide) (Empty.elim) (fun s => nomatch s) (fun _ _ _ s => nomatch s) b__law_set (fun _ _ _ s => nomatch s) (fun f cdv A outer s H g E' E0 v B pa ca hr tk => by
    have nd := sc__law_set.nd
    have c__law_take := (kx__law_take (P := P) (w := w) (base := base) W).mono (show 2 ≤ 2 by decide)
    unfold b__law_set
    exact (ms_ret id (fun _ => rfl) (me_tuple sqL (fun _ => W.m_tuple) (me_enc (eb := (eL eI)) (me_F (mf_comp (eb := eI) (fun _ => rfl) (fun _ => nd) (fun _ => blk_ok (own := [("column", 2)]) (by kernel_rfl)) (mi_rng1 (fun _ => W.m_range) (me_v 1 v)) (mg_name 2 (fun _ => nd)) (fun a4 => mts_one (mt_cmp (fun _ => opEq false hr.r.units) (re_eqT false qI (by decide) (me_callXV (fun _ => c__law_take) (fun _ => hr) (fun _ => tk0) (mpen_v 0) (ma_one me_int)) me_int))) (fun a4 => (me_v 2 a4))))))))
end Q92
end
section
set_option maxHeartbeats 4000000
namespace Q92
open PySem PySem.Spec PyProof.Rows L2 SK
/-! ### _law_bad_set -/
theorem sc__law_bad_set : FnScope ["pen", "many", "some"] ["pen", "many"] (defScope S__law_bad_set) := ⟨rfl, rfl, rfl, by decide +kernel, rfl, by decide +kernel, by decide +kernel⟩
def b__law_bad_set (v : (Int)) : Mk true (Out Empty PyData) := (bk true (pk true ([PyData.none, (PyData.list []), (PyData.str "0"), (PyData.int 7), (PyData.tuple [(eI v)]), (PyData.tuple [(PyData.int (-1))]), (PyData.tuple [(PyData.bool true)]), (PyData.tuple [(PyData.int 0), (PyData.int 0)]), (PyData.tuple [(PyData.int 1), (PyData.int 0)]), (PyData.tuple [(PyData.str "0")]), (PyData.list [(PyData.int 0)])] : List PyData)) fun (y1 : (List PyData)) => (bk true (bk true (pk true y1) fun x3 => (bk true (pk true ([(PyData.tuple [(PyData.tuple [(PyData.int 0)])]), (PyData.tuple [PyData.none]), (PyData.tuple [(PyData.int 0), (eI v)]), (PyData.tuple [(PyData.int (-1)), (PyData.int 0)]), (PyData.tuple [(PyData.bool true), (PyData.int 2)]), (PyData.tuple [(PyData.bool false), (PyData.int 1)]), (PyData.tuple [(PyData.str "0"), (PyData.int 1)])] : List PyData)) fun x4 => (lk true (oCat x3 x4)))) fun (y2 : (List PyData)) => (bk true (bk true (pk true y2) fun x6 => (bk true (pk true ([(PyData.tuple [PyData.none, (PyData.int 0)]), (PyData.tuple [(PyData.list [(PyData.int 0)]), (PyData.int 0)]), (PyData.tuple [(PyData.int 0), (PyData.int (-1))]), (PyData.tuple [(PyData.int 0), (PyData.int 2), (PyData.int 1)]), (PyData.tuple [(PyData.int 0), (PyData.str "1")]), (PyData.tuple [(PyData.int 0), (PyData.list [(PyData.int 0)])]), (PyData.tuple [(PyData.tuple []), (PyData.int 0)])] : List PyData)) fun x7 => (lk true (oCat x6 x7)))) fun (y5 : (List PyData)) => (bk true (bk true (pk true y5) fun x9 => (m__law_one x9)) fun x8 => (pk true (Out.rt (id x8)))))))
def m__law_bad_set (v : (Int)) : Mk true PyData := exO true (Empty.elim) (b__law_bad_set v)
theorem k__law_bad_set {P : Program} {w : World} {K : PySem.W.Frag} {mg : Str → Option Value} {base : Heap} (W : Wd K mg) : Kn P w K mg base 4 "_law_bad_set" (spX K (fun (v : (Int)) => [eI v]) m__law_bad_set (xV eA)) :=
  kn_x (er := fun (v : (Int)) => [eI v]) (xr := (xV eA)) W.f__law_bad_set W.g__law_bad_set sc__law_bad_set (fun _ _ _ _ _ _ us hl => match us, hl with | [_, _], _ => rfl) (fun _ => rfl) (by decide) (Empty.elim) (fun s => nomatch s) (fun _ _ _ s => nomatch s) b__law_bad_set (fun _ _ _ s => nomatch s) (fun f cdv A outer s H g E' E0 v B pa ca hr tk => by
    have nd := sc__law_bad_set.nd
    have c__law_one := (k__law_one (P := P) (w := w) (base := base) W).mono (show 3 ≤ 3 by decide)
    unfold b__law_bad_set
    exact (ms_set 2 (fun _ => nd) (me_enc (eb := (eL eA)) (me_F (mf_lit (mls_cons ml_non (mls_cons (ml_lst mls_nil) (mls_cons ml_str (mls_cons ml_int (mls_cons (ml_tup (mls_cons (ml_of (me_v 1 v)) mls_nil)) (mls_cons (ml_tup (mls_cons (ml_neg ml_int) mls_nil)) (mls_cons (ml_tup (mls_cons ml_bl mls_nil)) (mls_cons (ml_tup (mls_cons ml_int (mls_cons ml_int mls_nil))) (mls_cons (ml_tup (mls_cons ml_int (mls_cons ml_int mls_nil))) (mls_cons (ml_tup (mls_cons ml_str mls_nil)) (mls_cons (ml_lst (mls_cons ml_int mls_nil)) mls_nil)))))))))))))) (fun y1 => (ms_set 2 (fun _ => nd) (me_enc (eb := (eL eA)) (me_N (mn_cat (me_v 2 y1) (me_enc (eb := (eL eA)) (me_F (mf_lit (mls_cons (ml_tup (mls_cons (ml_tup (mls_cons ml_int mls_nil)) mls_nil)) (mls_cons (ml_tup (mls_cons ml_non mls_nil)) (mls_cons (ml_tup (mls_cons ml_int (mls_cons (ml_of (me_v 1 v)) mls_nil))) (mls_cons (ml_tup (mls_cons (ml_neg ml_int) (mls_cons ml_int mls_nil))) (mls_cons (ml_tup (mls_cons ml_bl (mls_cons ml_int mls_nil))) (mls_cons (ml_tup (mls_cons ml_bl (mls_cons ml_int mls_nil))) (mls_cons (ml_tup (mls_cons ml_str (mls_cons ml_int mls_nil))) mls_nil))))))))))))) (fun y2 => (ms_set 2 (fun _ => nd) (me_enc (eb := (eL eA)) (me_N (mn_cat (me_v 2 y2) (me_enc (eb := (eL eA)) (me_F (mf_lit (mls_cons (ml_tup (mls_cons ml_non (mls_cons ml_int mls_nil))) (mls_cons (ml_tup (mls_cons (ml_lst (mls_cons ml_int mls_nil)) (mls_cons ml_int mls_nil))) (mls_cons (ml_tup (mls_cons ml_int (mls_cons (ml_neg ml_int) mls_nil))) (mls_cons (ml_tup (mls_cons ml_int (mls_cons ml_int (mls_cons ml_int mls_nil)))) (mls_cons (ml_tup (mls_cons ml_int (mls_cons ml_str mls_nil))) (mls_cons (ml_tup (mls_cons ml_int (mls_cons (ml_lst (mls_cons ml_int mls_nil)) mls_nil))) (mls_cons (ml_tup (mls_cons (ml_tup mls_nil) (mls_cons ml_int mls_nil))) mls_nil))))))))))))) (fun y5 => (ms_ret id (fun _ => rfl) (me_one (fun _ => c__law_one) (fun _ => hr) (fun _ => tk) sqL (mpen_v 0) (ma_one (me_v 2 y5)))))))))))
end Q92
end
section
set_option maxHeartbeats 4000000
namespace Q92
open PySem PySem.Spec PyProof.Rows L2 SK
/-! ### _law_columns -/
theorem sc__law_columns : FnScope ["pen", "most", "found", "k", "own"] ["pen", "most"] (defScope S__law_columns) := ⟨rfl, rfl, rfl, by decide +kernel, rfl, by decide +kernel, by decide +kernel⟩
def b__law_columns (v : (Int)) : Mk true (Out Empty (List (Option (List Int)))) := (bk true (bk true (pk true ()) fun _ => (pk true ([] : List (Option (List Int))))) fun (y1 : (List (Option (List Int)))) => (bk true (bk true (bk true (pk true (1 : Int)) fun x3 => (bk true (bk true (pk true v) fun v2 => (m__law_take v2)) fun x4 => (pk true (x3 + x4)))) fun x5 => (lk true (oRng 0 x5))) fun l15 => ob true (forM true (fun (a6 : Int) (s7 : (List (Option (List Int)))) => (bk true (bk true (pk true ([(none : (Option (List Int))), (none : (Option (List Int))), (some [(0 : Int)]), (some [(0 : Int), (1 : Int)]), (some [(0 : Int), (1 : Int)]), (some [(1 : Int), (2 : Int)]), (some [(0 : Int), (1 : Int), (2 : Int)]), (some [(3 : Int), (9 : Int)])] : (List (Option (List Int))))) fun x9 => (m__law_one x9)) fun (y8 : (Option (List Int))) => (bk true (bk true (pk true s7) fun x12 => (bk true (bk true (pk true y8) fun x11 => (pk true ([x11]))) fun x13 => (lk true (oCat x12 x13)))) fun (y10 : (List (Option (List Int)))) => (pk true (Out.nx y10))))) l15 y1) fun (s7 : (List (Option (List Int)))) => (bk true (pk true s7) fun x14 => (pk true (Out.rt (id x14))))))
def m__law_columns (v : (Int)) : Mk true (List (Option (List Int))) := exO true (Empty.elim) (b__law_columns v)
theorem k__law_columns {P : Program} {w : World} {K : PySem.W.Frag} {mg : Str → Option Value} {base : Heap} (W : Wd K mg) : Kn P w K mg base 4 "_law_columns" (spX K (fun (v : (Int)) => [eI v]) m__law_columns (xV (eT (eO (eT eI))))) :=
  kn_x (er := fun (v : (Int)) => [eI v]) (xr := (xV (eT (eO (eT eI))))) W.f__law_columns W.g__law_columns sc__law_columns (fun _ _ _ _ _ _ us hl => match us, hl with | [_, _], _ => rfl) (fun _ => rfl) (by decide) (Empty.elim) (fun s => nomatch s) (fun _ _ _ s => nomatch s) b__law_columns (fun _ _ _ s => nomatch s) (fun f cdv A outer s H g E' E0 v B pa ca hr tk => by
    have nd := sc__law_columns.nd
    have c__law_one := (k__law_one (P := P) (w := w) (base := base) W).mono (show 3 ≤ 3 by decide)
    have c__law_take := (kx__law_take (P := P) (w := w) (base := base) W).mono (show 2 ≤ 3 by decide)
    unfold b__law_columns
    exact (ms_set 2 (fun _ => nd) (me_as (f := fun _ => ([] : List (Option (List Int)))) (eb := (eT (eO (eT eI)))) (me_tup ma_nil) (fun _ => rfl)) (fun y1 => (ms_for (Cl := fun (s7 : (List (Option (List Int)))) => (⟨[(1, .p (eI v)), (2, .p ((eT (eO (eT eI))) s7))], [], [(0, .v (.ref pa))], some (pa, ca), 5, B⟩ : Ct)) y1 (fun _ => passes_of rfl) (mi_rng1 (fun _ => W.m_range) (me_addI me_int (me_callXV (fun _ => c__law_take) (fun _ => hr) (fun _ => tk) (mpen_v 0) (ma_one (me_v 1 v))))) (mg_name 3 (fun _ => nd)) (sub_of (SubF.cons rfl (SubF.cons rfl SubF.nil))) (fun a6 s7 => (ms_set 4 (fun _ => nd) (me_one (fun _ => c__law_one) (fun _ => hr) (fun _ => tk) sqL (mpen_v 0) (ma_one (me_litT (ea := (eL (eO (eT eI)))) (v := [(none : (Option (List Int))), (none : (Option (List Int))), (some [(0 : Int)]), (some [(0 : Int), (1 : Int)]), (some [(0 : Int), (1 : Int)]), (some [(1 : Int), (2 : Int)]), (some [(0 : Int), (1 : Int), (2 : Int)]), (some [(3 : Int), (9 : Int)])]) (ml_lst (mls_cons ml_non (mls_cons ml_non (mls_cons (ml_tup (mls_cons ml_int mls_nil)) (mls_cons (ml_tup (mls_cons ml_int (mls_cons ml_int mls_nil))) (mls_cons (ml_tup (mls_cons ml_int (mls_cons ml_int mls_nil))) (mls_cons (ml_tup (mls_cons ml_int (mls_cons ml_int mls_nil))) (mls_cons (ml_tup (mls_cons ml_int (mls_cons ml_int (mls_cons ml_int mls_nil)))) (mls_cons (ml_tup (mls_cons ml_int (mls_cons ml_int mls_nil))) mls_nil)))))))))))) (fun y8 => (ms_set 2 (fun _ => nd) (me_catT (me_v 2 s7) (me_as (f := fun v => [v]) (eb := (eT (eO (eT eI)))) (me_tup (ma_one (me_v 4 y8))) (fun _ => rfl))) (fun y10 => (ms_nil (s := y10) (sub_of (SubF.cons rfl (SubF.cons rfl SubF.nil))))))))) (fun s7 => (ms_ret id (fun _ => rfl) (me_v 2 s7)))))))
end Q92
end
section
set_option maxHeartbeats 4000000
namespace Q92
open PySem PySem.Spec PyProof.Rows L2 SK
/-! ### _law_value -/
theorem sc__law_value : FnScope ["pen", "column"] ["pen", "column"] (defScope S__law_value) := ⟨rfl, rfl, rfl, by decide +kernel, rfl, by decide +kernel, by decide +kernel⟩
def b__law_value (v : ((Option (List Int)))) : Mk true (Out Empty Int) := (bk true (bk true (pk true v) fun x1 => (pk true (isNo x1))) fun x2 => ob true (if x2 = true then (bk true (bk true (bk true (bk true (pk true (0 : Int)) fun x23 => (bk true (bk true (pk true (0 : Int)) fun x21 => (bk true (bk true (pk true (1 : Int)) fun x19 => (bk true (bk true (pk true (1 : Int)) fun x17 => (bk true (bk true (pk true (2 : Int)) fun x15 => (bk true (bk true (pk true (3 : Int)) fun x13 => (bk true (bk true (bk true (pk true (10 : Int)) fun x5 => (bk true (pk true (29 : Int)) fun x6 => (lk true (oPow x5 x6)))) fun x11 => (bk true (bk true (bk true (pk true (10 : Int)) fun x7 => (bk true (pk true (30 : Int)) fun x8 => (lk true (oPow x7 x8)))) fun x9 => (bk true (pk true (1 : Int)) fun x10 => (pk true (x9 - x10)))) fun x12 => (pk true (x11, x12)))) fun x14 => (pk true (x13, x14)))) fun x16 => (pk true (x15, x16)))) fun x18 => (pk true (x17, x18)))) fun x20 => (pk true (x19, x20)))) fun x22 => (pk true (x21, x22)))) fun x24 => (pk true (x23, x24)))) fun x25 => (pk true ([x25.1, x25.2.1, x25.2.2.1, x25.2.2.2.1, x25.2.2.2.2.1, x25.2.2.2.2.2.1, x25.2.2.2.2.2.2.1, x25.2.2.2.2.2.2.2]))) fun x26 => (m__law_one x26)) fun x4 => (pk true (Out.rt (id x4)))) else (pk true (Out.nx ()))) fun (s3 : Unit) => (bk true (bk true (bk true (pk true v) fun x28 => (lk true x28)) fun x29 => (m__law_one x29)) fun x27 => (pk true (Out.rt (id x27)))))
def m__law_value (v : ((Option (List Int)))) : Mk true Int := exO true (Empty.elim) (b__law_value v)
theorem k__law_value {P : Program} {w : World} {K : PySem.W.Frag} {mg : Str → Option Value} {base : Heap} (W : Wd K mg) : Kn P w K mg base 4 "_law_value" (spX K (fun (v : ((Option (List Int)))) => [(eO (eT eI)) v]) m__law_value (xV eI)) :=
  kn_x (er := fun (v : ((Option (List Int)))) => [(eO (eT eI)) v]) (xr := (xV eI)) W.f__law_value W.g__law_value sc__law_value (fun _ _ _ _ _ _ us hl => match us, hl with | [_, _], _ => rfl) (fun _ => rfl) (by decide) (Empty.elim) (fun s => nomatch s) (fun _ _ _ s => nomatch s) b__law_value (fun _ _ _ s => nomatch s) (fun f cdv A outer s H g E' E0 v B pa ca hr tk => by
    have nd := sc__law_value.nd
    have c__law_one := (k__law_one (P := P) (w := w) (base := base) W).mono (show 3 ≤ 3 by decide)
    unfold b__law_value
    exact (ms_if (Cm := fun (s3 : Unit) => (⟨[(1, .p ((eO (eT eI)) v))], [], [(0, .v (.ref pa))], some (pa, ca), 2, B⟩ : Ct)) (mt_isN (f := isNo) (isO noT) (me_v 1 v)) (ms_ret id (fun _ => rfl) (me_one (fun _ => c__law_one) (fun _ => hr) (fun _ => tk) sqL (mpen_v 0) (ma_one (me_enc (eb := (eL eI)) (me_F (mf_as (f := fun v => [v.1, v.2.1, v.2.2.1, v.2.2.2.1, v.2.2.2.2.1, v.2.2.2.2.2.1, v.2.2.2.2.2.2.1, v.2.2.2.2.2.2.2]) (er' := fun l => l.map eI) (mf_lst (ma_cons me_int (ma_cons me_int (ma_cons me_int (ma_cons me_int (ma_cons me_int (ma_cons me_int (ma_cons (me_pow me_int me_int) (ma_one (me_sub (me_pow me_int me_int) me_int)))))))))) (fun _ => rfl))))))) (ms_nil (s := ()) (sub_of (SubF.cons rfl SubF.nil))) (fun s3 => (ms_ret id (fun _ => rfl) (me_one (fun _ => c__law_one) (fun _ => hr) (fun _ => tk) sqT (mpen_v 0) (ma_one (me_get (me_v 1 v))))))))
end Q92
end
section
set_option maxHeartbeats 4000000
namespace Q92
open PySem PySem.Spec PyProof.Rows L2 SK
/-! ### _law_table -/
theorem sc__law_table : FnScope ["pen", "columns", "many", "unknown", "found", "left", "k", "row", "column"] ["pen", "columns", "many", "unknown"] (defScope S__law_table) := ⟨rfl, rfl, rfl, by decide +kernel, rfl, by decide +kernel, by decide +kernel⟩
def b__law_table (v : ((List (Option (List Int))) × Int × Int)) : Mk true (Out Empty (List (List (Option Int)))) := (bk true (bk true (bk true (pk true ()) fun _ => (pk true ([] : List (List (Option Int))))) fun x2 => (bk true (pk true v.2.2) fun x3 => (pk true (x2, x3)))) fun (y1 : (List (List (Option Int))) × Int) => (bk true (bk true (pk true v.2.1) fun x4 => (lk true (oRng 0 x4))) fun l36 => ob true (forM true (fun (a5 : Int) (s6 : (List (List (Option Int))) × Int) => (bk true (bk true (pk true ()) fun _ => (pk true ([] : List (Option Int)))) fun (y7 : (List (Option Int))) => (bk true (bk true (pk true v.1) fun x8 => (pk true x8)) fun l34 => ob true (forM true (fun (a9 : (Option (List Int))) (s10 : Int × (List (Option Int))) => (bk true (bk true (bk true (pk true s10.1) fun x11 => (bk true (pk true (0 : Int)) fun x12 => (pk true (CmpI.f .gt x11 x12)))) fun x16 => if x16 = true then (bk true (bk true (pk true (3 : Int)) fun v13 => (m__law_take v13)) fun x14 => (bk true (pk true (0 : Int)) fun x15 => (pk true (false ^^ decide (x14 = x15))))) else (pk true false)) fun x17 => if x17 = true then (bk true (bk true (pk true s10.1) fun x19 => (bk true (pk true (1 : Int)) fun x20 => (pk true (x19 - x20)))) fun (y18 : Int) => (bk true (bk true (pk true s10.2) fun x22 => (bk true (pk true ([(none : (Option Int))] : (List (Option Int)))) fun x23 => (lk true (oCat x22 x23)))) fun (y21 : (List (Option Int))) => (pk true (Out.nx (y18, y21))))) else (bk true (bk true (pk true s10.2) fun x28 => (bk true (bk true (bk true (bk true (pk true a9) fun v25 => (m__law_value v25)) fun x26 => (pk true (some x26))) fun x27 => (pk true ([x27]))) fun x29 => (lk true (oCat x28 x29)))) fun (y24 : (List (Option Int))) => (pk true (Out.nx (s10.1, y24)))))) l34 (s6.2, y7)) fun (s10 : Int × (List (Option Int))) => (bk true (bk true (pk true s6.1) fun x32 => (bk true (bk true (pk true s10.2) fun x31 => (pk true ([x31]))) fun x33 => (lk true (oCat x32 x33)))) fun (y30 : (List (List (Option Int)))) => (pk true (Out.nx (y30, s10.1))))))) l36 (y1.1, y1.2)) fun (s6 : (List (List (Option Int))) × Int) => (bk true (pk true s6.1) fun x35 => (pk true (Out.rt (id x35))))))
def m__law_table (v : ((List (Option (List Int))) × Int × Int)) : Mk true (List (List (Option Int))) := exO true (Empty.elim) (b__law_table v)
theorem k__law_table {P : Program} {w : World} {K : PySem.W.Frag} {mg : Str → Option Value} {base : Heap} (W : Wd K mg) : Kn P w K mg base 5 "_law_table" (spX K (fun (v : ((List (Option (List Int))) × Int × Int)) => [(eT (eO (eT eI))) v.1, eI v.2.1, eI v.2.2]) m__law_table (xV (eT (eT (eO eI))))) :=
  kn_x (er := fun (v : ((List (Option (List Int))) × Int × Int)) => [(eT (eO (eT eI))) v.1, eI v.2.1, eI v.2.2]) (xr := (xV (eT (eT (eO eI))))) W.f__law_table W.g__law_table sc__law_table (fun _ _ _ _ _ _ us hl => match us, hl with | [_, _, _, _], _ => rfl) (fun _ => rfl) (by decide) (Empty.elim) (fun s => nomatch s) (fun _ _ _ s => nomatch s) b__law_table (fun _ _ _ s => nomatch s) (fun f cdv A outer s H g E' E0 v B pa ca hr tk => by
    have nd := sc__law_table.nd
    have c__law_take := (kx__law_take (P := P) (w := w) (base := base) W).mono (show 2 ≤ 4 by decide)
    have c__law_value := (k__law_value (P := P) (w := w) (base := base) W).mono (show 4 ≤ 4 by decide)
    unfold b__law_table
    exact (ms_par 4 5 (fun _ => nd) (ma_cons (me_as (f := fun _ => ([] : List (List (Option Int)))) (eb := (eT (eT (eO eI)))) (me_tup ma_nil) (fun _ => rfl)) (ma_one (me_v 3 v.2.2))) (fun y1 => (ms_for (Cl := fun (s6 : (List (List (Option Int))) × Int) => (⟨[(1, .p ((eT (eO (eT eI))) v.1)), (2, .p (eI v.2.1)), (3, .p (eI v.2.2)), (4, .p ((eT (eT (eO eI))) s6.1)), (5, .p (eI s6.2))], [], [(0, .v (.ref pa))], some (pa, ca), 9, B⟩ : Ct)) (y1.1, y1.2) (fun _ => passes_of rfl) (mi_rng1 (fun _ => W.m_range) (me_v 2 v.2.1)) (mg_name 6 (fun _ => nd)) (sub_of (SubF.cons rfl (SubF.cons rfl (SubF.cons rfl (SubF.cons rfl (SubF.cons rfl SubF.nil)))))) (fun a5 s6 => (ms_set 7 (fun _ => nd) (me_as (f := fun _ => ([] : List (Option Int))) (eb := (eT (eO eI))) (me_tup ma_nil) (fun _ => rfl)) (fun y7 => (ms_for (Cl := fun (s10 : Int × (List (Option Int))) => (⟨[(1, .p ((eT (eO (eT eI))) v.1)), (2, .p (eI v.2.1)), (3, .p (eI v.2.2)), (4, .p ((eT (eT (eO eI))) s6.1)), (5, .p (eI s10.1)), (6, .p (eI a5)), (7, .p ((eT (eO eI)) s10.2))], [], [(0, .v (.ref pa))], some (pa, ca), 9, B⟩ : Ct)) (s6.2, y7) (fun _ => passes_of rfl) (mi_seq sqT (me_v 1 v.1)) (mg_name 8 (fun _ => nd)) (sub_of (SubF.cons rfl (SubF.cons rfl (SubF.cons rfl (SubF.cons rfl (SubF.cons rfl (SubF.cons rfl (SubF.cons rfl SubF.nil)))))))) (fun a9 s10 => (ms_ifl (mt_w (mw_and (mt_cmpI .gt (me_v 5 s10.1) me_int) (mw_and1 (mt_cmp (fun _ => opEq false hr.r.units) (re_eqT false qI (by decide) (me_callXV (fun _ => c__law_take) (fun _ => hr) (fun _ => tk) (mpen_v 0) (ma_one me_int)) me_int))))) (ms_set 5 (fun _ => nd) (me_sub (me_v 5 s10.1) me_int) (fun y18 => (ms_set 7 (fun _ => nd) (me_catT (me_v 7 s10.2) (me_litT (ea := (eT (eO eI))) (v := [(none : (Option Int))]) (ml_tup (mls_cons ml_non mls_nil)))) (fun y21 => (ms_nil (s := (y18, y21)) (sub_of (SubF.cons rfl (SubF.cons rfl (SubF.cons rfl (SubF.cons rfl (SubF.cons rfl (SubF.cons rfl (SubF.cons rfl SubF.nil))))))))))))) (ms_set 7 (fun _ => nd) (me_catT (me_v 7 s10.2) (me_as (f := fun v => [v]) (eb := (eT (eO eI))) (me_tup (ma_one (me_some (me_callXV (fun _ => c__law_value) (fun _ => hr) (fun _ => tk) (mpen_v 0) (ma_one (me_v 8 a9)))))) (fun _ => rfl))) (fun y24 => (ms_nil (s := (s10.1, y24)) (sub_of (SubF.cons rfl (SubF.cons rfl (SubF.cons rfl (SubF.cons rfl (SubF.cons rfl (SubF.cons rfl (SubF.cons rfl SubF.nil))))))))))))) (fun s10 => (ms_set 4 (fun _ => nd) (me_catT (me_v 4 s6.1) (me_as (f := fun v => [v]) (eb := (eT (eT (eO eI)))) (me_tup (ma_one (me_v 7 s10.2))) (fun _ => rfl))) (fun y30 => (ms_nil (s := (y30, s10.1)) (sub_of (SubF.cons rfl (SubF.cons rfl (SubF.cons rfl (SubF.cons rfl (SubF.cons rfl SubF.nil)))))))))))))) (fun s6 => (ms_ret id (fun _ => rfl) (me_v 4 s6.1)))))))
end Q92
end
section
set_option maxHeartbeats 4000000
namespace Q92
open PySem PySem.Spec PyProof.Rows L2 SK
/-! ### _law_bad_columns -/
theorem sc__law_bad_columns : FnScope ["pen", "good", "at", "odd", "some"] ["pen"] (defScope S__law_bad_columns) := ⟨rfl, rfl, rfl, by decide +kernel, rfl, by decide +kernel, by decide +kernel⟩
def b__law_bad_columns (v : Unit) : Mk true (Out Empty PyData) := (bk true (bk true (bk true (bk true (pk true PyData.none) fun x4 => (bk true (bk true (pk true (PyData.tuple [(PyData.int 0), (PyData.int 1)])) fun x2 => (bk true (pk true (PyData.tuple [(PyData.int 2), (PyData.int 9)])) fun x3 => (pk true (x2, x3)))) fun x5 => (pk true (x4, x5)))) fun x6 => (pk true ([x6.1, x6.2.1, x6.2.2]))) fun x8 => (bk true (bk true (pk true (4 : Int)) fun v7 => (m__law_take v7)) fun x9 => (pk true (x8, x9)))) fun (y1 : (List PyData) × Int) => (bk true (bk true (pk true ([(PyData.list [PyData.none]), (PyData.tuple []), (PyData.tuple [(PyData.int 1), (PyData.int 0)]), (PyData.tuple [(PyData.int 0), (PyData.bool true)]), (PyData.str "0"), (PyData.int 7), (PyData.tuple [(PyData.int 0), (PyData.int 1), (PyData.int 2), (PyData.int 3)]), (PyData.tuple [(PyData.int (-1))]), (PyData.tuple [(PyData.int 0), (PyData.int 0)]), (PyData.list [(PyData.int 0)])] : List PyData)) fun x11 => (m__law_one x11)) fun (y10 : PyData) => (bk true (bk true (bk true (pk true PyData.none) fun x30 => (bk true (bk true (pk true (PyData.tuple [])) fun x28 => (bk true (bk true (bk true (bk true (bk true (pk true ()) fun x13 => (pk true ([x13]))) fun x14 => (bk true (pk true (5 : Int)) fun x15 => (lk true (oRep x14 x15)))) fun x16 => (pk true ((eT eN) x16))) fun x26 => (bk true (bk true (pk true (PyData.str "0")) fun x24 => (bk true (bk true (bk true (bk true (pk true y1.1) fun x17 => (pk true x17)) fun x18 => (pk true ((eL eA) x18))) fun x22 => (bk true (bk true (bk true (pk true y1.1) fun x19 => (bk true (pk true (2 : Int)) fun x20 => (lk true (oRep x19 x20)))) fun x21 => (pk true ((eT eA) x21))) fun x23 => (pk true (x22, x23)))) fun x25 => (pk true (x24, x25)))) fun x27 => (pk true (x26, x27)))) fun x29 => (pk true (x28, x29)))) fun x31 => (pk true (x30, x31)))) fun x32 => (pk true ([x32.1, x32.2.1, x32.2.2.1, x32.2.2.2.1, x32.2.2.2.2.1, x32.2.2.2.2.2]))) fun (y12 : (List PyData)) => (bk true (bk true (bk true (pk true y12) fun x51 => (bk true (bk true (bk true (bk true (bk true (bk true (bk true (pk true y1.1) fun x35 => (bk true (pk true (none : Option Int)) fun x36 => (bk true (bk true (pk true y1.2) fun x34 => (pk true (some x34))) fun x37 => (pk true (cutG x35 x36 x37))))) fun x39 => (bk true (bk true (pk true y10) fun x38 => (pk true ([x38]))) fun x40 => (lk true (oCat x39 x40)))) fun x45 => (bk true (bk true (pk true y1.1) fun x42 => (bk true (bk true (pk true y1.2) fun x41 => (pk true (some x41))) fun x43 => (bk true (pk true (none : Option Int)) fun x44 => (pk true (cutG x42 x43 x44))))) fun x46 => (lk true (oCat x45 x46)))) fun x47 => (pk true ((eT eA) x47))) fun x48 => (pk true ([x48]))) fun x49 => (bk true (pk true (6 : Int)) fun x50 => (lk true (oRep x49 x50)))) fun x52 => (lk true (oCat x51 x52)))) fun x53 => (m__law_one x53)) fun x33 => (pk true (Out.rt (id x33)))))))
def m__law_bad_columns (v : Unit) : Mk true PyData := exO true (Empty.elim) (b__law_bad_columns v)
theorem k__law_bad_columns {P : Program} {w : World} {K : PySem.W.Frag} {mg : Str → Option Value} {base : Heap} (W : Wd K mg) : Kn P w K mg base 4 "_law_bad_columns" (spX K (fun (v : Unit) => []) m__law_bad_columns (xV eA)) :=
  kn_x (er := fun (v : Unit) => []) (xr := (xV eA)) W.f__law_bad_columns W.g__law_bad_columns sc__law_bad_columns (fun _ _ _ _ _ _ us hl => match us, hl with | [_], _ => rfl) (fun _ => rfl) (by decide) (Empty.elim) (fun s => nomatch s) (fun _ _ _ s => nomatch s) b__law_bad_columns (fun _ _ _ s => nomatch s) (fun f cdv A outer s H g E' E0 v B pa ca hr tk => by
    have nd := sc__law_bad_columns.nd
    have c__law_one := (k__law_one (P := P) (w := w) (base := base) W).mono (show 3 ≤ 3 by decide)
    have c__law_take := (kx__law_take (P := P) (w := w) (base := base) W).mono (show 2 ≤ 3 by decide)
    unfold b__law_bad_columns
    exact (ms_par 1 2 (fun _ => nd) (ma_cons (me_as (f := fun v => [v.1, v.2.1, v.2.2]) (eb := (eT eA)) (me_tup (ma_cons (me_lit ml_non) (ma_cons (me_lit (ml_tup (mls_cons ml_int (mls_cons ml_int mls_nil)))) (ma_one (me_lit (ml_tup (mls_cons ml_int (mls_cons ml_int mls_nil)))))))) (fun _ => rfl)) (ma_one (me_callXV (fun _ => c__law_take) (fun _ => hr) (fun _ => tk) (mpen_v 0) (ma_one me_int)))) (fun y1 => (ms_set 3 (fun _ => nd) (me_one (fun _ => c__law_one) (fun _ => hr) (fun _ => tk) sqL (mpen_v 0) (ma_one (me_enc (eb := (eL eA)) (me_F (mf_lit (mls_cons (ml_lst (mls_cons ml_non mls_nil)) (mls_cons (ml_tup mls_nil) (mls_cons (ml_tup (mls_cons ml_int (mls_cons ml_int mls_nil))) (mls_cons (ml_tup (mls_cons ml_int (mls_cons ml_bl mls_nil))) (mls_cons ml_str (mls_cons ml_int (mls_cons (ml_tup (mls_cons ml_int (mls_cons ml_int (mls_cons ml_int (mls_cons ml_int mls_nil))))) (mls_cons (ml_tup (mls_cons (ml_neg ml_int) mls_nil)) (mls_cons (ml_tup (mls_cons ml_int (mls_cons ml_int mls_nil))) (mls_cons (ml_lst (mls_cons ml_int mls_nil)) mls_nil))))))))))))))) (fun y10 => (ms_set 4 (fun _ => nd) (me_enc (eb := (eL eA)) (me_F (mf_as (f := fun v => [v.1, v.2.1, v.2.2.1, v.2.2.2.1, v.2.2.2.2.1, v.2.2.2.2.2]) (er' := fun l => l.map eA) (mf_lst (ma_cons (me_lit ml_non) (ma_cons (me_lit (ml_tup mls_nil)) (ma_cons (me_any (me_repT (me_as (f := fun v => [v]) (eb := (eT eN)) (me_tup (ma_one me_non)) (fun _ => rfl)) me_int)) (ma_cons (me_lit ml_str) (ma_cons (me_any (me_enc (eb := (eL eA)) (me_F (mf_list sqT (fun _ => W.m_list) (me_v 1 y1.1))))) (ma_one (me_any (me_repT (me_v 1 y1.1) me_int))))))))) (fun _ => rfl)))) (fun y12 => (ms_ret id (fun _ => rfl) (me_one (fun _ => c__law_one) (fun _ => hr) (fun _ => tk) sqL (mpen_v 0) (ma_one (me_enc (eb := (eL eA)) (me_N (mn_cat (me_v 4 y12) (me_enc (eb := (eL eA)) (me_N (mn_rep (me_enc (eb := (eL eA)) (me_F (mf_as (f := fun v => [v]) (er' := fun l => l.map eA) (mf_lst (ma_one (me_any (me_catT (me_catT (me_slT (me_v 1 y1.1) mp_none (mp_some (me_v 2 y1.2))) (me_as (f := fun v => [v]) (eb := (eT eA)) (me_tup (ma_one (me_v 3 y10))) (fun _ => rfl))) (me_slT (me_v 1 y1.1) (mp_some (me_v 2 y1.2)) mp_none))))) (fun _ => rfl)))) me_int))))))))))))))))
end Q92
end
section
set_option maxHeartbeats 4000000
namespace Q92
open PySem PySem.Spec PyProof.Rows L2 SK
/-! ### _law_bad_table -/
theorem sc__law_bad_table : FnScope ["pen", "columns", "row", "at", "odd", "bent", "some", "own"] ["pen", "columns"] (defScope S__law_bad_table) := ⟨rfl, rfl, rfl, by decide +kernel, rfl, by decide +kernel, by decide +kernel⟩
def b__law_bad_table (v : ((List (Option (List Int))))) : Mk true (Out Empty PyData) := (bk true (bk true (bk true (bk true (pk true v) fun x3 => (pk true x3)) fun l11 => mM true (fun (a4 : (Option (List Int))) => (bk true (bk true (pk true a4) fun x5 => (pk true (isNo x5))) fun x10 => if x10 = true then (pk true (PyData.int 0)) else (bk true (bk true (bk true (pk true a4) fun x6 => (lk true x6)) fun x7 => (bk true (pk true (0 : Int)) fun x8 => (lk true (oAt x7 x8)))) fun x9 => (pk true (eI x9))))) l11) fun x2 => (pk true x2)) fun (y1 : (List PyData)) => (bk true (bk true (bk true (pk true v) fun x13 => (pk true (x13.length : Int))) fun v14 => (m__law_take v14)) fun (y12 : Int) => (bk true (bk true (bk true (bk true (pk true (PyData.int (-1))) fun x28 => (bk true (bk true (pk true (PyData.bool true)) fun x26 => (bk true (bk true (pk true (PyData.str "0")) fun x24 => (bk true (bk true (pk true (PyData.tuple [(PyData.int 0)])) fun x22 => (bk true (bk true (pk true (PyData.list [(PyData.int 0)])) fun x20 => (bk true (bk true (bk true (bk true (pk true v) fun x16 => (bk true (pk true y12) fun x17 => (lk true (oAt x16 x17)))) fun x18 => (pk true (!isNo x18))) fun x19 => if x19 = true then (pk true (PyData.int 77)) else (pk true (PyData.int (-2)))) fun x21 => (pk true (x20, x21)))) fun x23 => (pk true (x22, x23)))) fun x25 => (pk true (x24, x25)))) fun x27 => (pk true (x26, x27)))) fun x29 => (pk true (x28, x29)))) fun x30 => (pk true ([x30.1, x30.2.1, x30.2.2.1, x30.2.2.2.1, x30.2.2.2.2.1, x30.2.2.2.2.2]))) fun x31 => (m__law_one x31)) fun (y15 : PyData) => (bk true (bk true (bk true (bk true (pk true y1) fun x34 => (bk true (pk true (none : Option Int)) fun x35 => (bk true (bk true (pk true y12) fun x33 => (pk true (some x33))) fun x36 => (pk true (cutG x34 x35 x36))))) fun x38 => (bk true (bk true (pk true y15) fun x37 => (pk true ([x37]))) fun x39 => (lk true (oCat x38 x39)))) fun x46 => (bk true (bk true (pk true y1) fun x43 => (bk true (bk true (bk true (pk true y12) fun x40 => (bk true (pk true (1 : Int)) fun x41 => (pk true (x40 + x41)))) fun x42 => (pk true (some x42))) fun x44 => (bk true (pk true (none : Option Int)) fun x45 => (pk true (cutG x43 x44 x45))))) fun x47 => (lk true (oCat x46 x47)))) fun (y32 : (List PyData)) => (bk true (bk true (bk true (pk true PyData.none) fun x75 => (bk true (bk true (pk true (PyData.list [((eT eA) y1)])) fun x73 => (bk true (bk true (bk true (bk true (bk true (pk true y1) fun x49 => (pk true ([x49]))) fun x50 => (bk true (pk true (9 : Int)) fun x51 => (lk true (oRep x50 x51)))) fun x52 => (pk true ((eT (eT eA)) x52))) fun x71 => (bk true (bk true (bk true (bk true (bk true (bk true (pk true y1) fun x53 => (pk true x53)) fun x54 => (pk true ((eL eA) x54))) fun x55 => (pk true ([x55]))) fun x56 => (pk true ((eT eA) x56))) fun x69 => (bk true (bk true (bk true (bk true (bk true (bk true (pk true y1) fun x58 => (bk true (bk true (pk true (1 : Int)) fun x57 => (pk true (some x57))) fun x59 => (bk true (pk true (none : Option Int)) fun x60 => (pk true (cutG x58 x59 x60))))) fun x61 => (pk true ((eT eA) x61))) fun x62 => (pk true ([x62]))) fun x63 => (pk true ((eT eA) x63))) fun x67 => (bk true (bk true (pk true (PyData.str "0")) fun x65 => (bk true (bk true (pk true y1) fun x64 => (pk true ((eT eA) x64))) fun x66 => (pk true (x65, x66)))) fun x68 => (pk true (x67, x68)))) fun x70 => (pk true (x69, x70)))) fun x72 => (pk true (x71, x72)))) fun x74 => (pk true (x73, x74)))) fun x76 => (pk true (x75, x76)))) fun x77 => (pk true ([x77.1, x77.2.1, x77.2.2.1, x77.2.2.2.1, x77.2.2.2.2.1, x77.2.2.2.2.2.1, x77.2.2.2.2.2.2]))) fun (y48 : (List PyData)) => (bk true (bk true (pk true y48) fun x79 => (bk true (pk true ([(PyData.tuple [((eT eA) y1), ((eT eA) y32), ((eT eA) y1)]), (PyData.tuple [((eT eA) y32)]), (PyData.tuple [((eT eA) y1), ((eT eA) y1), ((eT eA) y32)])] : List PyData)) fun x80 => (lk true (oCat x79 x80)))) fun (l78 : List PyData) => (bk true (bk true (bk true (bk true (bk true (pk true y1) fun x84 => (bk true (bk true (pk true (PyData.int 0)) fun x83 => (pk true ([x83]))) fun x85 => (lk true (oCat x84 x85)))) fun x86 => (pk true ((eT eA) x86))) fun x87 => (pk true ([x87]))) fun x88 => (pk true ((eT eA) x88))) fun x102 => (bk true (lk true (oApp l78 x102)) fun (l81 : List PyData) => (bk true (bk true (bk true (pk true l81) fun x99 => (bk true (bk true (bk true (bk true (bk true (bk true (bk true (pk true ()) fun x90 => (pk true ([x90]))) fun x92 => (bk true (bk true (pk true v) fun x91 => (pk true (x91.length : Int))) fun x93 => (lk true (oRep x92 x93)))) fun x94 => (pk true ([x94]))) fun x95 => (bk true (pk true (7 : Int)) fun x96 => (lk true (oRep x95 x96)))) fun x97 => (pk true ((eT (eT eN)) x97))) fun x98 => (pk true ([x98]))) fun x100 => (lk true (oCat x99 x100)))) fun x101 => (m__law_one x101)) fun x89 => (pk true (Out.rt (id x89))))))))))))
def m__law_bad_table (v : ((List (Option (List Int))))) : Mk true PyData := exO true (Empty.elim) (b__law_bad_table v)
theorem k__law_bad_table {P : Program} {w : World} {K : PySem.W.Frag} {mg : Str → Option Value} {base : Heap} (W : Wd K mg) : Kn P w K mg base 4 "_law_bad_table" (spX K (fun (v : ((List (Option (List Int))))) => [(eT (eO (eT eI))) v]) m__law_bad_table (xV eA)) :=
  kn_x (er := fun (v : ((List (Option (List Int))))) => [(eT (eO (eT eI))) v]) (xr := (xV eA)) W.f__law_bad_table W.g__law_bad_table sc__law_bad_table (fun _ _ _ _ _ _ us hl => match us, hl with | [_, _], _ => rfl) (fun _ => rfl) (by decide) (Empty.elim) (fun s => nomatch s) (fun _ _ _ s => nomatch s) b__law_bad_table (fun _ _ _ s => nomatch s) (fun f cdv A outer s H g E' E0 v B pa ca hr tk => by
    have nd := sc__law_bad_table.nd
    have c__law_one := (k__law_one (P := P) (w := w) (base := base) W).mono (show 3 ≤ 3 by decide)
    have c__law_take := (kx__law_take (P := P) (w := w) (base := base) W).mono (show 2 ≤ 3 by decide)
    unfold b__law_bad_table
    exact (ms_set 2 (fun _ => nd) (me_tuple sqL (fun _ => W.m_tuple) (me_enc (eb := (eL eA)) (me_F (mf_comp1 (eb := eA) (fun _ => rfl) (fun _ => nd) (fun _ => blk_ok (own := [("own", 7)]) (by kernel_rfl)) (mi_seq sqT (me_v 1 v)) (mg_name 7 (fun _ => nd)) (fun a4 => (me_if (mt_isN (f := isNo) (isO noT) (me_v 7 a4)) (me_lit ml_int) (me_any (me_ix sqT (me_get (me_v 7 a4)) me_int)))))))) (fun y1 => (ms_set 3 (fun _ => nd) (me_callXV (fun _ => c__law_take) (fun _ => hr) (fun _ => tk) (mpen_v 0) (ma_one (me_len sqT (fun _ => W.m_len) (me_v 1 v)))) (fun y12 => (ms_set 4 (fun _ => nd) (me_one (fun _ => c__law_one) (fun _ => hr) (fun _ => tk) sqL (mpen_v 0) (ma_one (me_enc (eb := (eL eA)) (me_F (mf_as (f := fun v => [v.1, v.2.1, v.2.2.1, v.2.2.2.1, v.2.2.2.2.1, v.2.2.2.2.2]) (er' := fun l => l.map eA) (mf_lst (ma_cons (me_lit (ml_neg ml_int)) (ma_cons (me_lit ml_bl) (ma_cons (me_lit ml_str) (ma_cons (me_lit (ml_tup (mls_cons ml_int mls_nil))) (ma_cons (me_lit (ml_lst (mls_cons ml_int mls_nil))) (ma_one (me_if (mt_isnotN (f := isNo) (isO noT) (me_ix sqT (me_v 1 v) (me_v 3 y12))) (me_lit ml_int) (me_lit (ml_neg ml_int)))))))))) (fun _ => rfl)))))) (fun y15 => (ms_set 5 (fun _ => nd) (me_catT (me_catT (me_slT (me_v 2 y1) mp_none (mp_some (me_v 3 y12))) (me_as (f := fun v => [v]) (eb := (eT eA)) (me_tup (ma_one (me_v 4 y15))) (fun _ => rfl))) (me_slT (me_v 2 y1) (mp_some (me_addI (me_v 3 y12) me_int)) mp_none)) (fun y32 => (ms_set 6 (fun _ => nd) (me_enc (eb := (eL eA)) (me_F (mf_as (f := fun v => [v.1, v.2.1, v.2.2.1, v.2.2.2.1, v.2.2.2.2.1, v.2.2.2.2.2.1, v.2.2.2.2.2.2]) (er' := fun l => l.map eA) (mf_lst (ma_cons (me_lit ml_non) (ma_cons (me_lit (ml_lst (mls_cons (ml_of (me_v 2 y1)) mls_nil))) (ma_cons (me_any (me_repT (me_as (f := fun v => [v]) (eb := (eT (eT eA))) (me_tup (ma_one (me_v 2 y1))) (fun _ => rfl)) me_int)) (ma_cons (me_any (me_as (f := fun v => [v]) (eb := (eT eA)) (me_tup (ma_one (me_any (me_enc (eb := (eL eA)) (me_F (mf_list sqT (fun _ => W.m_list) (me_v 2 y1))))))) (fun _ => rfl))) (ma_cons (me_any (me_as (f := fun v => [v]) (eb := (eT eA)) (me_tup (ma_one (me_any (me_slT (me_v 2 y1) (mp_some me_int) mp_none)))) (fun _ => rfl))) (ma_cons (me_lit ml_str) (ma_one (me_any (me_v 2 y1)))))))))) (fun _ => rfl)))) (fun y48 => (ms_setN 6 (fun _ => nd) (mn_cat (me_v 6 y48) (me_enc (eb := (eL eA)) (me_F (mf_lit (mls_cons (ml_tup (mls_cons (ml_of (me_v 2 y1)) (mls_cons (ml_of (me_v 5 y32)) (mls_cons (ml_of (me_v 2 y1)) mls_nil)))) (mls_cons (ml_tup (mls_cons (ml_of (me_v 5 y32)) mls_nil)) (mls_cons (ml_tup (mls_cons (ml_of (me_v 2 y1)) (mls_cons (ml_of (me_v 2 y1)) (mls_cons (ml_of (me_v 5 y32)) mls_nil)))) mls_nil))))))) (fun l78 => (ms_append 6 (me_any (me_as (f := fun v => [v]) (eb := (eT eA)) (me_tup (ma_one (me_any (me_catT (me_v 2 y1) (me_as (f := fun v => [v]) (eb := (eT eA)) (me_tup (ma_one (me_lit ml_int))) (fun _ => rfl)))))) (fun _ => rfl))) (fun l81 => (ms_frz 6 (ms_ret id (fun _ => rfl) (me_one (fun _ => c__law_one) (fun _ => hr) (fun _ => tk) sqL (mpen_v 0) (ma_one (me_enc (eb := (eL eA)) (me_N (mn_cat (me_v 6 l81) (me_enc (eb := (eL eA)) (me_F (mf_as (f := fun v => [v]) (er' := fun l => l.map eA) (mf_lst (ma_one (me_any (me_repT (me_as (f := fun v => [v]) (eb := (eT (eT eN))) (me_tup (ma_one (me_repT (me_as (f := fun v => [v]) (eb := (eT eN)) (me_tup (ma_one me_non)) (fun _ => rfl)) (me_len sqT (fun _ => W.m_len) (me_v 1 v))))) (fun _ => rfl)) me_int)))) (fun _ => rfl))))))))))))))))))))))))))
end Q92
end
section
set_option maxHeartbeats 4000000
namespace Q92
open PySem PySem.Spec PyProof.Rows L2 SK
/-! ### _law_told -/
theorem sc__law_told : FnScope ["sort", "own", "kept", "word"] ["sort", "own"] (defScope S__law_told) := ⟨rfl, rfl, rfl, by decide +kernel, rfl, by decide +kernel, by decide +kernel⟩
def b__law_told (v : (Int × (List PyData))) : Mk false (Out Empty Str) := (bk false (bk false (bk false (pk false v.2) fun x2 => (lk false (oRepr ((eL eA) x2)))) fun x3 => (bk false (pk false ("taken" : Str)) fun x4 => (pk false (x3, x4)))) fun (y1 : Str × Str) => (tr false (bk false (bk false (pk false v.1) fun x6 => (bk false (pk false (0 : Int)) fun x7 => (pk false (false ^^ decide (x6 = x7))))) fun x8 => if x8 = true then (rr false (bk false (bk false (bk false (pk false v.2) fun x9 => (bk false (pk false (0 : Int)) fun x10 => (lk false (oAt x9 x10)))) fun x17 => (bk false (bk false (bk false (pk false v.2) fun x11 => (bk false (pk false (1 : Int)) fun x12 => (lk false (oAt x11 x12)))) fun x15 => (bk false (bk false (pk false v.2) fun x13 => (bk false (pk false (2 : Int)) fun x14 => (lk false (oAt x13 x14)))) fun x16 => (pk false (x15, x16)))) fun x18 => (pk false (x17, x18)))) fun v19 => (lk false (m_kept_count v19))) fun _ => (pk false (Res.ok y1.2))) else (bk false (bk false (pk false v.1) fun x20 => (bk false (pk false (1 : Int)) fun x21 => (pk false (false ^^ decide (x20 = x21))))) fun x22 => if x22 = true then (rr false (bk false (bk false (bk false (pk false v.2) fun x23 => (bk false (pk false (0 : Int)) fun x24 => (lk false (oAt x23 x24)))) fun x31 => (bk false (bk false (bk false (pk false v.2) fun x25 => (bk false (pk false (1 : Int)) fun x26 => (lk false (oAt x25 x26)))) fun x29 => (bk false (bk false (pk false v.2) fun x27 => (bk false (pk false (2 : Int)) fun x28 => (lk false (oAt x27 x28)))) fun x30 => (pk false (x29, x30)))) fun x32 => (pk false (x31, x32)))) fun v33 => (lk false (m_value_counts v33))) fun _ => (pk false (Res.ok y1.2))) else (bk false (bk false (pk false v.1) fun x34 => (bk false (pk false (2 : Int)) fun x35 => (pk false (false ^^ decide (x34 = x35))))) fun x36 => if x36 = true then (rr false (bk false (bk false (bk false (pk false v.2) fun x37 => (bk false (pk false (0 : Int)) fun x38 => (lk false (oAt x37 x38)))) fun x45 => (bk false (bk false (bk false (pk false v.2) fun x39 => (bk false (pk false (1 : Int)) fun x40 => (lk false (oAt x39 x40)))) fun x43 => (bk false (bk false (pk false v.2) fun x41 => (bk false (pk false (2 : Int)) fun x42 => (lk false (oAt x41 x42)))) fun x44 => (pk false (x43, x44)))) fun x46 => (pk false (x45, x46)))) fun v47 => (lk false (m_count_tree v47))) fun _ => (pk false (Res.ok y1.2))) else (rr false (bk false (bk false (bk false (pk false v.2) fun x48 => (bk false (pk false (0 : Int)) fun x49 => (lk false (oAt x48 x49)))) fun x60 => (bk false (bk false (bk false (pk false v.2) fun x50 => (bk false (pk false (1 : Int)) fun x51 => (lk false (oAt x50 x51)))) fun x58 => (bk false (bk false (bk false (pk false v.2) fun x52 => (bk false (pk false (2 : Int)) fun x53 => (lk false (oAt x52 x53)))) fun x56 => (bk false (bk false (pk false v.2) fun x54 => (bk false (pk false (3 : Int)) fun x55 => (lk false (oAt x54 x55)))) fun x57 => (pk false (x56, x57)))) fun x59 => (pk false (x58, x59)))) fun x61 => (pk false (x60, x61)))) fun v62 => (lk false (m_tree_number v62))) fun _ => (pk false (Res.ok y1.2)))))) (fun (s5 : Str) => (bk false (bk false (bk false (bk false (pk false v.2) fun x70 => (lk false (oRepr ((eL eA) x70)))) fun x71 => (bk false (pk false y1.1) fun x72 => (pk false (false ^^ decide (x71 = x72))))) fun x73 => if x73 = true then (pk false s5) else (pk false ("changed" : Str))) fun x69 => (pk false (Out.rt (id x69))))) fun c => (bk false (lk false ((fun c => if c = ("InvalidColumns" : Str) then some true else if c = ("InvalidDemand" : Str) then some false else if c = ("InvalidTable" : Str) then some false else none) c)) fun b68 => if b68 = true then (bk false (pk false ("columns" : Str)) fun (y67 : Str) => (pk false (Out.nx y67))) else (bk false (lk false ((fun c => if c = ("InvalidColumns" : Str) then some false else if c = ("InvalidDemand" : Str) then some false else if c = ("InvalidTable" : Str) then some true else none) c)) fun b66 => if b66 = true then (bk false (pk false ("table" : Str)) fun (y65 : Str) => (pk false (Out.nx y65))) else (bk false (lk false ((fun c => if c = ("InvalidColumns" : Str) then some false else if c = ("InvalidDemand" : Str) then some true else if c = ("InvalidTable" : Str) then some false else none) c)) fun b64 => if b64 = true then (bk false (pk false ("demand" : Str)) fun (y63 : Str) => (pk false (Out.nx y63))) else (lk false none))))))
def m__law_told (v : (Int × (List PyData))) : Mk false Str := exO false (Empty.elim) (b__law_told v)
theorem k__law_told {P : Program} {w : World} {K : PySem.W.Frag} {mg : Str → Option Value} {base : Heap} (W : Wd K mg) : Kn P w K mg base 23 "_law_told" (spM K (fun (v : (Int × (List PyData))) => [eI v.1, (eL eA) v.2]) m__law_told (xV eS)) :=
  kn_m (er := fun (v : (Int × (List PyData))) => [eI v.1, (eL eA) v.2]) (xr := (xV eS)) W.f__law_told W.g__law_told sc__law_told (fun _ _ _ _ _ _ us hl => match us, hl with | [_, _], _ => rfl) (fun _ => rfl) (by decide) (Empty.elim) (fun s => nomatch s) (fun _ _ s => nomatch s) b__law_told (fun _ _ s => nomatch s) (fun f cdv A outer s H g E' E0 v B p hr tk => by
    have nd := sc__law_told.nd
    have c_count_tree := (k_count_tree (P := P) (w := w) (base := base) W).mono (show 15 ≤ 22 by decide)
    have c_kept_count := (k_kept_count (P := P) (w := w) (base := base) W).mono (show 22 ≤ 22 by decide)
    have c_tree_number := (k_tree_number (P := P) (w := w) (base := base) W).mono (show 21 ≤ 22 by decide)
    have c_value_counts := (k_value_counts (P := P) (w := w) (base := base) W).mono (show 22 ≤ 22 by decide)
    unfold b__law_told
    exact (ms_par 2 3 (fun _ => nd) (ma_cons (me_repr (fun _ => hr.g) (fun _ => hr.r.units) (fun _ => W.m_repr) (me_v 1 v.2)) (ma_one me_str)) (fun y1 => (ms_try (Cm := fun (s5 : Str) => (⟨[(0, .p (eI v.1)), (1, .p ((eL eA) v.2)), (2, .p (eS y1.1)), (3, .p (eS s5))], [], [], p, 4, B⟩ : Ct)) (fun _ => tk) (fun _ => rfl) (fun E' tk hp => (mb_if (mt_cmp (fun _ => opEq false hr.r.units) (re_eqT false qI (by decide) (me_v 0 v.1) me_int)) (mb_exprE (sub_of (SubF.cons rfl (SubF.cons rfl (SubF.cons rfl (SubF.cons rfl SubF.nil))))) (mr_callR (fun _ => c_kept_count) (fun _ => hr) tk (ma_cons (me_ix sqL (me_v 1 v.2) me_int) (ma_cons (me_ix sqL (me_v 1 v.2) me_int) (ma_one (me_ix sqL (me_v 1 v.2) me_int))))) (fun _ => (mb_nil (s := y1.2) (sub_of (SubF.cons rfl (SubF.cons rfl (SubF.cons rfl (SubF.cons rfl SubF.nil)))))))) (mb_if (mt_cmp (fun _ => opEq false hr.r.units) (re_eqT false qI (by decide) (me_v 0 v.1) me_int)) (mb_exprE (sub_of (SubF.cons rfl (SubF.cons rfl (SubF.cons rfl (SubF.cons rfl SubF.nil))))) (mr_callRL (fun _ => c_value_counts) (fun _ => hr) tk (ma_cons (me_ix sqL (me_v 1 v.2) me_int) (ma_cons (me_ix sqL (me_v 1 v.2) me_int) (ma_one (me_ix sqL (me_v 1 v.2) me_int))))) (fun _ => (mb_nil (s := y1.2) (sub_of (SubF.cons rfl (SubF.cons rfl (SubF.cons rfl (SubF.cons rfl SubF.nil)))))))) (mb_if (mt_cmp (fun _ => opEq false hr.r.units) (re_eqT false qI (by decide) (me_v 0 v.1) me_int)) (mb_exprE (sub_of (SubF.cons rfl (SubF.cons rfl (SubF.cons rfl (SubF.cons rfl SubF.nil))))) (mr_callR (fun _ => c_count_tree) (fun _ => hr) tk (ma_cons (me_ix sqL (me_v 1 v.2) me_int) (ma_cons (me_ix sqL (me_v 1 v.2) me_int) (ma_one (me_ix sqL (me_v 1 v.2) me_int))))) (fun _ => (mb_nil (s := y1.2) (sub_of (SubF.cons rfl (SubF.cons rfl (SubF.cons rfl (SubF.cons rfl SubF.nil)))))))) (mb_exprE (sub_of (SubF.cons rfl (SubF.cons rfl (SubF.cons rfl (SubF.cons rfl SubF.nil))))) (mr_callR (fun _ => c_tree_number) (fun _ => hr) tk (ma_cons (me_ix sqL (me_v 1 v.2) me_int) (ma_cons (me_ix sqL (me_v 1 v.2) me_int) (ma_cons (me_ix sqL (me_v 1 v.2) me_int) (ma_one (me_ix sqL (me_v 1 v.2) me_int)))))) (fun _ => (mb_nil (s := y1.2) (sub_of (SubF.cons rfl (SubF.cons rfl (SubF.cons rfl (SubF.cons rfl SubF.nil)))))))))))) (mh_cons (fun c => if c = ("InvalidColumns" : Str) then some true else if c = ("InvalidDemand" : Str) then some false else if c = ("InvalidTable" : Str) then some false else none) (fun _ => names_of (by exact rfl) W.g_InvalidColumns) (fun c b h => by by_cases q0 : c = ("InvalidColumns" : Str); (subst q0; rw [if_pos rfl] at h; cases h; exact W.em_InvalidColumns_InvalidColumns); rw [if_neg q0] at h; by_cases q1 : c = ("InvalidDemand" : Str); (subst q1; rw [if_pos rfl] at h; cases h; exact W.em_InvalidDemand_InvalidColumns); rw [if_neg q1] at h; by_cases q2 : c = ("InvalidTable" : Str); (subst q2; rw [if_pos rfl] at h; cases h; exact W.em_InvalidTable_InvalidColumns); rw [if_neg q2] at h; cases h) (ms_set 3 (fun _ => nd) me_str (fun y67 => (ms_nil (s := y67) (sub_of (SubF.cons rfl (SubF.cons rfl (SubF.cons rfl (SubF.cons rfl SubF.nil)))))))) (mh_cons (fun c => if c = ("InvalidColumns" : Str) then some false else if c = ("InvalidDemand" : Str) then some false else if c = ("InvalidTable" : Str) then some true else none) (fun _ => names_of (by exact rfl) W.g_InvalidTable) (fun c b h => by by_cases q0 : c = ("InvalidColumns" : Str); (subst q0; rw [if_pos rfl] at h; cases h; exact W.em_InvalidColumns_InvalidTable); rw [if_neg q0] at h; by_cases q1 : c = ("InvalidDemand" : Str); (subst q1; rw [if_pos rfl] at h; cases h; exact W.em_InvalidDemand_InvalidTable); rw [if_neg q1] at h; by_cases q2 : c = ("InvalidTable" : Str); (subst q2; rw [if_pos rfl] at h; cases h; exact W.em_InvalidTable_InvalidTable); rw [if_neg q2] at h; cases h) (ms_set 3 (fun _ => nd) me_str (fun y65 => (ms_nil (s := y65) (sub_of (SubF.cons rfl (SubF.cons rfl (SubF.cons rfl (SubF.cons rfl SubF.nil)))))))) (mh_cons (fun c => if c = ("InvalidColumns" : Str) then some false else if c = ("InvalidDemand" : Str) then some true else if c = ("InvalidTable" : Str) then some false else none) (fun _ => names_of (by exact rfl) W.g_InvalidDemand) (fun c b h => by by_cases q0 : c = ("InvalidColumns" : Str); (subst q0; rw [if_pos rfl] at h; cases h; exact W.em_InvalidColumns_InvalidDemand); rw [if_neg q0] at h; by_cases q1 : c = ("InvalidDemand" : Str); (subst q1; rw [if_pos rfl] at h; cases h; exact W.em_InvalidDemand_InvalidDemand); rw [if_neg q1] at h; by_cases q2 : c = ("InvalidTable" : Str); (subst q2; rw [if_pos rfl] at h; cases h; exact W.em_InvalidTable_InvalidDemand); rw [if_neg q2] at h; cases h) (ms_set 3 (fun _ => nd) me_str (fun y63 => (ms_nil (s := y63) (sub_of (SubF.cons rfl (SubF.cons rfl (SubF.cons rfl (SubF.cons rfl SubF.nil)))))))) mh_none))) (fun s5 => (ms_ret id (fun _ => rfl) (me_if (mt_cmp (fun _ => opEq false hr.r.units) (re_eqS false (me_repr (fun _ => hr.g) (fun _ => hr.r.units) (fun _ => W.m_repr) (me_v 1 v.2)) (me_v 2 y1.1))) (me_v 3 s5) me_str)))))))
end Q92
end
section
set_option maxHeartbeats 4000000
namespace Q92
open PySem PySem.Spec PyProof.Rows L2 SK
/-! ### _law_bad_demand -/
theorem sc__law_bad_demand : FnScope ["pen", "many", "bad", "good", "some"] ["pen", "many"] (defScope S__law_bad_demand) := ⟨rfl, rfl, rfl, by decide +kernel, rfl, by decide +kernel, by decide +kernel⟩
def b__law_bad_demand (v : (Int)) : Mk true (Out Empty PyData) := (bk true (bk true (bk true (pk true v) fun v2 => (m__law_bad_set v2)) fun x5 => (bk true (bk true (bk true (pk true v) fun v3 => (m__law_set v3)) fun x4 => (pk true ((eT eI) x4))) fun x6 => (pk true (x5, x6)))) fun (y1 : PyData × PyData) => (bk true (bk true (pk true ([(PyData.tuple [(eA y1.1)]), (PyData.tuple [(eA y1.2), (eA y1.1)]), (PyData.tuple [(eA y1.1), (eA y1.2), (eA y1.2)])] : List PyData)) fun x8 => (bk true (pk true (2 : Int)) fun x9 => (lk true (oRep x8 x9)))) fun (y7 : (List PyData)) => (bk true (bk true (pk true y7) fun x11 => (bk true (pk true ([(PyData.tuple [(eA y1.2), (eA y1.2), (eA y1.1), (eA y1.2)]), (PyData.tuple [(eA y1.2), (eA y1.2), (eA y1.1)])] : List PyData)) fun x12 => (lk true (oCat x11 x12)))) fun (y10 : (List PyData)) => (bk true (bk true (bk true (pk true y10) fun x31 => (bk true (bk true (bk true (pk true PyData.none) fun x28 => (bk true (bk true (pk true (PyData.list [(eA y1.2)])) fun x26 => (bk true (bk true (pk true (PyData.str "0")) fun x24 => (bk true (bk true (pk true (PyData.int 7)) fun x22 => (bk true (bk true (bk true (bk true (bk true (pk true y1.2) fun x14 => (pk true ([x14]))) fun x15 => (bk true (pk true (5 : Int)) fun x16 => (lk true (oRep x15 x16)))) fun x17 => (pk true ((eT eA) x17))) fun x20 => (bk true (bk true (pk true (PyData.tuple [(PyData.str "0")])) fun x18 => (bk true (pk true (PyData.list [(PyData.tuple [])])) fun x19 => (pk true (x18, x19)))) fun x21 => (pk true (x20, x21)))) fun x23 => (pk true (x22, x23)))) fun x25 => (pk true (x24, x25)))) fun x27 => (pk true (x26, x27)))) fun x29 => (pk true (x28, x29)))) fun x30 => (pk true ([x30.1, x30.2.1, x30.2.2.1, x30.2.2.2.1, x30.2.2.2.2.1, x30.2.2.2.2.2.1, x30.2.2.2.2.2.2]))) fun x32 => (lk true (oCat x31 x32)))) fun x33 => (m__law_one x33)) fun x13 => (pk true (Out.rt (id x13)))))))
def m__law_bad_demand (v : (Int)) : Mk true PyData := exO true (Empty.elim) (b__law_bad_demand v)
theorem k__law_bad_demand {P : Program} {w : World} {K : PySem.W.Frag} {mg : Str → Option Value} {base : Heap} (W : Wd K mg) : Kn P w K mg base 5 "_law_bad_demand" (spX K (fun (v : (Int)) => [eI v]) m__law_bad_demand (xV eA)) :=
  kn_x (er := fun (v : (Int)) => [eI v]) (xr := (xV eA)) W.f__law_bad_demand W.g__law_bad_demand sc__law_bad_demand (fun _ _ _ _ _ _ us hl => match us, hl with | [_, _], _ => rfl) (fun _ => rfl) (by decide) (Empty.elim) (fun s => nomatch s) (fun _ _ _ s => nomatch s) b__law_bad_demand (fun _ _ _ s => nomatch s) (fun f cdv A outer s H g E' E0 v B pa ca hr tk => by
    have nd := sc__law_bad_demand.nd
    have c__law_bad_set := (k__law_bad_set (P := P) (w := w) (base := base) W).mono (show 4 ≤ 4 by decide)
    have c__law_one := (k__law_one (P := P) (w := w) (base := base) W).mono (show 3 ≤ 4 by decide)
    have c__law_set := (k__law_set (P := P) (w := w) (base := base) W).mono (show 3 ≤ 4 by decide)
    unfold b__law_bad_demand
    exact (ms_par 2 3 (fun _ => nd) (ma_cons (me_callXV (fun _ => c__law_bad_set) (fun _ => hr) (fun _ => tk) (mpen_v 0) (ma_one (me_v 1 v))) (ma_one (me_any (me_callXV (fun _ => c__law_set) (fun _ => hr) (fun _ => tk) (mpen_v 0) (ma_one (me_v 1 v)))))) (fun y1 => (ms_set 4 (fun _ => nd) (me_enc (eb := (eL eA)) (me_N (mn_rep (me_enc (eb := (eL eA)) (me_F (mf_lit (mls_cons (ml_tup (mls_cons (ml_of (me_v 2 y1.1)) mls_nil)) (mls_cons (ml_tup (mls_cons (ml_of (me_v 3 y1.2)) (mls_cons (ml_of (me_v 2 y1.1)) mls_nil))) (mls_cons (ml_tup (mls_cons (ml_of (me_v 2 y1.1)) (mls_cons (ml_of (me_v 3 y1.2)) (mls_cons (ml_of (me_v 3 y1.2)) mls_nil)))) mls_nil)))))) me_int))) (fun y7 => (ms_set 4 (fun _ => nd) (me_enc (eb := (eL eA)) (me_N (mn_cat (me_v 4 y7) (me_enc (eb := (eL eA)) (me_F (mf_lit (mls_cons (ml_tup (mls_cons (ml_of (me_v 3 y1.2)) (mls_cons (ml_of (me_v 3 y1.2)) (mls_cons (ml_of (me_v 2 y1.1)) (mls_cons (ml_of (me_v 3 y1.2)) mls_nil))))) (mls_cons (ml_tup (mls_cons (ml_of (me_v 3 y1.2)) (mls_cons (ml_of (me_v 3 y1.2)) (mls_cons (ml_of (me_v 2 y1.1)) mls_nil)))) mls_nil)))))))) (fun y10 => (ms_ret id (fun _ => rfl) (me_one (fun _ => c__law_one) (fun _ => hr) (fun _ => tk) sqL (mpen_v 0) (ma_one (me_enc (eb := (eL eA)) (me_N (mn_cat (me_v 4 y10) (me_enc (eb := (eL eA)) (me_F (mf_as (f := fun v => [v.1, v.2.1, v.2.2.1, v.2.2.2.1, v.2.2.2.2.1, v.2.2.2.2.2.1, v.2.2.2.2.2.2]) (er' := fun l => l.map eA) (mf_lst (ma_cons (me_lit ml_non) (ma_cons (me_lit (ml_lst (mls_cons (ml_of (me_v 3 y1.2)) mls_nil))) (ma_cons (me_lit ml_str) (ma_cons (me_lit ml_int) (ma_cons (me_any (me_repT (me_as (f := fun v => [v]) (eb := (eT eA)) (me_tup (ma_one (me_v 3 y1.2))) (fun _ => rfl)) me_int)) (ma_cons (me_lit (ml_tup (mls_cons ml_str mls_nil))) (ma_one (me_lit (ml_lst (mls_cons (ml_tup mls_nil) mls_nil))))))))))) (fun _ => rfl)))))))))))))))))
end Q92
end
section
set_option maxHeartbeats 4000000
namespace Q92
open PySem PySem.Spec PyProof.Rows L2 SK
/-! ### law -/
theorem sc_law : FnScope ["script", "pen", "turn", "columns", "table", "demand", "bad", "thing", "sort", "k", "own", "at"] ["script"] (defScope S_law) := ⟨rfl, rfl, rfl, by decide +kernel, rfl, by decide +kernel, by decide +kernel⟩
def b_law : Mk true (Out Empty Bool) := (bk true (bk true (pk true (9 : Int)) fun x1 => (lk true (oRng 0 x1))) fun l74 => ob true (forM true (fun (a2 : Int) (s3 : Unit) => (bk true (bk true (pk true (4 : Int)) fun v5 => (m__law_columns v5)) fun (y4 : (List (Option (List Int)))) => (bk true (bk true (bk true (pk true y4) fun x10 => (bk true (bk true (bk true (pk true ([(0 : Int), (1 : Int), (2 : Int), (5 : Int), (8 : Int)] : (List Int))) fun x7 => (m__law_one x7)) fun x8 => (bk true (pk true (4 : Int)) fun x9 => (pk true (x8, x9)))) fun x11 => (pk true (x10, x11)))) fun v12 => (m__law_table v12)) fun (y6 : (List (List (Option Int)))) => (bk true (bk true (bk true (bk true (pk true y4) fun x14 => (pk true (x14.length : Int))) fun v15 => (m__law_set v15)) fun x16 => (pk true ([x16]))) fun (y13 : (List (List Int))) => (bk true (bk true (bk true (bk true (pk true ()) fun v18 => (m__law_bad_columns v18)) fun x20 => (bk true (bk true (pk true y4) fun v19 => (m__law_bad_table v19)) fun x21 => (pk true (x20, x21)))) fun x22 => (pk true ([x22.1, x22.2]))) fun (l17 : List PyData) => (bk true (bk true (bk true (pk true y4) fun x24 => (pk true (x24.length : Int))) fun v25 => (m__law_bad_demand v25)) fun x72 => (bk true (lk true (oApp l17 x72)) fun (l23 : List PyData) => (bk true (bk true (pk true ([PyData.none, (PyData.tuple []), (PyData.int 0), (PyData.str "sure"), (PyData.list [(PyData.str "sure")]), (PyData.tuple [(PyData.str "split")]), (PyData.tuple [PyData.none])] : List PyData)) fun x27 => (m__law_one x27)) fun (y26 : PyData) => (bk true (bk true (pk true (4 : Int)) fun x28 => (lk true (oRng 0 x28))) fun l71 => ob true (forM true (fun (a29 : Int) (s30 : Unit) => (bk true (bk true (pk true (3 : Int)) fun x31 => (lk true (oRng 0 x31))) fun l70 => ob true (forM true (fun (a32 : Int) (s33 : Unit) => (bk true (pk true ([((eT (eO (eT eI))) y4), ((eT (eT (eO eI))) y6), ((eT (eT eI)) y13), (eA y26)] : List PyData)) fun (l34 : List PyData) => (bk true (bk true (pk true (3 : Int)) fun x35 => (lk true (oRng 0 x35))) fun l62 => ob true (forM true (fun (a36 : Int) (s37 : List PyData) => (bk true (bk true (bk true (pk true a36) fun x38 => (bk true (pk true a32) fun x39 => (pk true (false ^^ decide (x38 = x39))))) fun x46 => if x46 = true then (pk true true) else (bk true (bk true (pk true a36) fun x40 => (bk true (pk true a32) fun x41 => (pk true (CmpI.f .gt x40 x41)))) fun x45 => if x45 = true then (bk true (bk true (pk true (2 : Int)) fun v42 => (m__law_take v42)) fun x43 => (bk true (pk true (0 : Int)) fun x44 => (pk true (false ^^ decide (x43 = x44))))) else (pk true false))) fun x47 => if x47 = true then (bk true (bk true (pk true l23) fun x48 => (bk true (pk true a36) fun x49 => (lk true (oAt x48 x49)))) fun x51 => (bk true (pk true a36) fun x52 => (bk true (lk true (oSet s37 x52 x51)) fun (l50 : List PyData) => (pk true (Out.nx l50))))) else (pk true (Out.nx s37)))) l62 l34) fun (s37 : List PyData) => (bk true (bk true (bk true (bk true (pk true a29) fun x53 => (bk true (pk true s37) fun x54 => (pk true (x53, x54)))) fun v55 => (lk true (m__law_told v55))) fun x58 => (bk true (bk true (pk true ([("columns" : Str), ("table" : Str), ("demand" : Str)] : List Str)) fun x56 => (bk true (pk true a32) fun x57 => (lk true (oAt x56 x57)))) fun x59 => (pk true (true ^^ decide (x58 = x59))))) fun x60 => if x60 = true then (bk true (pk true false) fun x61 => (pk true (Out.rt (id x61)))) else (pk true (Out.nx ())))))) l70 ()) fun (s33 : Unit) => (bk true (bk true (bk true (bk true (pk true a29) fun x63 => (bk true (pk true ([((eT (eO (eT eI))) y4), ((eT (eT (eO eI))) y6), ((eT (eT eI)) y13), (eA y26)] : List PyData)) fun x64 => (pk true (x63, x64)))) fun v65 => (lk true (m__law_told v65))) fun x66 => (bk true (pk true ("taken" : Str)) fun x67 => (pk true (true ^^ decide (x66 = x67))))) fun x68 => if x68 = true then (bk true (pk true false) fun x69 => (pk true (Out.rt (id x69)))) else (pk true (Out.nx ()))))) l71 ()) fun (s30 : Unit) => (pk true (Out.nx ()))))))))))) l74 ()) fun (s3 : Unit) => (bk true (pk true true) fun x73 => (pk true (Out.rt (id x73)))))
def m_law : Mk true Bool := exO true Empty.elim b_law
theorem k_law {P : Program} {w : World} {K : PySem.W.Frag} {mg : Str → Option Value} (W : Wd K mg) : ∃ fd : FuncData, (∀ (s : Shared) (u : Value), BindsTo s fd ⟨[u], []⟩ [("script", u)]) ∧ ∀ base : Heap, FnG P w K mg base 24 (He.ga K "law") fd ["script"] (spLaw m_law) := by
  have nd := sc_law.nd
  have c__law_open := fun base : Heap => (k__law_open (P := P) (w := w) (base := base) W).mono (show 1 ≤ 23 by decide)
  exact kn_law W.f_law W.g_law sc_law (fun _ _ _ _ _ _ us hl => match us, hl with | [_], _ => rfl) (by decide) c__law_open (fun _ _ _ s => nomatch s) b_law (fun base f cdv A outer s H g E' E0 hr tk => qs_set 1 nd (q_call (c__law_open base) hr tk rfl (qa_cons (qv 0) qa_nil))) (fun base f cdv A outer s H g E' E0 B pa ca hr tk => by
    have c__law_anew := (k__law_anew (P := P) (w := w) (base := base) W).mono (show 1 ≤ 23 by decide)
    have c__law_bad_columns := (k__law_bad_columns (P := P) (w := w) (base := base) W).mono (show 4 ≤ 23 by decide)
    have c__law_bad_demand := (k__law_bad_demand (P := P) (w := w) (base := base) W).mono (show 5 ≤ 23 by decide)
    have c__law_bad_table := (k__law_bad_table (P := P) (w := w) (base := base) W).mono (show 4 ≤ 23 by decide)
    have c__law_columns := (k__law_columns (P := P) (w := w) (base := base) W).mono (show 4 ≤ 23 by decide)
    have c__law_one := (k__law_one (P := P) (w := w) (base := base) W).mono (show 3 ≤ 23 by decide)
    have c__law_set := (k__law_set (P := P) (w := w) (base := base) W).mono (show 3 ≤ 23 by decide)
    have c__law_table := (k__law_table (P := P) (w := w) (base := base) W).mono (show 5 ≤ 23 by decide)
    have c__law_take := (kx__law_take (P := P) (w := w) (base := base) W).mono (show 2 ≤ 23 by decide)
    have c__law_told := (k__law_told (P := P) (w := w) (base := base) W).mono (show 23 ≤ 23 by decide)
    unfold b_law
    exact (ms_for (Cl := fun (s3 : Unit) => (⟨[], [], [(1, .v (.ref pa))], some (pa, ca), 12, B⟩ : Ct)) () (fun _ => passes_of rfl) (mi_rng1 (fun _ => W.m_range) me_int) (mg_name 2 (fun _ => nd)) (sub_of SubF.nil) (fun a2 s3 => (ms_set 3 (fun _ => nd) (me_callXV (fun _ => c__law_columns) (fun _ => hr) (fun _ => tk) (mpen_anew (fun _ => c__law_anew) (fun _ => hr) (fun _ => tk) (mpen_v 1)) (ma_one me_int)) (fun y4 => (ms_set 4 (fun _ => nd) (me_callXV (fun _ => c__law_table) (fun _ => hr) (fun _ => tk) (mpen_v 1) (ma_cons (me_v 3 y4) (ma_cons (me_one (fun _ => c__law_one) (fun _ => hr) (fun _ => tk) sqL (mpen_v 1) (ma_one (me_litT (ea := (eL eI)) (v := [(0 : Int), (1 : Int), (2 : Int), (5 : Int), (8 : Int)]) (ml_lst (mls_cons ml_int (mls_cons ml_int (mls_cons ml_int (mls_cons ml_int (mls_cons ml_int mls_nil))))))))) (ma_one me_int)))) (fun y6 => (ms_set 5 (fun _ => nd) (me_as (f := fun v => [v]) (eb := (eT (eT eI))) (me_tup (ma_one (me_callXV (fun _ => c__law_set) (fun _ => hr) (fun _ => tk) (mpen_v 1) (ma_one (me_len sqT (fun _ => W.m_len) (me_v 3 y4)))))) (fun _ => rfl)) (fun y13 => (ms_setN 6 (fun _ => nd) (mn_F (mf_as (f := fun v => [v.1, v.2]) (er' := fun l => l.map eA) (mf_lst (ma_cons (me_callXV (fun _ => c__law_bad_columns) (fun _ => hr) (fun _ => tk) (mpen_v 1) ma_nil) (ma_one (me_callXV (fun _ => c__law_bad_table) (fun _ => hr) (fun _ => tk) (mpen_v 1) (ma_one (me_v 3 y4)))))) (fun _ => rfl))) (fun l17 => (ms_append 6 (me_callXV (fun _ => c__law_bad_demand) (fun _ => hr) (fun _ => tk) (mpen_v 1) (ma_one (me_len sqT (fun _ => W.m_len) (me_v 3 y4)))) (fun l23 => (ms_frz 6 (ms_set 7 (fun _ => nd) (me_one (fun _ => c__law_one) (fun _ => hr) (fun _ => tk) sqL (mpen_v 1) (ma_one (me_enc (eb := (eL eA)) (me_F (mf_lit (mls_cons ml_non (mls_cons (ml_tup mls_nil) (mls_cons ml_int (mls_cons ml_str (mls_cons (ml_lst (mls_cons ml_str mls_nil)) (mls_cons (ml_tup (mls_cons ml_str mls_nil)) (mls_cons (ml_tup (mls_cons ml_non mls_nil)) mls_nil)))))))))))) (fun y26 => (ms_for (Cl := fun (s30 : Unit) => (⟨[(2, .p (eI a2)), (3, .p ((eT (eO (eT eI))) y4)), (4, .p ((eT (eT (eO eI))) y6)), (5, .p ((eT (eT eI)) y13)), (6, .p ((eL eA) l23)), (7, .p (eA y26))], [], [(1, .v (.ref pa))], some (pa, ca), 12, B⟩ : Ct)) () (fun _ => passes_of rfl) (mi_rng1 (fun _ => W.m_range) me_int) (mg_name 8 (fun _ => nd)) (sub_of (SubF.cons rfl (SubF.cons rfl (SubF.cons rfl (SubF.cons rfl (SubF.cons rfl (SubF.cons rfl SubF.nil))))))) (fun a29 s30 => (ms_for (Cl := fun (s33 : Unit) => (⟨[(2, .p (eI a2)), (3, .p ((eT (eO (eT eI))) y4)), (4, .p ((eT (eT (eO eI))) y6)), (5, .p ((eT (eT eI)) y13)), (6, .p ((eL eA) l23)), (7, .p (eA y26)), (8, .p (eI a29))], [], [(1, .v (.ref pa))], some (pa, ca), 12, B⟩ : Ct)) () (fun _ => passes_of rfl) (mi_rng1 (fun _ => W.m_range) me_int) (mg_name 9 (fun _ => nd)) (sub_of (SubF.cons rfl (SubF.cons rfl (SubF.cons rfl (SubF.cons rfl (SubF.cons rfl (SubF.cons rfl (SubF.cons rfl SubF.nil)))))))) (fun a32 s33 => (ms_setN 10 (fun _ => nd) (mn_F (mf_lit (mls_cons (ml_of (me_v 3 y4)) (mls_cons (ml_of (me_v 4 y6)) (mls_cons (ml_of (me_v 5 y13)) (mls_cons (ml_of (me_v 7 y26)) mls_nil)))))) (fun l34 => (ms_for (Cl := fun (s37 : List PyData) => (⟨[(2, .p (eI a2)), (3, .p ((eT (eO (eT eI))) y4)), (4, .p ((eT (eT (eO eI))) y6)), (5, .p ((eT (eT eI)) y13)), (6, .p ((eL eA) l23)), (7, .p (eA y26)), (8, .p (eI a29)), (9, .p (eI a32))], [(10, false, vL eA s37)], [(1, .v (.ref pa))], some (pa, ca), 12, B⟩ : Ct)) l34 (fun _ => passes_of rfl) (mi_rng1 (fun _ => W.m_range) me_int) (mg_name 11 (fun _ => nd)) (sub_of (SubF.cons rfl (SubF.cons rfl (SubF.cons rfl (SubF.cons rfl (SubF.cons rfl (SubF.cons rfl (SubF.cons rfl (SubF.cons rfl SubF.nil))))))))) (fun a36 s37 => (ms_ifl (mt_w (mw_or (mt_cmp (fun _ => opEq false hr.r.units) (re_eqT false qI (by decide) (me_v 11 a36) (me_v 9 a32))) (mw_or1 (mt_w (mw_and (mt_cmpI .gt (me_v 11 a36) (me_v 9 a32)) (mw_and1 (mt_cmp (fun _ => opEq false hr.r.units) (re_eqT false qI (by decide) (me_callXV (fun _ => c__law_take) (fun _ => hr) (fun _ => tk) (mpen_v 1) (ma_one me_int)) me_int)))))))) (ms_setIx 10 (me_ix sqL (me_v 6 l23) (me_v 11 a36)) (me_v 11 a36) (fun l50 => (ms_nil (s := l50) (sub_of (SubF.cons rfl (SubF.cons rfl (SubF.cons rfl (SubF.cons rfl (SubF.cons rfl (SubF.cons rfl (SubF.cons rfl (SubF.cons rfl SubF.nil)))))))))))) (ms_nil (s := s37) (sub_of (SubF.cons rfl (SubF.cons rfl (SubF.cons rfl (SubF.cons rfl (SubF.cons rfl (SubF.cons rfl (SubF.cons rfl (SubF.cons rfl SubF.nil)))))))))))) (fun s37 => (ms_frz 10 (ms_ifl (mt_cmp (fun _ => opEq true hr.r.units) (re_eqS true (me_callV (fun _ => c__law_told) (fun _ => hr) (fun _ => tk) (ma_cons (me_v 8 a29) (ma_one (me_v 10 s37)))) (me_ix sqL (me_enc (eb := (eL eS)) (me_F (mf_litT (ea := eS) (mls_cons ml_str (mls_cons ml_str (mls_cons ml_str mls_nil)))))) (me_v 9 a32)))) (ms_ret id (fun _ => rfl) me_bl) (ms_nil (s := ()) (sub_of (SubF.cons rfl (SubF.cons rfl (SubF.cons rfl (SubF.cons rfl (SubF.cons rfl (SubF.cons rfl (SubF.cons rfl SubF.nil)))))))))))))))) (fun s33 => (ms_ifl (mt_cmp (fun _ => opEq true hr.r.units) (re_eqS true (me_callV (fun _ => c__law_told) (fun _ => hr) (fun _ => tk) (ma_cons (me_v 8 a29) (ma_one (me_enc (eb := (eL eA)) (me_F (mf_lit (mls_cons (ml_of (me_v 3 y4)) (mls_cons (ml_of (me_v 4 y6)) (mls_cons (ml_of (me_v 5 y13)) (mls_cons (ml_of (me_v 7 y26)) mls_nil)))))))))) me_str)) (ms_ret id (fun _ => rfl) me_bl) (ms_nil (s := ()) (sub_of (SubF.cons rfl (SubF.cons rfl (SubF.cons rfl (SubF.cons rfl (SubF.cons rfl (SubF.cons rfl SubF.nil)))))))))))) (fun s30 => (ms_nil (s := ()) (sub_of SubF.nil)))))))))))))))))) (fun s3 => (ms_ret id (fun _ => rfl) me_bl))))
abbrev law_k : Nat := 24
end Q92
end
section
set_option maxHeartbeats 4000000
namespace Q92
open PySem PySem.Spec PyProof.Rows L2 SK
/-! ### plain: what is a value, a column, columns, .. -/
def intP : PyData → Bool
  | .int _ => true
  | _ => false
theorem p_is_integer (v : PyData) : m_is_integer v = some (intP v) := by
  cases v <;> rfl
def btwP (v : PyData) (a b : Int) : Bool := match v with
  | .int i => decide (a ≤ i) && decide (i ≤ b)
  | _ => false
theorem p_is_between (v : PyData) (a b : Int) : m_is_between (v, a, b) = some (btwP v a b) := by
  unfold m_is_between b_is_between
  simp (implicitDefEqProofs := false) only [lkF, bkF, bkF_n, bkF_if, bkF_bk, obF_rt, obF_nx, obF_if, obF_bk, exF_rt, exF_nx, exF_if, exF_bk, rbF_ok, rbF_er, rrF_ok, rrF_er, rrF_if, trF_ok, trF_er, trF_if, cmp_lt, cmp_le, cmp_gt, cmp_ge, id_eq, if_true, if_false, Bool.false_eq_true, reduceIte, Bool.not_true, Bool.not_false, Bool.false_xor, Bool.true_xor, p_is_integer]
  cases v <;> simp only [intP, if_true, if_false, Bool.false_eq_true, exF_rt, reduceIte, bkF, dI, btwP] <;> try rfl
  by_cases h : a ≤ ‹Int› <;> simp [h, bkF, exF_rt]
def valP : PyData → Bool
  | .int i => decide (0 ≤ i)
  | _ => false
theorem p_is_value (v : PyData) : m_is_value v = some (valP v) := by
  unfold m_is_value b_is_value
  simp (implicitDefEqProofs := false) only [lkF, bkF, bkF_n, bkF_if, bkF_bk, obF_rt, obF_nx, obF_if, obF_bk, exF_rt, exF_nx, exF_if, exF_bk, rbF_ok, rbF_er, rrF_ok, rrF_er, rrF_if, trF_ok, trF_er, trF_if, cmp_lt, cmp_le, cmp_gt, cmp_ge, id_eq, if_true, if_false, Bool.false_eq_true, reduceIte, Bool.not_true, Bool.not_false, Bool.false_xor, Bool.true_xor, p_is_integer]
  cases v <;> rfl
theorem ints_of {f : PyData → Bool} (hf : ∀ p, f p = true → ∃ i, p = .int i) : ∀ {ps : List PyData}, ps.all f = true → ∃ l : List Int, ps = l.map eI ∧ dAll dI ps = some l
  | [], _ => ⟨[], rfl, rfl⟩
  | p :: ps, h => by
    rw [List.all_cons, Bool.and_eq_true] at h
    obtain ⟨i, rfl⟩ := hf p h.1
    obtain ⟨l, e1, e2⟩ := ints_of hf h.2
    refine ⟨i :: l, by rw [e1]; rfl, ?_⟩
    show Option.bind (some i) _ = _
    rw [Option.bind_some, e2]
    rfl
theorem valP_int (p : PyData) (h : valP p = true) : ∃ i, p = .int i := by cases p <;> simp [valP] at h; exact ⟨_, rfl⟩
theorem btwP_int (a b : Int) (p : PyData) (h : btwP p a b = true) : ∃ i, p = .int i := by cases p <;> simp [btwP] at h; exact ⟨_, rfl⟩
theorem dAll_map {α : Type} {e : α → PyData} {d : PyData → Option α} (h : ∀ a, d (e a) = some a) : ∀ l : List α, dAll d (l.map e) = some l
  | [] => rfl
  | a :: l => by
    show Option.bind (d (e a)) _ = _
    rw [h, Option.bind_some]
    show Option.bind (dAll d (l.map e)) _ = _
    rw [dAll_map h l]
    rfl
def incP (ps : List PyData) : Bool := match dAll dI ps with
  | some l => decide (l = sortU l)
  | none => false
theorem eq_sorted (l : List Int) : oEq (eL eA (l.map eI)) (eL eI (sortU l)) = some (decide (l = sortU l)) := by
  have e : eL eA (l.map eI) = eL eI l := by simp [eL, eA]
  rw [e]
  unfold oEq
  rw [if_pos ⟨(qL qI).shaped (by decide) l, (qL qI).shaped (by decide) _⟩, (qL qI).eqv]
def colP : PyData → Bool
  | .none => true
  | .tuple ps => decide (1 ≤ ps.length) && decide (ps.length ≤ 3) && ps.all valP && incP ps
  | _ => false
theorem p_is_column (v : PyData) : m_is_column v = some (colP v) := by
  unfold m_is_column b_is_column
  cases v with
  | none => rfl
  | tuple ps =>
    have e1 : isP "tuple" (eA (.tuple ps)) = true := rfl
    have e2 : noneP (.tuple ps) = false := rfl
    have e3 : pLen (.tuple ps) = some (ps.length : Int) := rfl
    have e4 : pItems (.tuple ps) = some ps := rfl
    simp (implicitDefEqProofs := false) only [lkF, bkF, bkF_n, bkF_if, bkF_bk, obF_rt, obF_nx, obF_if, obF_bk, exF_rt, exF_nx, exF_if, exF_bk, rbF_ok, rbF_er, rrF_ok, rrF_er, rrF_if, trF_ok, trF_er, trF_if, cmp_lt, cmp_le, cmp_gt, cmp_ge, id_eq, if_true, if_false, Bool.false_eq_true, reduceIte, Bool.not_true, Bool.not_false, Bool.false_xor, Bool.true_xor, e1, e2, e3, e4]
    by_cases h1 : 1 ≤ ps.length
    · by_cases h3 : ps.length ≤ 3
      · have h1' : (1 : Int) ≤ (ps.length : Nat) := by omega
        have h3' : ((ps.length : Nat) : Int) ≤ 3 := by omega
        rw [mM_some _ valP ps (fun x _ => by simp (implicitDefEqProofs := false) only [lkF, bkF, bkF_n, bkF_if, bkF_bk, obF_rt, obF_nx, obF_if, obF_bk, exF_rt, exF_nx, exF_if, exF_bk, rbF_ok, rbF_er, rrF_ok, rrF_er, rrF_if, trF_ok, trF_er, trF_if, cmp_lt, cmp_le, cmp_gt, cmp_ge, id_eq, if_true, if_false, Bool.false_eq_true, reduceIte, Bool.not_true, Bool.not_false, Bool.false_xor, Bool.true_xor, p_is_value])]
        simp only [h1', h3', decide_true]
        simp (implicitDefEqProofs := false) only [lkF, bkF, bkF_n, bkF_if, bkF_bk, obF_rt, obF_nx, obF_if, obF_bk, exF_rt, exF_nx, exF_if, exF_bk, rbF_ok, rbF_er, rrF_ok, rrF_er, rrF_if, trF_ok, trF_er, trF_if, cmp_lt, cmp_le, cmp_gt, cmp_ge, id_eq, if_true, if_false, Bool.false_eq_true, reduceIte, Bool.not_true, Bool.not_false, Bool.false_xor, Bool.true_xor]
        by_cases ha : ps.all valP = true
        · obtain ⟨l, rfl, e5⟩ := ints_of valP_int ha
          have ha' : ((l.map eI).map valP).all id = true := by rw [List.all_map]; exact ha
          have e6 : SK.dT dI (.tuple (l.map eI)) = some l := e5
          have hz : l.length < 63 := by simp at h3; omega
          have e7 : oSortU l = some (sortU l) := if_pos hz
          simp only [ha']
          simp (implicitDefEqProofs := false) only [lkF, bkF, bkF_n, bkF_if, bkF_bk, obF_rt, obF_nx, obF_if, obF_bk, exF_rt, exF_nx, exF_if, exF_bk, rbF_ok, rbF_er, rrF_ok, rrF_er, rrF_if, trF_ok, trF_er, trF_if, cmp_lt, cmp_le, cmp_gt, cmp_ge, id_eq, if_true, if_false, Bool.false_eq_true, reduceIte, Bool.not_true, Bool.not_false, Bool.false_xor, Bool.true_xor, e6, e7, eq_sorted, Option.map_some]
          have q : colP (.tuple (l.map eI)) = decide (l = sortU l) := by
            show (decide _ && decide _ && _ && incP _) = _
            rw [ha, decide_eq_true h1, decide_eq_true h3]
            simp [incP, e5]
          rw [q]
        · have ha' : (ps.map valP).all id = false := by rw [List.all_map]; simpa using ha
          have ha2 : ps.all valP = false := by simpa using ha
          simp only [ha']
          simp (implicitDefEqProofs := false) only [lkF, bkF, bkF_n, bkF_if, bkF_bk, obF_rt, obF_nx, obF_if, obF_bk, exF_rt, exF_nx, exF_if, exF_bk, rbF_ok, rbF_er, rrF_ok, rrF_er, rrF_if, trF_ok, trF_er, trF_if, cmp_lt, cmp_le, cmp_gt, cmp_ge, id_eq, if_true, if_false, Bool.false_eq_true, reduceIte, Bool.not_true, Bool.not_false, Bool.false_xor, Bool.true_xor]
          simp [colP, ha2]
      · have h1' : (1 : Int) ≤ (ps.length : Nat) := by omega
        have h3' : ¬ ((ps.length : Nat) : Int) ≤ 3 := by omega
        simp only [h1', h3', decide_true, decide_false]
        simp (implicitDefEqProofs := false) only [lkF, bkF, bkF_n, bkF_if, bkF_bk, obF_rt, obF_nx, obF_if, obF_bk, exF_rt, exF_nx, exF_if, exF_bk, rbF_ok, rbF_er, rrF_ok, rrF_er, rrF_if, trF_ok, trF_er, trF_if, cmp_lt, cmp_le, cmp_gt, cmp_ge, id_eq, if_true, if_false, Bool.false_eq_true, reduceIte, Bool.not_true, Bool.not_false, Bool.false_xor, Bool.true_xor]
        simp [colP, h3]
    · have h1' : ¬ (1 : Int) ≤ (ps.length : Nat) := by omega
      simp only [h1', decide_false]
      simp (implicitDefEqProofs := false) only [lkF, bkF, bkF_n, bkF_if, bkF_bk, obF_rt, obF_nx, obF_if, obF_bk, exF_rt, exF_nx, exF_if, exF_bk, rbF_ok, rbF_er, rrF_ok, rrF_er, rrF_if, trF_ok, trF_er, trF_if, cmp_lt, cmp_le, cmp_gt, cmp_ge, id_eq, if_true, if_false, Bool.false_eq_true, reduceIte, Bool.not_true, Bool.not_false, Bool.false_xor, Bool.true_xor]
      simp [colP, h1]
  | _ => rfl
def colsP : PyData → Bool
  | .tuple ps => decide (1 ≤ ps.length) && decide (ps.length ≤ 4) && ps.all colP
  | _ => false
theorem p_is_columns (v : PyData) : m_is_columns v = some (colsP v) := by
  unfold m_is_columns b_is_columns
  cases v with
  | tuple ps =>
    have e1 : isP "tuple" (eA (.tuple ps)) = true := rfl
    have e3 : pLen (.tuple ps) = some (ps.length : Int) := rfl
    have e4 : pItems (.tuple ps) = some ps := rfl
    simp (implicitDefEqProofs := false) only [lkF, bkF, bkF_n, bkF_if, bkF_bk, obF_rt, obF_nx, obF_if, obF_bk, exF_rt, exF_nx, exF_if, exF_bk, rbF_ok, rbF_er, rrF_ok, rrF_er, rrF_if, trF_ok, trF_er, trF_if, cmp_lt, cmp_le, cmp_gt, cmp_ge, id_eq, if_true, if_false, Bool.false_eq_true, reduceIte, Bool.not_true, Bool.not_false, Bool.false_xor, Bool.true_xor, e1, e3, e4]
    by_cases h1 : 1 ≤ ps.length
    · by_cases h3 : ps.length ≤ 4
      · have h1' : (1 : Int) ≤ (ps.length : Nat) := by omega
        have h3' : ((ps.length : Nat) : Int) ≤ 4 := by omega
        rw [mM_some _ colP ps (fun x _ => by simp (implicitDefEqProofs := false) only [lkF, bkF, bkF_n, bkF_if, bkF_bk, obF_rt, obF_nx, obF_if, obF_bk, exF_rt, exF_nx, exF_if, exF_bk, rbF_ok, rbF_er, rrF_ok, rrF_er, rrF_if, trF_ok, trF_er, trF_if, cmp_lt, cmp_le, cmp_gt, cmp_ge, id_eq, if_true, if_false, Bool.false_eq_true, reduceIte, Bool.not_true, Bool.not_false, Bool.false_xor, Bool.true_xor, p_is_column])]
        simp only [h1', h3', decide_true]
        simp (implicitDefEqProofs := false) only [lkF, bkF, bkF_n, bkF_if, bkF_bk, obF_rt, obF_nx, obF_if, obF_bk, exF_rt, exF_nx, exF_if, exF_bk, rbF_ok, rbF_er, rrF_ok, rrF_er, rrF_if, trF_ok, trF_er, trF_if, cmp_lt, cmp_le, cmp_gt, cmp_ge, id_eq, if_true, if_false, Bool.false_eq_true, reduceIte, Bool.not_true, Bool.not_false, Bool.false_xor, Bool.true_xor]
        simp [colsP, h1, h3, List.all_map]
      · have h1' : (1 : Int) ≤ (ps.length : Nat) := by omega
        have h3' : ¬ ((ps.length : Nat) : Int) ≤ 4 := by omega
        simp only [h1', h3', decide_true, decide_false]
        simp (implicitDefEqProofs := false) only [lkF, bkF, bkF_n, bkF_if, bkF_bk, obF_rt, obF_nx, obF_if, obF_bk, exF_rt, exF_nx, exF_if, exF_bk, rbF_ok, rbF_er, rrF_ok, rrF_er, rrF_if, trF_ok, trF_er, trF_if, cmp_lt, cmp_le, cmp_gt, cmp_ge, id_eq, if_true, if_false, Bool.false_eq_true, reduceIte, Bool.not_true, Bool.not_false, Bool.false_xor, Bool.true_xor]
        simp [colsP, h3]
    · have h1' : ¬ (1 : Int) ≤ (ps.length : Nat) := by omega
      simp only [h1', decide_false]
      simp (implicitDefEqProofs := false) only [lkF, bkF, bkF_n, bkF_if, bkF_bk, obF_rt, obF_nx, obF_if, obF_bk, exF_rt, exF_nx, exF_if, exF_bk, rbF_ok, rbF_er, rrF_ok, rrF_er, rrF_if, trF_ok, trF_er, trF_if, cmp_lt, cmp_le, cmp_gt, cmp_ge, id_eq, if_true, if_false, Bool.false_eq_true, reduceIte, Bool.not_true, Bool.not_false, Bool.false_xor, Bool.true_xor]
      simp [colsP, h1]
  | _ => rfl
/-! rows, tables, sets, demands -/
def vofP (c : Option (List Int)) (v : PyData) : Bool := match v with
  | .int i => decide (0 ≤ i) && (match c with
    | none => true
    | some l => decide (i ∈ l))
  | _ => false
theorem in_ints (i : Int) (l : List Int) : oIn (.int i) (eT eI l) = some (decide (i ∈ l)) := by
  unfold oIn
  have e : pItems (eT eI l) = some (l.map eI) := rfl
  rw [e, Option.bind_some, if_pos ⟨qI.shaped (by decide) i, (qL qI).shaped (by decide) l⟩]
  exact congrArg some (any_mem qI i l)
theorem p_is_value_of (c : Option (List Int)) (v : PyData) : m_is_value_of (c, v) = some (vofP c v) := by
  unfold m_is_value_of b_is_value_of
  simp (implicitDefEqProofs := false) only [lkF, bkF, bkF_n, bkF_if, bkF_bk, obF_rt, obF_nx, obF_if, obF_bk, exF_rt, exF_nx, exF_if, exF_bk, rbF_ok, rbF_er, rrF_ok, rrF_er, rrF_if, trF_ok, trF_er, trF_if, cmp_lt, cmp_le, cmp_gt, cmp_ge, id_eq, if_true, if_false, Bool.false_eq_true, reduceIte, Bool.not_true, Bool.not_false, Bool.false_xor, Bool.true_xor, p_is_value]
  cases v with
  | int i =>
    simp only [valP]
    by_cases h : 0 ≤ i
    · cases c with
      | none => simp [h, vofP, exF_rt, isNo, bkF]
      | some l =>
        simp only [h, decide_true, vofP]
        simp (implicitDefEqProofs := false) only [lkF, bkF, bkF_n, bkF_if, bkF_bk, obF_rt, obF_nx, obF_if, obF_bk, exF_rt, exF_nx, exF_if, exF_bk, rbF_ok, rbF_er, rrF_ok, rrF_er, rrF_if, trF_ok, trF_er, trF_if, cmp_lt, cmp_le, cmp_gt, cmp_ge, id_eq, if_true, if_false, Bool.false_eq_true, reduceIte, Bool.not_true, Bool.not_false, Bool.false_xor, Bool.true_xor, isNo]
        rw [in_ints]
        simp [bkF]
    · simp [h, vofP, exF_rt, bkF]
  | _ => rfl
def rowP (cs : List (Option (List Int))) (v : PyData) : Bool := match v with
  | .tuple ps => decide (ps.length = cs.length) && (cs.zip ps).all fun q => noneP q.2 || vofP q.1 q.2
  | _ => false
theorem p_is_row_of (cs : List (Option (List Int))) (v : PyData) : m_is_row_of (cs, v) = some (rowP cs v) := by
  unfold m_is_row_of b_is_row_of
  cases v with
  | tuple ps =>
    have e1 : isP "tuple" (eA (.tuple ps)) = true := rfl
    have e3 : pLen (.tuple ps) = some (ps.length : Int) := rfl
    have e4 : pItems (.tuple ps) = some ps := rfl
    simp (implicitDefEqProofs := false) only [lkF, bkF, bkF_n, bkF_if, bkF_bk, obF_rt, obF_nx, obF_if, obF_bk, exF_rt, exF_nx, exF_if, exF_bk, rbF_ok, rbF_er, rrF_ok, rrF_er, rrF_if, trF_ok, trF_er, trF_if, cmp_lt, cmp_le, cmp_gt, cmp_ge, id_eq, if_true, if_false, Bool.false_eq_true, reduceIte, Bool.not_true, Bool.not_false, Bool.false_xor, Bool.true_xor, e1, e3, e4, p_is_value_of]
    rw [mM_some _ (fun q : Option (List Int) × PyData => noneP q.2 || vofP q.1 q.2) (cs.zip ps) (fun q _ => by cases noneP q.2 <;> simp)]
    simp (implicitDefEqProofs := false) only [lkF, bkF, bkF_n, bkF_if, bkF_bk, obF_rt, obF_nx, obF_if, obF_bk, exF_rt, exF_nx, exF_if, exF_bk, rbF_ok, rbF_er, rrF_ok, rrF_er, rrF_if, trF_ok, trF_er, trF_if, cmp_lt, cmp_le, cmp_gt, cmp_ge, id_eq, if_true, if_false, Bool.false_eq_true, reduceIte, Bool.not_true, Bool.not_false, Bool.false_xor, Bool.true_xor]
    by_cases h : ps.length = cs.length
    · simp [h, rowP, List.all_map, Function.comp_def, obF_nx, exF_rt]
    · have : ¬ ((ps.length : Int) = (cs.length : Int)) := by omega
      simp [h, this, rowP, obF_rt, exF_rt]
  | _ => rfl
theorem p_count_unknown (t : List (List (Option Int))) : m_count_unknown t = some (t.map fun r => oCnt r none).sum := by
  unfold m_count_unknown b_count_unknown
  simp (implicitDefEqProofs := false) only [lkF, bkF, bkF_n, bkF_if, bkF_bk, obF_rt, obF_nx, obF_if, obF_bk, exF_rt, exF_nx, exF_if, exF_bk, rbF_ok, rbF_er, rrF_ok, rrF_er, rrF_if, trF_ok, trF_er, trF_if, cmp_lt, cmp_le, cmp_gt, cmp_ge, id_eq, if_true, if_false, Bool.false_eq_true, reduceIte, Bool.not_true, Bool.not_false, Bool.false_xor, Bool.true_xor]
  rw [mM_some _ (fun r => oCnt r none) t (fun r _ => by simp (implicitDefEqProofs := false) only [lkF, bkF, bkF_n, bkF_if, bkF_bk, obF_rt, obF_nx, obF_if, obF_bk, exF_rt, exF_nx, exF_if, exF_bk, rbF_ok, rbF_er, rrF_ok, rrF_er, rrF_if, trF_ok, trF_er, trF_if, cmp_lt, cmp_le, cmp_gt, cmp_ge, id_eq, if_true, if_false, Bool.false_eq_true, reduceIte, Bool.not_true, Bool.not_false, Bool.false_xor, Bool.true_xor])]
  simp (implicitDefEqProofs := false) only [lkF, bkF, bkF_n, bkF_if, bkF_bk, obF_rt, obF_nx, obF_if, obF_bk, exF_rt, exF_nx, exF_if, exF_bk, rbF_ok, rbF_er, rrF_ok, rrF_er, rrF_if, trF_ok, trF_er, trF_if, cmp_lt, cmp_le, cmp_gt, cmp_ge, id_eq, if_true, if_false, Bool.false_eq_true, reduceIte, Bool.not_true, Bool.not_false, Bool.false_xor, Bool.true_xor]
/-- data of a table, as typed -/
theorem dO_int (o : Option Int) : SK.dO dI (eO eI o) = some o := by cases o <;> rfl
def rowsP (cs : List (Option (List Int))) : PyData → Bool
  | .tuple ps => ps.all (rowP cs)
  | _ => false
theorem row_dec {cs : List (Option (List Int))} {v : PyData} (h : rowP cs v = true) : ∃ r : List (Option Int), v = eT (eO eI) r ∧ r.length = cs.length ∧ SK.dT (SK.dO dI) v = some r := by
  cases v with
  | tuple ps =>
    simp only [rowP, Bool.and_eq_true, decide_eq_true_eq] at h
    obtain ⟨h1, h2⟩ := h
    have : ∀ (cs : List (Option (List Int))) (ps : List PyData), ps.length = cs.length → ((cs.zip ps).all fun q => noneP q.2 || vofP q.1 q.2) = true → ∃ r : List (Option Int), ps = r.map (eO eI) := by
      intro cs
      induction cs with
      | nil => intro ps e _; cases ps <;> simp at e; exact ⟨[], rfl⟩
      | cons c cs ih =>
        intro ps e h
        cases ps with
        | nil => exact ⟨[], rfl⟩
        | cons p ps =>
          rw [List.zip_cons_cons, List.all_cons, Bool.and_eq_true] at h
          obtain ⟨r, er⟩ := ih ps (by simpa using e) h.2
          have hp := h.1
          cases p <;> simp [noneP, vofP] at hp
          · exact ⟨none :: r, by rw [er]; rfl⟩
          · exact ⟨some _ :: r, by rw [er]; rfl⟩
    obtain ⟨r, e⟩ := this cs ps h1 h2
    refine ⟨r, by rw [e]; rfl, by rw [← h1, e]; simp, ?_⟩
    rw [e]
    exact dAll_map dO_int r
  | _ => simp [rowP] at h
theorem rows_dec {cs : List (Option (List Int))} : ∀ {ps : List PyData}, ps.all (rowP cs) = true → ∃ t : List (List (Option Int)), ps = t.map (eT (eO eI)) ∧ (∀ r ∈ t, r.length = cs.length) ∧ dAll (SK.dT (SK.dO dI)) ps = some t
  | [], _ => ⟨[], rfl, by simp, rfl⟩
  | p :: ps, h => by
    rw [List.all_cons, Bool.and_eq_true] at h
    obtain ⟨r, e1, e2, e3⟩ := row_dec h.1
    obtain ⟨t, f1, f2, f3⟩ := rows_dec h.2
    refine ⟨r :: t, by rw [e1, f1]; rfl, ?_, ?_⟩
    · intro x hx
      rcases List.mem_cons.mp hx with q | q
      · rw [q]; exact e2
      · exact f2 x q
    · show Option.bind _ _ = _
      rw [e3, Option.bind_some, f3]
      rfl
def fewP (ps : List PyData) : Bool := match dAll (SK.dT (SK.dO dI)) ps with
  | some t => decide ((t.map fun r => oCnt r none).sum ≤ 6)
  | none => false
def tabP (cs : List (Option (List Int))) (v : PyData) : Bool := match v with
  | .tuple ps => decide (ps.length ≤ 8) && ps.all (rowP cs) && fewP ps
  | _ => false
theorem p_is_table_of (cs : List (Option (List Int))) (v : PyData) : m_is_table_of (cs, v) = some (tabP cs v) := by
  unfold m_is_table_of b_is_table_of
  cases v with
  | tuple ps =>
    have e1 : isP "tuple" (eA (.tuple ps)) = true := rfl
    have e3 : pLen (.tuple ps) = some (ps.length : Int) := rfl
    have e4 : pItems (.tuple ps) = some ps := rfl
    simp (implicitDefEqProofs := false) only [lkF, bkF, bkF_n, bkF_if, bkF_bk, obF_rt, obF_nx, obF_if, obF_bk, exF_rt, exF_nx, exF_if, exF_bk, rbF_ok, rbF_er, rrF_ok, rrF_er, rrF_if, trF_ok, trF_er, trF_if, cmp_lt, cmp_le, cmp_gt, cmp_ge, id_eq, if_true, if_false, Bool.false_eq_true, reduceIte, Bool.not_true, Bool.not_false, Bool.false_xor, Bool.true_xor, e1, e3, e4]
    rw [mM_some _ (rowP cs) ps (fun x _ => by simp (implicitDefEqProofs := false) only [lkF, bkF, bkF_n, bkF_if, bkF_bk, obF_rt, obF_nx, obF_if, obF_bk, exF_rt, exF_nx, exF_if, exF_bk, rbF_ok, rbF_er, rrF_ok, rrF_er, rrF_if, trF_ok, trF_er, trF_if, cmp_lt, cmp_le, cmp_gt, cmp_ge, id_eq, if_true, if_false, Bool.false_eq_true, reduceIte, Bool.not_true, Bool.not_false, Bool.false_xor, Bool.true_xor, p_is_row_of])]
    simp (implicitDefEqProofs := false) only [lkF, bkF, bkF_n, bkF_if, bkF_bk, obF_rt, obF_nx, obF_if, obF_bk, exF_rt, exF_nx, exF_if, exF_bk, rbF_ok, rbF_er, rrF_ok, rrF_er, rrF_if, trF_ok, trF_er, trF_if, cmp_lt, cmp_le, cmp_gt, cmp_ge, id_eq, if_true, if_false, Bool.false_eq_true, reduceIte, Bool.not_true, Bool.not_false, Bool.false_xor, Bool.true_xor]
    by_cases h : ps.length ≤ 8
    · have h' : ¬ (8 : Int) < (ps.length : Nat) := by omega
      simp only [h', decide_false]
      simp (implicitDefEqProofs := false) only [lkF, bkF, bkF_n, bkF_if, bkF_bk, obF_rt, obF_nx, obF_if, obF_bk, exF_rt, exF_nx, exF_if, exF_bk, rbF_ok, rbF_er, rrF_ok, rrF_er, rrF_if, trF_ok, trF_er, trF_if, cmp_lt, cmp_le, cmp_gt, cmp_ge, id_eq, if_true, if_false, Bool.false_eq_true, reduceIte, Bool.not_true, Bool.not_false, Bool.false_xor, Bool.true_xor]
      by_cases ha : ps.all (rowP cs) = true
      · obtain ⟨t, rfl, _, e5⟩ := rows_dec ha
        have ha' : ((t.map (eT (eO eI))).map (rowP cs)).all id = true := by rw [List.all_map]; exact ha
        have e6 : SK.dT (SK.dT (SK.dO dI)) (.tuple (t.map (eT (eO eI)))) = some t := e5
        simp only [ha']
        simp (implicitDefEqProofs := false) only [lkF, bkF, bkF_n, bkF_if, bkF_bk, obF_rt, obF_nx, obF_if, obF_bk, exF_rt, exF_nx, exF_if, exF_bk, rbF_ok, rbF_er, rrF_ok, rrF_er, rrF_if, trF_ok, trF_er, trF_if, cmp_lt, cmp_le, cmp_gt, cmp_ge, id_eq, if_true, if_false, Bool.false_eq_true, reduceIte, Bool.not_true, Bool.not_false, Bool.false_xor, Bool.true_xor, e6, p_count_unknown]
        simp only [tabP, fewP, ha, e5, h, decide_true, Bool.true_and]
      · have ha' : (ps.map (rowP cs)).all id = false := by rw [List.all_map]; simpa using ha
        have ha2 : ps.all (rowP cs) = false := by simpa using ha
        simp only [ha']
        simp (implicitDefEqProofs := false) only [lkF, bkF, bkF_n, bkF_if, bkF_bk, obF_rt, obF_nx, obF_if, obF_bk, exF_rt, exF_nx, exF_if, exF_bk, rbF_ok, rbF_er, rrF_ok, rrF_er, rrF_if, trF_ok, trF_er, trF_if, cmp_lt, cmp_le, cmp_gt, cmp_ge, id_eq, if_true, if_false, Bool.false_eq_true, reduceIte, Bool.not_true, Bool.not_false, Bool.false_xor, Bool.true_xor]
        simp only [tabP, ha2, Bool.and_false, Bool.false_and]
    · have h' : (8 : Int) < (ps.length : Nat) := by omega
      simp only [h', decide_true]
      simp (implicitDefEqProofs := false) only [lkF, bkF, bkF_n, bkF_if, bkF_bk, obF_rt, obF_nx, obF_if, obF_bk, exF_rt, exF_nx, exF_if, exF_bk, rbF_ok, rbF_er, rrF_ok, rrF_er, rrF_if, trF_ok, trF_er, trF_if, cmp_lt, cmp_le, cmp_gt, cmp_ge, id_eq, if_true, if_false, Bool.false_eq_true, reduceIte, Bool.not_true, Bool.not_false, Bool.false_xor, Bool.true_xor]
      simp only [tabP, h, decide_false, Bool.false_and]
  | _ => rfl
def setP (many : Int) (v : PyData) : Bool := match v with
  | .tuple ps => ps.all (fun p => btwP p 0 (many - 1)) && incP ps
  | _ => false
theorem inc_len {many : Int} (hm : many ≤ 60) : ∀ {l : List Int}, l.Pairwise (· < ·) → (∀ x ∈ l, 0 ≤ x ∧ x < many) → l.length < 63 := by
  intro l h1 h2
  have : ∀ (l : List Int) (a : Int), l.Pairwise (· < ·) → (∀ x ∈ l, a ≤ x ∧ x < many) → (l.length : Int) ≤ max 0 (many - a) := by
    intro l
    induction l with
    | nil => intro a _ _; simp; omega
    | cons x l ih =>
      intro a h1 h2
      have hx := h2 x (List.mem_cons_self ..)
      have := ih (x + 1) (List.Pairwise.of_cons h1) (fun y hy => ⟨by have := List.rel_of_pairwise_cons h1 hy; omega, (h2 y (List.mem_cons_of_mem _ hy)).2⟩)
      simp only [List.length_cons]
      omega
  have := this l 0 h1 h2
  omega
/-- a short tuple: a set or not -/
theorem p_is_set_for (many : Int) (v : PyData) (hz : ∀ ps, v = .tuple ps → ps.length < 63) : m_is_set_for (many, v) = some (setP many v) := by
  unfold m_is_set_for b_is_set_for
  cases v with
  | tuple ps =>
    have e1 : isP "tuple" (eA (.tuple ps)) = true := rfl
    have e4 : pItems (.tuple ps) = some ps := rfl
    simp (implicitDefEqProofs := false) only [lkF, bkF, bkF_n, bkF_if, bkF_bk, obF_rt, obF_nx, obF_if, obF_bk, exF_rt, exF_nx, exF_if, exF_bk, rbF_ok, rbF_er, rrF_ok, rrF_er, rrF_if, trF_ok, trF_er, trF_if, cmp_lt, cmp_le, cmp_gt, cmp_ge, id_eq, if_true, if_false, Bool.false_eq_true, reduceIte, Bool.not_true, Bool.not_false, Bool.false_xor, Bool.true_xor, e1, e4]
    rw [mM_some _ (fun p => btwP p 0 (many - 1)) ps (fun x _ => by simp (implicitDefEqProofs := false) only [lkF, bkF, bkF_n, bkF_if, bkF_bk, obF_rt, obF_nx, obF_if, obF_bk, exF_rt, exF_nx, exF_if, exF_bk, rbF_ok, rbF_er, rrF_ok, rrF_er, rrF_if, trF_ok, trF_er, trF_if, cmp_lt, cmp_le, cmp_gt, cmp_ge, id_eq, if_true, if_false, Bool.false_eq_true, reduceIte, Bool.not_true, Bool.not_false, Bool.false_xor, Bool.true_xor, p_is_between])]
    simp (implicitDefEqProofs := false) only [lkF, bkF, bkF_n, bkF_if, bkF_bk, obF_rt, obF_nx, obF_if, obF_bk, exF_rt, exF_nx, exF_if, exF_bk, rbF_ok, rbF_er, rrF_ok, rrF_er, rrF_if, trF_ok, trF_er, trF_if, cmp_lt, cmp_le, cmp_gt, cmp_ge, id_eq, if_true, if_false, Bool.false_eq_true, reduceIte, Bool.not_true, Bool.not_false, Bool.false_xor, Bool.true_xor]
    by_cases ha : ps.all (fun p => btwP p 0 (many - 1)) = true
    · obtain ⟨l, rfl, e5⟩ := ints_of (btwP_int 0 (many - 1)) ha
      have ha' : ((l.map eI).map (fun p => btwP p 0 (many - 1))).all id = true := by rw [List.all_map]; exact ha
      have e6 : SK.dT dI (.tuple (l.map eI)) = some l := e5
      have hz' : l.length < 63 := by have := hz _ rfl; simpa using this
      have e7 : oSortU l = some (sortU l) := if_pos hz'
      simp only [ha']
      simp (implicitDefEqProofs := false) only [lkF, bkF, bkF_n, bkF_if, bkF_bk, obF_rt, obF_nx, obF_if, obF_bk, exF_rt, exF_nx, exF_if, exF_bk, rbF_ok, rbF_er, rrF_ok, rrF_er, rrF_if, trF_ok, trF_er, trF_if, cmp_lt, cmp_le, cmp_gt, cmp_ge, id_eq, if_true, if_false, Bool.false_eq_true, reduceIte, Bool.not_true, Bool.not_false, Bool.false_xor, Bool.true_xor, e6, e7, eq_sorted, Option.map_some]
      simp only [setP, ha, Bool.true_and, incP, e5]
    · have ha' : (ps.map (fun p => btwP p 0 (many - 1))).all id = false := by rw [List.all_map]; simpa using ha
      have ha2 : ps.all (fun p => btwP p 0 (many - 1)) = false := by simpa using ha
      simp only [ha']
      simp (implicitDefEqProofs := false) only [lkF, bkF, bkF_n, bkF_if, bkF_bk, obF_rt, obF_nx, obF_if, obF_bk, exF_rt, exF_nx, exF_if, exF_bk, rbF_ok, rbF_er, rrF_ok, rrF_er, rrF_if, trF_ok, trF_er, trF_if, cmp_lt, cmp_le, cmp_gt, cmp_ge, id_eq, if_true, if_false, Bool.false_eq_true, reduceIte, Bool.not_true, Bool.not_false, Bool.false_xor, Bool.true_xor]
      simp only [setP, ha2, Bool.false_and]
  | _ => rfl
def demP (cs : List (Option (List Int))) (v : PyData) : Bool := match v with
  | .tuple ps => decide (ps.length ≤ 4) && ps.all (setP cs.length)
  | _ => false
/-- tuples within are short -/
def shortP (v : PyData) : Prop := ∀ ps, v = .tuple ps → ∀ p ∈ ps, ∀ qs, p = .tuple qs → qs.length < 63
theorem p_is_demand_of (cs : List (Option (List Int))) (v : PyData) (hz : shortP v) : m_is_demand_of (cs, v) = some (demP cs v) := by
  unfold m_is_demand_of b_is_demand_of
  cases v with
  | tuple ps =>
    have e1 : isP "tuple" (eA (.tuple ps)) = true := rfl
    have e3 : pLen (.tuple ps) = some (ps.length : Int) := rfl
    have e4 : pItems (.tuple ps) = some ps := rfl
    simp (implicitDefEqProofs := false) only [lkF, bkF, bkF_n, bkF_if, bkF_bk, obF_rt, obF_nx, obF_if, obF_bk, exF_rt, exF_nx, exF_if, exF_bk, rbF_ok, rbF_er, rrF_ok, rrF_er, rrF_if, trF_ok, trF_er, trF_if, cmp_lt, cmp_le, cmp_gt, cmp_ge, id_eq, if_true, if_false, Bool.false_eq_true, reduceIte, Bool.not_true, Bool.not_false, Bool.false_xor, Bool.true_xor, e1, e3, e4]
    rw [mM_some _ (setP cs.length) ps (fun x hx => by
      unfold m_is_set_of b_is_set_of
      simp (implicitDefEqProofs := false) only [lkF, bkF, bkF_n, bkF_if, bkF_bk, obF_rt, obF_nx, obF_if, obF_bk, exF_rt, exF_nx, exF_if, exF_bk, rbF_ok, rbF_er, rrF_ok, rrF_er, rrF_if, trF_ok, trF_er, trF_if, cmp_lt, cmp_le, cmp_gt, cmp_ge, id_eq, if_true, if_false, Bool.false_eq_true, reduceIte, Bool.not_true, Bool.not_false, Bool.false_xor, Bool.true_xor, p_is_set_for _ x (fun qs e => hz ps rfl x hx qs e)])]
    simp (implicitDefEqProofs := false) only [lkF, bkF, bkF_n, bkF_if, bkF_bk, obF_rt, obF_nx, obF_if, obF_bk, exF_rt, exF_nx, exF_if, exF_bk, rbF_ok, rbF_er, rrF_ok, rrF_er, rrF_if, trF_ok, trF_er, trF_if, cmp_lt, cmp_le, cmp_gt, cmp_ge, id_eq, if_true, if_false, Bool.false_eq_true, reduceIte, Bool.not_true, Bool.not_false, Bool.false_xor, Bool.true_xor]
    by_cases h : ps.length ≤ 4
    · have h' : ¬ (4 : Int) < (ps.length : Nat) := by omega
      simp only [h', decide_false]
      simp (implicitDefEqProofs := false) only [lkF, bkF, bkF_n, bkF_if, bkF_bk, obF_rt, obF_nx, obF_if, obF_bk, exF_rt, exF_nx, exF_if, exF_bk, rbF_ok, rbF_er, rrF_ok, rrF_er, rrF_if, trF_ok, trF_er, trF_if, cmp_lt, cmp_le, cmp_gt, cmp_ge, id_eq, if_true, if_false, Bool.false_eq_true, reduceIte, Bool.not_true, Bool.not_false, Bool.false_xor, Bool.true_xor]
      simp only [demP, h, decide_true, Bool.true_and, List.all_map, Function.comp_def, id]
    · have h' : (4 : Int) < (ps.length : Nat) := by omega
      simp only [h', decide_true]
      simp (implicitDefEqProofs := false) only [lkF, bkF, bkF_n, bkF_if, bkF_bk, obF_rt, obF_nx, obF_if, obF_bk, exF_rt, exF_nx, exF_if, exF_bk, rbF_ok, rbF_er, rrF_ok, rrF_er, rrF_if, trF_ok, trF_er, trF_if, cmp_lt, cmp_le, cmp_gt, cmp_ge, id_eq, if_true, if_false, Bool.false_eq_true, reduceIte, Bool.not_true, Bool.not_false, Bool.false_xor, Bool.true_xor]
      simp only [demP, h, decide_false, Bool.false_and]
  | _ => rfl
end Q92
end
section
set_option maxHeartbeats 4000000
namespace Q92
open PySem PySem.Spec PyProof.Rows L2 SK
abbrev Row := List (Option Int)
abbrev Tab := List Row
abbrev Cols := List (Option (List Int))
abbrev Dem := List (List Int)
/-! ### plain: lists by index -/
theorem oAt_nat {α : Type} {l : List α} {i : Nat} {a : α} (h : l[i]? = some a) : oAt l (i : Int) = some a := by
  unfold oAt
  have hl : i < l.length := (List.getElem?_eq_some_iff.mp h).1
  rw [ixN_nat (by omega) (by omega), Option.bind_some, Int.toNat_natCast, h]
theorem oAt_in {α : Type} {l : List α} {i : Int} (h0 : 0 ≤ i) (h1 : i < (l.length : Nat)) : ∃ a, oAt l i = some a ∧ l[i.toNat]? = some a ∧ a ∈ l := by
  have h : i.toNat < l.length := by omega
  have e : l[i.toNat]? = some (l[i.toNat]) := List.getElem?_eq_getElem h
  refine ⟨l[i.toNat], ?_, e, List.getElem_mem h⟩
  have := oAt_nat e
  rwa [Int.toNat_of_nonneg h0] at this
theorem mem_rng {lo hi x : Int} : x ∈ rngL lo hi ↔ lo ≤ x ∧ x < hi := by
  unfold rngL
  simp only [List.mem_map, List.mem_range]
  constructor
  · rintro ⟨i, h, rfl⟩; omega
  · rintro ⟨h1, h2⟩; exact ⟨(x - lo).toNat, by omega, by omega⟩
theorem rng_ok {lo hi : Int} (h : 0 ≤ lo) (h2 : lo ≤ 1000000) (h3 : 0 ≤ hi) (h4 : hi ≤ 1000000) : oRng lo hi = some (rngL lo hi) := if_pos (by omega)
theorem rng_len (lo hi : Int) : (rngL lo hi).length = (hi - lo).toNat := by unfold rngL; simp
theorem mem_enum {α : Type} : ∀ {i : Nat} {l : List α} {q : Int × α}, q ∈ enumL i l ↔ ∃ j, q.1 = ((i + j : Nat) : Int) ∧ l[j]? = some q.2
  | _, [], _ => by simp [enumL]
  | i, a :: l, q => by
    unfold enumL
    rw [List.mem_cons, mem_enum]
    constructor
    · rintro (h | ⟨j, h1, h2⟩)
      · subst h; exact ⟨0, rfl, rfl⟩
      · exact ⟨j + 1, by rw [h1]; omega, h2⟩
    · rintro ⟨j, h1, h2⟩
      cases j with
      | zero => exact .inl (Prod.ext h1 (by simpa using h2.symm))
      | succ j => exact .inr ⟨j, by rw [h1]; omega, h2⟩
theorem cut_to {α : Type} {l : List α} {i : Int} (h0 : 0 ≤ i) (h : i ≤ (l.length : Nat)) : cutG l none (some i) = l.take i.toNat := by
  unfold cutG
  have e1 : HT.sIx l.length l.length (some i) = i.toNat := by simp only [HT.sIx]; rw [if_neg (by omega)]; omega
  rw [e1]
  simp [HT.sIx]
theorem cut_from {α : Type} {l : List α} {i : Int} (h0 : 0 ≤ i) (h : i ≤ (l.length : Nat)) : cutG l (some i) none = l.drop i.toNat := by
  unfold cutG
  have e1 : HT.sIx l.length 0 (some i) = i.toNat := by simp only [HT.sIx]; rw [if_neg (by omega)]; omega
  rw [e1]
  simp only [HT.sIx]
  rw [List.take_of_length_le (by simp)]
theorem set_split {α : Type} (l : List α) (i : Nat) (a : α) (h : i < l.length) : l.set i a = l.take i ++ [a] ++ l.drop (i + 1) := by
  rw [List.set_eq_take_append_cons_drop, if_pos h, List.append_assoc]
  rfl
/-- a loop that gathers -/
theorem forM_acc {α β ρ : Type} (f : α → List β → Option (Out (List β) ρ)) (g : α → List β) (B : Nat) : ∀ (l : List α) (s : List β) (hz : s.length + (l.map fun x => (g x).length).sum ≤ B), (∀ x ∈ l, ∀ s : List β, s.length + (g x).length ≤ B → f x s = some (.nx (s ++ g x))) → forM false f l s = some (.nx (s ++ l.flatMap g))
  | [], s, _, _ => by
    show some _ = _
    simp
  | x :: l, s, hz, h => by
    simp only [List.map_cons, List.sum_cons] at hz
    show ob false (f x s) _ = _
    rw [h x (List.mem_cons_self ..) s (by omega), obF_nx, forM_acc f g B l _ (by rw [List.length_append]; omega) fun y hy => h y (List.mem_cons_of_mem _ hy)]
    simp
theorem sum_le {α : Type} (g : α → Nat) (b : Nat) : ∀ (l : List α), (∀ x ∈ l, g x ≤ b) → (l.map g).sum ≤ l.length * b
  | [], _ => by simp
  | x :: l, h => by
    have := sum_le g b l fun y hy => h y (List.mem_cons_of_mem _ hy)
    have := h x (List.mem_cons_self ..)
    simp only [List.map_cons, List.sum_cons, List.length_cons]
    rw [Nat.add_mul]
    omega
theorem oCat_ok {α : Type} {l m : List α} (h : l.length + m.length ≤ 1000000) : oCat l m = some (l ++ m) := if_pos h
theorem oApp_ok {α : Type} {l : List α} {x : α} (h : l.length < 1000000) : oApp l x = some (l ++ [x]) := if_pos h
theorem gL_ok {α : Type} {l : List α} (h : l.length ≤ 1000000) : gL l = some l := if_pos h
/-! ### plain: tables -/
/-- an entry -/
def gt (r : Row) (c : Int) : Option Int := (oAt r c).getD none
theorem gt_ok {r : Row} {c : Int} (h0 : 0 ≤ c) (h : c < (r.length : Nat)) : oAt r c = some (gt r c) := by
  obtain ⟨a, e, _⟩ := oAt_in h0 h
  unfold gt
  rw [e]
  rfl
structure TabOk (n : Nat) (t : Tab) : Prop where
  few : t.length ≤ 8
  wide : ∀ r ∈ t, r.length = n
  n4 : n ≤ 4
structure DemOk (n : Nat) (d : Dem) : Prop where
  few : d.length ≤ 4
  inr : ∀ s ∈ d, ∀ c ∈ s, 0 ≤ c ∧ c < (n : Int)
/-- a row -/
def rw_ (t : Tab) (i : Int) : Row := (oAt t i).getD []
theorem rw_ok {t : Tab} {i : Int} (h0 : 0 ≤ i) (h : i < (t.length : Nat)) : oAt t i = some (rw_ t i) ∧ t[i.toNat]? = some (rw_ t i) ∧ rw_ t i ∈ t := by
  obtain ⟨a, e, e2, e3⟩ := oAt_in h0 h
  have : rw_ t i = a := by unfold rw_; rw [e]; rfl
  rw [this]
  exact ⟨e, e2, e3⟩
def unkR (i : Int) (r : Row) : List (Int × Int) := ((rngL 0 r.length).filter fun c => isNo (gt r c)).map fun c => (i, c)
def unkL (t : Tab) : List (Int × Int) := (enumL 0 t).flatMap fun q => unkR q.1 q.2
theorem unkR_len (i : Int) (r : Row) : (unkR i r).length ≤ r.length := by
  unfold unkR
  rw [List.length_map]
  exact Nat.le_trans (List.length_filter_le _ _) (by rw [rng_len]; omega)
theorem p_find_unknown {n : Nat} {t : Tab} (h : TabOk n t) : m_find_unknown t = some (unkL t) := by
  unfold m_find_unknown b_find_unknown
  simp (implicitDefEqProofs := false) only [lkF, bkF, bkF_n, bkF_if, bkF_bk, obF_rt, obF_nx, obF_if, obF_bk, exF_rt, exF_nx, exF_if, exF_bk, rbF_ok, rbF_er, rrF_ok, rrF_er, rrF_if, trF_ok, trF_er, trF_if, cmp_lt, cmp_le, cmp_gt, cmp_ge, id_eq, if_true, if_false, Bool.false_eq_true, reduceIte, Bool.not_true, Bool.not_false, Bool.false_xor, Bool.true_xor]
  have hw : ∀ q ∈ enumL 0 t, q.2.length = n := fun q hq => by
    obtain ⟨j, _, e⟩ := mem_enum.mp hq
    exact h.wide _ (List.mem_of_getElem? e)
  have hz := sum_le (fun q : Int × Row => (unkR q.1 q.2).length) 4 (enumL 0 t) fun q hq => Nat.le_trans (unkR_len _ _) (by rw [hw q hq]; exact h.n4)
  rw [enumL_len] at hz
  rw [forM_acc (g := fun q : Int × Row => unkR q.1 q.2) (B := 32) (hz := by rw [List.length_nil, Nat.zero_add]; exact Nat.le_trans hz (by have := h.few; omega))]
  · simp (implicitDefEqProofs := false) only [lkF, bkF, bkF_n, bkF_if, bkF_bk, obF_rt, obF_nx, obF_if, obF_bk, exF_rt, exF_nx, exF_if, exF_bk, rbF_ok, rbF_er, rrF_ok, rrF_er, rrF_if, trF_ok, trF_er, trF_if, cmp_lt, cmp_le, cmp_gt, cmp_ge, id_eq, if_true, if_false, Bool.false_eq_true, reduceIte, Bool.not_true, Bool.not_false, Bool.false_xor, Bool.true_xor]
    rfl
  · intro q hq s hs
    have e := hw q hq
    have := h.n4
    rw [rng_ok (by omega) (by omega) (by omega) (by omega)]
    simp (implicitDefEqProofs := false) only [lkF, bkF, bkF_n, bkF_if, bkF_bk, obF_rt, obF_nx, obF_if, obF_bk, exF_rt, exF_nx, exF_if, exF_bk, rbF_ok, rbF_er, rrF_ok, rrF_er, rrF_if, trF_ok, trF_er, trF_if, cmp_lt, cmp_le, cmp_gt, cmp_ge, id_eq, if_true, if_false, Bool.false_eq_true, reduceIte, Bool.not_true, Bool.not_false, Bool.false_xor, Bool.true_xor]
    rw [cM_some _ (fun c => isNo (gt q.2 c)) _ (fun c => (q.1, c))]
    · simp (implicitDefEqProofs := false) only [lkF, bkF, bkF_n, bkF_if, bkF_bk, obF_rt, obF_nx, obF_if, obF_bk, exF_rt, exF_nx, exF_if, exF_bk, rbF_ok, rbF_er, rrF_ok, rrF_er, rrF_if, trF_ok, trF_er, trF_if, cmp_lt, cmp_le, cmp_gt, cmp_ge, id_eq, if_true, if_false, Bool.false_eq_true, reduceIte, Bool.not_true, Bool.not_false, Bool.false_xor, Bool.true_xor]
      rw [show (((rngL 0 q.2.length).filter fun c => isNo (gt q.2 c)).map fun c => (q.1, c)) = unkR q.1 q.2 from rfl, oCat_ok (Nat.le_trans hs (by omega))]
      rfl
    · intro c hc
      rw [mem_rng] at hc
      rw [gt_ok hc.1 hc.2]
      rfl
    · intro c hc _
      rfl
/-- where an entry is missing -/
structure Unk (t : Tab) (q : Int × Int) : Prop where
  i0 : 0 ≤ q.1
  i1 : q.1 < (t.length : Nat)
  c0 : 0 ≤ q.2
  c1 : q.2 < ((rw_ t q.1).length : Nat)
  no : gt (rw_ t q.1) q.2 = none
theorem mem_unk {t : Tab} {q : Int × Int} : q ∈ unkL t ↔ Unk t q := by
  unfold unkL
  rw [List.mem_flatMap]
  constructor
  · rintro ⟨x, hx, hq⟩
    obtain ⟨j, e1, e2⟩ := mem_enum.mp hx
    unfold unkR at hq
    rw [List.mem_map] at hq
    obtain ⟨c, hc, rfl⟩ := hq
    rw [List.mem_filter, mem_rng] at hc
    have hj : j < t.length := (List.getElem?_eq_some_iff.mp e2).1
    have er : rw_ t x.1 = x.2 := by
      have := rw_ok (t := t) (i := x.1) (by rw [e1]; omega) (by rw [e1]; omega)
      have h2 := this.2.1
      rw [e1] at h2
      simp only [Nat.zero_add, Int.toNat_natCast] at h2
      rw [e2] at h2
      rw [e1]
      simpa using h2.symm
    refine ⟨by rw [e1]; omega, by show x.1 < _; rw [e1]; omega, hc.1.1, by show c < _; rw [er]; exact hc.1.2, ?_⟩
    show gt (rw_ t x.1) c = none
    rw [er]
    have := hc.2
    unfold isNo at this
    revert this
    cases gt x.2 c <;> simp
  · intro h
    obtain ⟨e1, e2, e3⟩ := rw_ok h.i0 h.i1
    refine ⟨(q.1, rw_ t q.1), mem_enum.mpr ⟨q.1.toNat, by have := h.i0; simp only; omega, e2⟩, ?_⟩
    unfold unkR
    rw [List.mem_map]
    refine ⟨q.2, ?_, rfl⟩
    rw [List.mem_filter, mem_rng]
    exact ⟨⟨h.c0, h.c1⟩, by rw [h.no]; rfl⟩
/-! with_entry -/
def putE (t : Tab) (i c : Int) (v : Option Int) : Tab := t.set i.toNat ((rw_ t i).set c.toNat v)
theorem p_with_entry {n : Nat} {t : Tab} (h : TabOk n t) {i c : Int} (v : Option Int) (i0 : 0 ≤ i) (i1 : i < (t.length : Nat)) (c0 : 0 ≤ c) (c1 : c < (n : Int)) : m_with_entry (t, i, c, v) = some (putE t i c v) := by
  obtain ⟨e1, e2, e3⟩ := rw_ok i0 i1
  have hr := h.wide _ e3
  have := h.few
  have := h.n4
  unfold m_with_entry b_with_entry
  simp (implicitDefEqProofs := false) only [lkF, bkF, bkF_n, bkF_if, bkF_bk, obF_rt, obF_nx, obF_if, obF_bk, exF_rt, exF_nx, exF_if, exF_bk, rbF_ok, rbF_er, rrF_ok, rrF_er, rrF_if, trF_ok, trF_er, trF_if, cmp_lt, cmp_le, cmp_gt, cmp_ge, id_eq, if_true, if_false, Bool.false_eq_true, reduceIte, Bool.not_true, Bool.not_false, Bool.false_xor, Bool.true_xor]
  rw [e1]
  simp (implicitDefEqProofs := false) only [lkF, bkF, bkF_n, bkF_if, bkF_bk, obF_rt, obF_nx, obF_if, obF_bk, exF_rt, exF_nx, exF_if, exF_bk, rbF_ok, rbF_er, rrF_ok, rrF_er, rrF_if, trF_ok, trF_er, trF_if, cmp_lt, cmp_le, cmp_gt, cmp_ge, id_eq, if_true, if_false, Bool.false_eq_true, reduceIte, Bool.not_true, Bool.not_false, Bool.false_xor, Bool.true_xor]
  rw [cut_to i0 (by omega), cut_from (l := t) (i := i + 1) (by omega) (by omega), cut_to (l := rw_ t i) c0 (by omega), cut_from (l := rw_ t i) (i := c + 1) (by omega) (by omega)]
  have z1 : (i + 1).toNat = i.toNat + 1 := by omega
  have z2 : (c + 1).toNat = c.toNat + 1 := by omega
  rw [z1, z2]
  have g1 : gL (List.take c.toNat (rw_ t i) ++ [v] ++ List.drop (c.toNat + 1) (rw_ t i)) = some ((rw_ t i).set c.toNat v) := by
    rw [← set_split _ _ _ (by omega)]
    exact gL_ok (by rw [List.length_set]; omega)
  rw [g1]
  simp (implicitDefEqProofs := false) only [lkF, bkF, bkF_n, bkF_if, bkF_bk, obF_rt, obF_nx, obF_if, obF_bk, exF_rt, exF_nx, exF_if, exF_bk, rbF_ok, rbF_er, rrF_ok, rrF_er, rrF_if, trF_ok, trF_er, trF_if, cmp_lt, cmp_le, cmp_gt, cmp_ge, id_eq, if_true, if_false, Bool.false_eq_true, reduceIte, Bool.not_true, Bool.not_false, Bool.false_xor, Bool.true_xor]
  have g2 : gL (List.take i.toNat t ++ [(rw_ t i).set c.toNat v] ++ List.drop (i.toNat + 1) t) = some (putE t i c v) := by
    rw [← set_split _ _ _ (by omega)]
    exact gL_ok (by rw [List.length_set]; omega)
  rw [g2]
  rfl
theorem put_ok {n : Nat} {t : Tab} (h : TabOk n t) {i c : Int} (v : Option Int) (i0 : 0 ≤ i) (i1 : i < (t.length : Nat)) : TabOk n (putE t i c v) := by
  refine ⟨by unfold putE; rw [List.length_set]; exact h.few, fun r hr => ?_, h.n4⟩
  unfold putE at hr
  rcases List.mem_or_eq_of_mem_set hr with q | q
  · exact h.wide r q
  · rw [q, List.length_set]; exact h.wide _ (rw_ok i0 i1).2.2
/-- how many entries miss -/
def unkN (t : Tab) : Nat := (t.map fun r => r.count none).sum
theorem count_set {r : Row} {c : Nat} {v : Int} (h : r[c]? = some none) : (r.set c (some v)).count none + 1 = r.count none := by
  induction r generalizing c with
  | nil => cases h
  | cons a r ih =>
    cases c with
    | zero => cases h; simp
    | succ c =>
      have := ih (c := c) (by simpa using h)
      simp only [List.set_cons_succ, List.count_cons]
      omega
theorem unkN_put {t : Tab} {q : Int × Int} (h : Unk t q) (v : Int) : unkN (putE t q.1 q.2 (some v)) + 1 = unkN t := by
  obtain ⟨e1, e2, e3⟩ := rw_ok h.i0 h.i1
  have hz : (rw_ t q.1)[q.2.toNat]? = some none := by
    obtain ⟨a, f1, f2, _⟩ := oAt_in h.c0 h.c1
    have := h.no
    unfold gt at this
    rw [f1] at this
    rw [f2]
    exact congrArg some this
  have := count_set (v := v) hz
  unfold putE unkN
  generalize q.1.toNat = k at e2
  generalize rw_ t q.1 = r at e2 this
  clear e1 e3 hz h
  induction t generalizing k with
  | nil => cases e2
  | cons a t ih =>
    cases k with
    | zero => cases e2; simp; omega
    | succ k =>
      have := ih k (by simpa using e2)
      simp only [List.set_cons_succ, List.map_cons, List.sum_cons]
      omega
theorem unk_pos {t : Tab} {q : Int × Int} (h : Unk t q) : 0 < unkN t := by
  have := unkN_put h 0
  omega
end Q92
end
section
set_option maxHeartbeats 4000000
namespace Q92
open PySem PySem.Spec PyProof.Rows L2 SK
/-! ### plain: twins, meetings -/
def SetIn (n : Nat) (s : List Int) : Prop := ∀ c ∈ s, 0 ≤ c ∧ c < (n : Int)
def alikeF (f s : Row) (some_ : List Int) : Bool := some_.all fun c => !isNo (gt f c) && decide (gt f c = gt s c)
def meetF (f s : Row) (some_ : List Int) : Bool := some_.all fun c => isNo (gt f c) || oMem (gt s c) [none, gt f c]
theorem p_are_alike {n : Nat} {f s : Row} {q : List Int} (hf : f.length = n) (hs : s.length = n) (hq : SetIn n q) : m_are_alike (f, s, q) = some (alikeF f s q) := by
  unfold m_are_alike b_are_alike
  simp (implicitDefEqProofs := false) only [lkF, bkF, bkF_n, bkF_if, bkF_bk, obF_rt, obF_nx, obF_if, obF_bk, exF_rt, exF_nx, exF_if, exF_bk, rbF_ok, rbF_er, rrF_ok, rrF_er, rrF_if, trF_ok, trF_er, trF_if, cmp_lt, cmp_le, cmp_gt, cmp_ge, id_eq, if_true, if_false, Bool.false_eq_true, reduceIte, Bool.not_true, Bool.not_false, Bool.false_xor, Bool.true_xor]
  rw [mM_some _ (fun c => !isNo (gt f c) && decide (gt f c = gt s c)) q]
  · simp (implicitDefEqProofs := false) only [lkF, bkF, bkF_n, bkF_if, bkF_bk, obF_rt, obF_nx, obF_if, obF_bk, exF_rt, exF_nx, exF_if, exF_bk, rbF_ok, rbF_er, rrF_ok, rrF_er, rrF_if, trF_ok, trF_er, trF_if, cmp_lt, cmp_le, cmp_gt, cmp_ge, id_eq, if_true, if_false, Bool.false_eq_true, reduceIte, Bool.not_true, Bool.not_false, Bool.false_xor, Bool.true_xor]
    simp [alikeF, List.all_map, Function.comp_def]
  · intro c hc
    have := hq c hc
    rw [gt_ok (r := f) this.1 (by omega), gt_ok (r := s) this.1 (by omega)]
    cases e : isNo (gt f c) <;> simp [e, bkF, lkF]
theorem p_do_meet {n : Nat} {f s : Row} {q : List Int} (hf : f.length = n) (hs : s.length = n) (hq : SetIn n q) : m_do_meet (f, s, q) = some (meetF f s q) := by
  unfold m_do_meet b_do_meet
  simp (implicitDefEqProofs := false) only [lkF, bkF, bkF_n, bkF_if, bkF_bk, obF_rt, obF_nx, obF_if, obF_bk, exF_rt, exF_nx, exF_if, exF_bk, rbF_ok, rbF_er, rrF_ok, rrF_er, rrF_if, trF_ok, trF_er, trF_if, cmp_lt, cmp_le, cmp_gt, cmp_ge, id_eq, if_true, if_false, Bool.false_eq_true, reduceIte, Bool.not_true, Bool.not_false, Bool.false_xor, Bool.true_xor]
  rw [mM_some _ (fun c => isNo (gt f c) || oMem (gt s c) [none, gt f c]) q]
  · simp (implicitDefEqProofs := false) only [lkF, bkF, bkF_n, bkF_if, bkF_bk, obF_rt, obF_nx, obF_if, obF_bk, exF_rt, exF_nx, exF_if, exF_bk, rbF_ok, rbF_er, rrF_ok, rrF_er, rrF_if, trF_ok, trF_er, trF_if, cmp_lt, cmp_le, cmp_gt, cmp_ge, id_eq, if_true, if_false, Bool.false_eq_true, reduceIte, Bool.not_true, Bool.not_false, Bool.false_xor, Bool.true_xor]
    simp [meetF, List.all_map, Function.comp_def]
  · intro c hc
    have := hq c hc
    rw [gt_ok (r := f) this.1 (by omega), gt_ok (r := s) this.1 (by omega)]
    cases e : isNo (gt f c) <;> simp [e, bkF, lkF]
def twF (t : Tab) (d : Dem) : Option (Int × Int × Int) := (enumL 0 d).findSome? fun q => (rngL 0 t.length).findSome? fun j => (rngL 0 j).findSome? fun i => if alikeF (rw_ t i) (rw_ t j) q.2 = true then some (i, j, q.1) else none
theorem find_some {α ρ : Type} (g : α → Option ρ) (l : List α) : l.findSome? (fun x => (g x).map some) = (l.findSome? g).map some := by
  induction l with
  | nil => rfl
  | cons x l ih =>
    rw [List.findSome?_cons, List.findSome?_cons, ih]
    cases g x <;> rfl
theorem p_find_twins {n : Nat} {t : Tab} {d : Dem} (h : TabOk n t) (hd : DemOk n d) : m_find_twins (t, d) = some (twF t d) := by
  unfold m_find_twins b_find_twins
  simp (implicitDefEqProofs := false) only [lkF, bkF, bkF_n, bkF_if, bkF_bk, obF_rt, obF_nx, obF_if, obF_bk, exF_rt, exF_nx, exF_if, exF_bk, rbF_ok, rbF_er, rrF_ok, rrF_er, rrF_if, trF_ok, trF_er, trF_if, cmp_lt, cmp_le, cmp_gt, cmp_ge, id_eq, if_true, if_false, Bool.false_eq_true, reduceIte, Bool.not_true, Bool.not_false, Bool.false_xor, Bool.true_xor]
  have := h.few
  rw [forM_find _ (fun q : Int × List Int => ((rngL 0 t.length).findSome? fun j => (rngL 0 j).findSome? fun i => if alikeF (rw_ t i) (rw_ t j) q.2 = true then some (i, j, q.1) else none).map some) (enumL 0 d)]
  · rw [find_some]
    show exO false _ (ob false (some (fnd ((twF t d).map some))) _) = _
    cases twF t d <;> rfl
  · intro q hq
    obtain ⟨k, _, e2⟩ := mem_enum.mp hq
    have hq2 : SetIn n q.2 := hd.inr _ (List.mem_of_getElem? e2)
    rw [rng_ok (by omega) (by omega) (by omega) (by omega)]
    simp (implicitDefEqProofs := false) only [lkF, bkF, bkF_n, bkF_if, bkF_bk, obF_rt, obF_nx, obF_if, obF_bk, exF_rt, exF_nx, exF_if, exF_bk, rbF_ok, rbF_er, rrF_ok, rrF_er, rrF_if, trF_ok, trF_er, trF_if, cmp_lt, cmp_le, cmp_gt, cmp_ge, id_eq, if_true, if_false, Bool.false_eq_true, reduceIte, Bool.not_true, Bool.not_false, Bool.false_xor, Bool.true_xor]
    rw [forM_find _ (fun j => ((rngL 0 j).findSome? fun i => if alikeF (rw_ t i) (rw_ t j) q.2 = true then some (i, j, q.1) else none).map some) (rngL 0 t.length)]
    · rw [fnd_ob, find_some]
    · intro j hj
      rw [mem_rng] at hj
      rw [rng_ok (by omega) (by omega) (by omega) (by omega)]
      simp (implicitDefEqProofs := false) only [lkF, bkF, bkF_n, bkF_if, bkF_bk, obF_rt, obF_nx, obF_if, obF_bk, exF_rt, exF_nx, exF_if, exF_bk, rbF_ok, rbF_er, rrF_ok, rrF_er, rrF_if, trF_ok, trF_er, trF_if, cmp_lt, cmp_le, cmp_gt, cmp_ge, id_eq, if_true, if_false, Bool.false_eq_true, reduceIte, Bool.not_true, Bool.not_false, Bool.false_xor, Bool.true_xor]
      rw [forM_find _ (fun i => (if alikeF (rw_ t i) (rw_ t j) q.2 = true then some (i, j, q.1) else none).map some) (rngL 0 j)]
      · rw [fnd_ob, find_some]
      · intro i hi
        rw [mem_rng] at hi
        obtain ⟨a1, _, a3⟩ := rw_ok (t := t) (i := i) (by omega) (by omega)
        obtain ⟨b1, _, b3⟩ := rw_ok (t := t) (i := j) (by omega) (by omega)
        rw [a1, b1]
        simp (implicitDefEqProofs := false) only [lkF, bkF, bkF_n, bkF_if, bkF_bk, obF_rt, obF_nx, obF_if, obF_bk, exF_rt, exF_nx, exF_if, exF_bk, rbF_ok, rbF_er, rrF_ok, rrF_er, rrF_if, trF_ok, trF_er, trF_if, cmp_lt, cmp_le, cmp_gt, cmp_ge, id_eq, if_true, if_false, Bool.false_eq_true, reduceIte, Bool.not_true, Bool.not_false, Bool.false_xor, Bool.true_xor, p_are_alike (h.wide _ a3) (h.wide _ b3) hq2]
        cases alikeF (rw_ t i) (rw_ t j) q.2 <;> rfl
/-- what twins are -/
theorem twF_some {t : Tab} {d : Dem} {i j k : Int} (h : twF t d = some (i, j, k)) : 0 ≤ i ∧ i < j ∧ j < (t.length : Nat) ∧ 0 ≤ k ∧ k < (d.length : Nat) ∧ ∃ s, oAt d k = some s ∧ s ∈ d ∧ alikeF (rw_ t i) (rw_ t j) s = true := by
  unfold twF at h
  obtain ⟨q, hq, h⟩ := List.exists_of_findSome?_eq_some h
  obtain ⟨j', hj, h⟩ := List.exists_of_findSome?_eq_some h
  obtain ⟨i', hi, h⟩ := List.exists_of_findSome?_eq_some h
  rw [mem_rng] at hi hj
  split at h
  · rename_i c
    cases h
    obtain ⟨m, e1, e2⟩ := mem_enum.mp hq
    have hm : m < d.length := (List.getElem?_eq_some_iff.mp e2).1
    simp only [Nat.zero_add] at e1
    refine ⟨hi.1, hi.2, hj.2, by rw [e1]; omega, by rw [e1]; omega, q.2, by rw [e1]; exact oAt_nat e2, List.mem_of_getElem? e2, c⟩
  · cases h
theorem twF_none {t : Tab} {d : Dem} (h : twF t d = none) {i j : Int} {s : List Int} (hi : 0 ≤ i) (hij : i < j) (hj : j < (t.length : Nat)) (hs : s ∈ d) : alikeF (rw_ t i) (rw_ t j) s = false := by
  unfold twF at h
  rw [List.findSome?_eq_none_iff] at h
  obtain ⟨m, hm, e⟩ := List.getElem_of_mem hs
  have h1 := h (((m : Nat) : Int), s) (mem_enum.mpr ⟨m, by simp, by simp [← e, hm]⟩)
  rw [List.findSome?_eq_none_iff] at h1
  have h2 := h1 j (mem_rng.mpr ⟨by omega, hj⟩)
  rw [List.findSome?_eq_none_iff] at h2
  have h3 := h2 i (mem_rng.mpr ⟨hi, hij⟩)
  split at h3
  · cases h3
  · rename_i c; simpa using c
def meetL (t : Tab) (s : List Int) : List (Int × Int) := (rngL 0 t.length).flatMap fun i => (rngL (i + 1) t.length).flatMap fun j => if meetF (rw_ t i) (rw_ t j) s = true then [(i, j)] else []
theorem inner_len (t : Tab) (s : List Int) (i : Int) : ((rngL (i + 1) t.length).flatMap fun j => if meetF (rw_ t i) (rw_ t j) s = true then [(i, j)] else []).length ≤ (rngL (i + 1) t.length).length := by
  generalize rngL (i + 1) t.length = l
  induction l with
  | nil => simp
  | cons x l ih =>
    rw [List.flatMap_cons, List.length_append, List.length_cons]
    have : (if meetF (rw_ t i) (rw_ t x) s = true then [(i, x)] else []).length ≤ 1 := by split <;> simp
    omega
theorem p_find_meetings {n : Nat} {t : Tab} {s : List Int} (h : TabOk n t) (hs : SetIn n s) : m_find_meetings (t, s) = some (meetL t s) := by
  unfold m_find_meetings b_find_meetings
  simp (implicitDefEqProofs := false) only [lkF, bkF, bkF_n, bkF_if, bkF_bk, obF_rt, obF_nx, obF_if, obF_bk, exF_rt, exF_nx, exF_if, exF_bk, rbF_ok, rbF_er, rrF_ok, rrF_er, rrF_if, trF_ok, trF_er, trF_if, cmp_lt, cmp_le, cmp_gt, cmp_ge, id_eq, if_true, if_false, Bool.false_eq_true, reduceIte, Bool.not_true, Bool.not_false, Bool.false_xor, Bool.true_xor]
  have := h.few
  have hz := sum_le (fun i : Int => ((rngL (i + 1) t.length).flatMap fun j => if meetF (rw_ t i) (rw_ t j) s = true then [(i, j)] else []).length) 8 (rngL 0 t.length) fun i hi => by
    rw [mem_rng] at hi
    have := inner_len t s i
    rw [rng_len] at this
    omega
  rw [rng_len] at hz
  rw [rng_ok (by omega) (by omega) (by omega) (by omega)]
  simp (implicitDefEqProofs := false) only [lkF, bkF, bkF_n, bkF_if, bkF_bk, obF_rt, obF_nx, obF_if, obF_bk, exF_rt, exF_nx, exF_if, exF_bk, rbF_ok, rbF_er, rrF_ok, rrF_er, rrF_if, trF_ok, trF_er, trF_if, cmp_lt, cmp_le, cmp_gt, cmp_ge, id_eq, if_true, if_false, Bool.false_eq_true, reduceIte, Bool.not_true, Bool.not_false, Bool.false_xor, Bool.true_xor]
  rw [forM_acc (g := fun i : Int => (rngL (i + 1) t.length).flatMap fun j => if meetF (rw_ t i) (rw_ t j) s = true then [(i, j)] else []) (B := 64) (hz := by rw [List.length_nil, Nat.zero_add]; exact Nat.le_trans hz (by omega))]
  · simp (implicitDefEqProofs := false) only [lkF, bkF, bkF_n, bkF_if, bkF_bk, obF_rt, obF_nx, obF_if, obF_bk, exF_rt, exF_nx, exF_if, exF_bk, rbF_ok, rbF_er, rrF_ok, rrF_er, rrF_if, trF_ok, trF_er, trF_if, cmp_lt, cmp_le, cmp_gt, cmp_ge, id_eq, if_true, if_false, Bool.false_eq_true, reduceIte, Bool.not_true, Bool.not_false, Bool.false_xor, Bool.true_xor]
    rfl
  · intro i hi acc hacc
    rw [mem_rng] at hi
    rw [rng_ok (by omega) (by omega) (by omega) (by omega)]
    simp (implicitDefEqProofs := false) only [lkF, bkF, bkF_n, bkF_if, bkF_bk, obF_rt, obF_nx, obF_if, obF_bk, exF_rt, exF_nx, exF_if, exF_bk, rbF_ok, rbF_er, rrF_ok, rrF_er, rrF_if, trF_ok, trF_er, trF_if, cmp_lt, cmp_le, cmp_gt, cmp_ge, id_eq, if_true, if_false, Bool.false_eq_true, reduceIte, Bool.not_true, Bool.not_false, Bool.false_xor, Bool.true_xor]
    have hz2 := sum_le (fun j : Int => (if meetF (rw_ t i) (rw_ t j) s = true then [(i, j)] else []).length) 1 (rngL (i + 1) t.length) fun j _ => by split <;> simp
    rw [rng_len] at hz2
    rw [forM_acc (g := fun j : Int => if meetF (rw_ t i) (rw_ t j) s = true then [(i, j)] else []) (B := 200) (hz := by omega)]
    · simp (implicitDefEqProofs := false) only [lkF, bkF, bkF_n, bkF_if, bkF_bk, obF_rt, obF_nx, obF_if, obF_bk, exF_rt, exF_nx, exF_if, exF_bk, rbF_ok, rbF_er, rrF_ok, rrF_er, rrF_if, trF_ok, trF_er, trF_if, cmp_lt, cmp_le, cmp_gt, cmp_ge, id_eq, if_true, if_false, Bool.false_eq_true, reduceIte, Bool.not_true, Bool.not_false, Bool.false_xor, Bool.true_xor]
    · intro j hj acc2 hacc2
      rw [mem_rng] at hj
      obtain ⟨a1, _, a3⟩ := rw_ok (t := t) (i := i) (by omega) (by omega)
      obtain ⟨b1, _, b3⟩ := rw_ok (t := t) (i := j) (by omega) (by omega)
      rw [a1, b1]
      simp (implicitDefEqProofs := false) only [lkF, bkF, bkF_n, bkF_if, bkF_bk, obF_rt, obF_nx, obF_if, obF_bk, exF_rt, exF_nx, exF_if, exF_bk, rbF_ok, rbF_er, rrF_ok, rrF_er, rrF_if, trF_ok, trF_er, trF_if, cmp_lt, cmp_le, cmp_gt, cmp_ge, id_eq, if_true, if_false, Bool.false_eq_true, reduceIte, Bool.not_true, Bool.not_false, Bool.false_xor, Bool.true_xor, p_do_meet (h.wide _ a3) (h.wide _ b3) hs]
      cases q : meetF (rw_ t i) (rw_ t j) s
      · simp
      · simp only [reduceIte]
        rw [q] at hacc2
        simp only [reduceIte, List.length_cons, List.length_nil] at hacc2
        rw [oApp_ok (by omega)]
        rfl
def sureF (t : Tab) (d : Dem) : Bool := d.all fun s => decide (meetL t s = [])
theorem p_are_sure {n : Nat} {t : Tab} {d : Dem} (h : TabOk n t) (hd : DemOk n d) : m_are_sure (t, d) = some (sureF t d) := by
  unfold m_are_sure b_are_sure
  simp (implicitDefEqProofs := false) only [lkF, bkF, bkF_n, bkF_if, bkF_bk, obF_rt, obF_nx, obF_if, obF_bk, exF_rt, exF_nx, exF_if, exF_bk, rbF_ok, rbF_er, rrF_ok, rrF_er, rrF_if, trF_ok, trF_er, trF_if, cmp_lt, cmp_le, cmp_gt, cmp_ge, id_eq, if_true, if_false, Bool.false_eq_true, reduceIte, Bool.not_true, Bool.not_false, Bool.false_xor, Bool.true_xor]
  rw [mM_some _ (fun s => decide (meetL t s = [])) d]
  · simp (implicitDefEqProofs := false) only [lkF, bkF, bkF_n, bkF_if, bkF_bk, obF_rt, obF_nx, obF_if, obF_bk, exF_rt, exF_nx, exF_if, exF_bk, rbF_ok, rbF_er, rrF_ok, rrF_er, rrF_if, trF_ok, trF_er, trF_if, cmp_lt, cmp_le, cmp_gt, cmp_ge, id_eq, if_true, if_false, Bool.false_eq_true, reduceIte, Bool.not_true, Bool.not_false, Bool.false_xor, Bool.true_xor]
    simp [sureF, List.all_map, Function.comp_def]
  · intro s hs
    simp (implicitDefEqProofs := false) only [lkF, bkF, bkF_n, bkF_if, bkF_bk, obF_rt, obF_nx, obF_if, obF_bk, exF_rt, exF_nx, exF_if, exF_bk, rbF_ok, rbF_er, rrF_ok, rrF_er, rrF_if, trF_ok, trF_er, trF_if, cmp_lt, cmp_le, cmp_gt, cmp_ge, id_eq, if_true, if_false, Bool.false_eq_true, reduceIte, Bool.not_true, Bool.not_false, Bool.false_xor, Bool.true_xor, p_find_meetings h (hd.inr s hs)]
theorem no_unk {n : Nat} {t : Tab} (h : TabOk n t) (hu : unkL t = []) {i c : Int} (i0 : 0 ≤ i) (i1 : i < (t.length : Nat)) (c0 : 0 ≤ c) (c1 : c < (n : Int)) : gt (rw_ t i) c ≠ none := fun e => by
  have : (i, c) ∈ unkL t := mem_unk.mpr ⟨i0, i1, c0, by rw [h.wide _ (rw_ok i0 i1).2.2]; exact c1, e⟩
  rw [hu] at this
  cases this
/-- a table that lacks nothing and has no twins is sure -/
theorem sure_of {n : Nat} {t : Tab} {d : Dem} (h : TabOk n t) (hd : DemOk n d) (ht : twF t d = none) (hu : unkL t = []) : sureF t d = true := by
  unfold sureF
  rw [List.all_eq_true]
  intro s hs
  rw [decide_eq_true_eq]
  unfold meetL
  rw [List.flatMap_eq_nil_iff]
  intro i hi
  rw [List.flatMap_eq_nil_iff]
  intro j hj
  rw [mem_rng] at hi hj
  have ha := twF_none ht (s := s) hi.1 (show i < j by omega) hj.2 hs
  rw [if_neg]
  intro hm
  apply Bool.false_ne_true
  rw [← ha]
  unfold alikeF
  unfold meetF at hm
  rw [List.all_eq_true] at hm ⊢
  intro c hc
  have h2 := hm c hc
  have hr := hd.inr s hs c hc
  have n1 := no_unk h hu hi.1 hi.2 hr.1 hr.2
  have n2 := no_unk h hu (show 0 ≤ j by omega) hj.2 hr.1 hr.2
  have z : isNo (gt (rw_ t i) c) = false := by cases q : gt (rw_ t i) c with
    | none => exact absurd q n1
    | some v => rfl
  rw [z] at h2 ⊢
  simp only [Bool.false_or, oMem_iff, List.mem_cons, List.not_mem_nil, or_false] at h2
  rcases h2 with q | q
  · exact absurd q n2
  · simp [q]
/-! new entries -/
theorem p_find_new_entry {n : Nat} {t : Tab} (h : TabOk n t) {c : Int} (c0 : 0 ≤ c) (c1 : c < (n : Int)) : ∃ v, m_find_new_entry (t, c) = some v ∧ ∀ r ∈ t, ∀ x, gt r c = some x → x < v := by
  unfold m_find_new_entry b_find_new_entry
  simp (implicitDefEqProofs := false) only [lkF, bkF, bkF_n, bkF_if, bkF_bk, obF_rt, obF_nx, obF_if, obF_bk, exF_rt, exF_nx, exF_if, exF_bk, rbF_ok, rbF_er, rrF_ok, rrF_er, rrF_if, trF_ok, trF_er, trF_if, cmp_lt, cmp_le, cmp_gt, cmp_ge, id_eq, if_true, if_false, Bool.false_eq_true, reduceIte, Bool.not_true, Bool.not_false, Bool.false_xor, Bool.true_xor]
  have := h.few
  have hr : ∀ r ∈ t, oAt r c = some (gt r c) := fun r hr => gt_ok c0 (by rw [h.wide r hr]; exact c1)
  rw [cM_some _ (fun r => !isNo (gt r c)) _ (fun r => (gt r c).getD 0)]
  · simp (implicitDefEqProofs := false) only [lkF, bkF, bkF_n, bkF_if, bkF_bk, obF_rt, obF_nx, obF_if, obF_bk, exF_rt, exF_nx, exF_if, exF_bk, rbF_ok, rbF_er, rrF_ok, rrF_er, rrF_if, trF_ok, trF_er, trF_if, cmp_lt, cmp_le, cmp_gt, cmp_ge, id_eq, if_true, if_false, Bool.false_eq_true, reduceIte, Bool.not_true, Bool.not_false, Bool.false_xor, Bool.true_xor]
    rw [oCat_ok (by
      have := List.length_filter_le (fun r => !isNo (gt r c)) t
      simp only [List.length_map, List.length_cons, List.length_nil]
      omega)]
    simp (implicitDefEqProofs := false) only [lkF, bkF, bkF_n, bkF_if, bkF_bk, obF_rt, obF_nx, obF_if, obF_bk, exF_rt, exF_nx, exF_if, exF_bk, rbF_ok, rbF_er, rrF_ok, rrF_er, rrF_if, trF_ok, trF_er, trF_if, cmp_lt, cmp_le, cmp_gt, cmp_ge, id_eq, if_true, if_false, Bool.false_eq_true, reduceIte, Bool.not_true, Bool.not_false, Bool.false_xor, Bool.true_xor]
    have hm : ∀ r ∈ t, ∀ x, gt r c = some x → x ∈ (List.filter (fun r => !isNo (gt r c)) t).map fun r => (gt r c).getD 0 := fun r hr x hx => List.mem_map.mpr ⟨r, List.mem_filter.mpr ⟨hr, by rw [hx]; rfl⟩, by rw [hx]; rfl⟩
    generalize ((List.filter (fun r => !isNo (gt r c)) t).map fun r => (gt r c).getD 0) = L at hm ⊢
    refine ⟨L.foldl max (-1) + 1, rfl, fun r hr x hx => ?_⟩
    have := (foldl_max_le L (-1)).2.1 x (hm r hr x hx)
    omega
  · intro r hr'
    rw [hr r hr']
    simp (implicitDefEqProofs := false) only [lkF, bkF, bkF_n, bkF_if, bkF_bk, obF_rt, obF_nx, obF_if, obF_bk, exF_rt, exF_nx, exF_if, exF_bk, rbF_ok, rbF_er, rrF_ok, rrF_er, rrF_if, trF_ok, trF_er, trF_if, cmp_lt, cmp_le, cmp_gt, cmp_ge, id_eq, if_true, if_false, Bool.false_eq_true, reduceIte, Bool.not_true, Bool.not_false, Bool.false_xor, Bool.true_xor]
  · intro r hr' q
    rw [hr r hr']
    cases e : gt r c with
    | none => rw [e] at q; cases q
    | some v => simp (implicitDefEqProofs := false) only [lkF, bkF, bkF_n, bkF_if, bkF_bk, obF_rt, obF_nx, obF_if, obF_bk, exF_rt, exF_nx, exF_if, exF_bk, rbF_ok, rbF_er, rrF_ok, rrF_er, rrF_if, trF_ok, trF_er, trF_if, cmp_lt, cmp_le, cmp_gt, cmp_ge, id_eq, if_true, if_false, Bool.false_eq_true, reduceIte, Bool.not_true, Bool.not_false, Bool.false_xor, Bool.true_xor]; rfl
end Q92
end
section
set_option maxHeartbeats 4000000
namespace Q92
open PySem PySem.Spec PyProof.Rows L2 SK
/-! ### plain: what always gives something -/
theorem forM_tot {α σ ρ : Type} {f : α → σ → Option (Out σ ρ)} (I : List α → σ → Prop) : ∀ {l : List α} {s : σ}, I l s → (∀ x l s, I (x :: l) s → ∃ r, f x s = some r ∧ ∀ s', r = .nx s' → I l s') → ∃ r, forM false f l s = some r ∧ ∀ s', r = .nx s' → I [] s'
  | [], s, h, _ => ⟨.nx s, rfl, fun s' e => by cases e; exact h⟩
  | x :: l, s, h, hs => by
    obtain ⟨r, e, h1⟩ := hs x l s h
    cases r with
    | nx s1 =>
      obtain ⟨r2, e2, h2⟩ := forM_tot I (h1 s1 rfl) hs
      refine ⟨r2, ?_, h2⟩
      show ob false (f x s) _ = _
      rw [e, obF_nx, e2]
    | rt r1 =>
      refine ⟨.rt r1, ?_, fun s' e => by cases e⟩
      show ob false (f x s) _ = _
      rw [e, obF_rt]
theorem mM_tot {α β : Type} {f : α → Option β} (P : α → β → Prop) : ∀ {l : List α}, (∀ x ∈ l, ∃ y, f x = some y ∧ P x y) → ∃ r, mM false f l = some r ∧ r.length = l.length ∧ ∀ q ∈ l.zip r, P q.1 q.2
  | [], _ => ⟨[], rfl, rfl, by simp⟩
  | x :: l, h => by
    obtain ⟨y, e, hy⟩ := h x (List.mem_cons_self ..)
    obtain ⟨r, e2, e3, h2⟩ := mM_tot P fun z hz => h z (List.mem_cons_of_mem _ hz)
    refine ⟨y :: r, ?_, by simp [e3], ?_⟩
    · show bk false (f x) _ = _
      rw [e, bkF, e2]
      rfl
    · intro q hq
      rw [List.zip_cons_cons] at hq
      rcases List.mem_cons.mp hq with c | c
      · rw [c]; exact hy
      · exact h2 q c
theorem cM_tot {α β : Type} {f : α → Option β} (P : α → β → Prop) {l : List α} (h : ∀ x ∈ l, ∃ y, f x = some y ∧ P x y) : ∃ r, cM false (fun _ => pk false true) f l = some r ∧ r.length = l.length ∧ ∀ q ∈ l.zip r, P q.1 q.2 := by
  rw [cM_true]
  exact mM_tot P h
structure ColOk (n : Nat) (cs : Cols) : Prop where
  len : cs.length = n
  few : ∀ l, some l ∈ cs → l.length ≤ 3
def colF (cs : Cols) (c : Int) : Option (List Int) := (oAt cs c).getD none
theorem col_ok {n : Nat} {cs : Cols} (h : ColOk n cs) {c : Int} (c0 : 0 ≤ c) (c1 : c < (n : Int)) : oAt cs c = some (colF cs c) ∧ colF cs c ∈ cs := by
  have := h.len
  obtain ⟨a, e, _, m⟩ := oAt_in (l := cs) c0 (by omega)
  have : colF cs c = a := by unfold colF; rw [e]; rfl
  rw [this]
  exact ⟨e, m⟩
theorem unk_c1 {n : Nat} {t : Tab} (h : TabOk n t) {q : Int × Int} (u : Unk t q) : q.2 < (n : Int) := by
  have := u.c1
  rwa [h.wide _ (rw_ok u.i0 u.i1).2.2] at this
theorem head_unk {t : Tab} {q : Int × Int} {l : List (Int × Int)} (e : unkL t = q :: l) : Unk t q := mem_unk.mp (by rw [e]; exact List.mem_cons_self ..)
theorem p_explore {n : Nat} {cs : Cols} {d : Dem} (hc : ColOk n cs) (hd : DemOk n d) : ∀ (k : Nat) (t : Tab), TabOk n t → unkN t < k → ∃ r, m_explore k (cs, t, d) = some r
  | 0, _, _, h => absurd h (Nat.not_lt_zero _)
  | k + 1, t, h, hk => by
    show ∃ r, exO false _ (b_explore (m_explore k) (cs, t, d)) = some r
    unfold b_explore
    simp (implicitDefEqProofs := false) only [lkF, bkF, bkF_n, bkF_if, bkF_bk, obF_rt, obF_nx, obF_if, obF_bk, exF_rt, exF_nx, exF_if, exF_bk, rbF_ok, rbF_er, rrF_ok, rrF_er, rrF_if, trF_ok, trF_er, trF_if, cmp_lt, cmp_le, cmp_gt, cmp_ge, id_eq, if_true, if_false, Bool.false_eq_true, reduceIte, Bool.not_true, Bool.not_false, Bool.false_xor, Bool.true_xor, p_find_twins h hd, p_find_unknown h]
    cases twF t d with
    | some w => simp (implicitDefEqProofs := false) only [lkF, bkF, bkF_n, bkF_if, bkF_bk, obF_rt, obF_nx, obF_if, obF_bk, exF_rt, exF_nx, exF_if, exF_bk, rbF_ok, rbF_er, rrF_ok, rrF_er, rrF_if, trF_ok, trF_er, trF_if, cmp_lt, cmp_le, cmp_gt, cmp_ge, id_eq, if_true, if_false, Bool.false_eq_true, reduceIte, Bool.not_true, Bool.not_false, Bool.false_xor, Bool.true_xor, isNo, Option.isNone]; exact ⟨_, rfl⟩
    | none =>
      simp (implicitDefEqProofs := false) only [lkF, bkF, bkF_n, bkF_if, bkF_bk, obF_rt, obF_nx, obF_if, obF_bk, exF_rt, exF_nx, exF_if, exF_bk, rbF_ok, rbF_er, rrF_ok, rrF_er, rrF_if, trF_ok, trF_er, trF_if, cmp_lt, cmp_le, cmp_gt, cmp_ge, id_eq, if_true, if_false, Bool.false_eq_true, reduceIte, Bool.not_true, Bool.not_false, Bool.false_xor, Bool.true_xor, isNo, Option.isNone]
      cases eu : unkL t with
      | nil => simp (implicitDefEqProofs := false) only [lkF, bkF, bkF_n, bkF_if, bkF_bk, obF_rt, obF_nx, obF_if, obF_bk, exF_rt, exF_nx, exF_if, exF_bk, rbF_ok, rbF_er, rrF_ok, rrF_er, rrF_if, trF_ok, trF_er, trF_if, cmp_lt, cmp_le, cmp_gt, cmp_ge, id_eq, if_true, if_false, Bool.false_eq_true, reduceIte, Bool.not_true, Bool.not_false, Bool.false_xor, Bool.true_xor, decide_true]; exact ⟨_, rfl⟩
      | cons q l =>
        have u := head_unk eu
        have c1 := unk_c1 h u
        obtain ⟨a1, a2⟩ := col_ok hc u.c0 c1
        have e0 : oAt (q :: l) 0 = some q := oAt_nat (i := 0) rfl
        have ed : decide (q :: l = []) = false := by simp
        have ih : ∀ v : Int, ∃ r, m_explore k (cs, putE t q.1 q.2 (some v), d) = some r := fun v => p_explore hc hd k _ (put_ok h _ u.i0 u.i1) (by have := unkN_put u v; omega)
        simp (implicitDefEqProofs := false) only [lkF, bkF, bkF_n, bkF_if, bkF_bk, obF_rt, obF_nx, obF_if, obF_bk, exF_rt, exF_nx, exF_if, exF_bk, rbF_ok, rbF_er, rrF_ok, rrF_er, rrF_if, trF_ok, trF_er, trF_if, cmp_lt, cmp_le, cmp_gt, cmp_ge, id_eq, if_true, if_false, Bool.false_eq_true, reduceIte, Bool.not_true, Bool.not_false, Bool.false_xor, Bool.true_xor, e0, ed, a1]
        cases ec : colF cs q.2 with
        | none =>
          obtain ⟨v, ev, _⟩ := p_find_new_entry h u.c0 c1
          obtain ⟨r, er⟩ := ih v
          simp (implicitDefEqProofs := false) only [lkF, bkF, bkF_n, bkF_if, bkF_bk, obF_rt, obF_nx, obF_if, obF_bk, exF_rt, exF_nx, exF_if, exF_bk, rbF_ok, rbF_er, rrF_ok, rrF_er, rrF_if, trF_ok, trF_er, trF_if, cmp_lt, cmp_le, cmp_gt, cmp_ge, id_eq, if_true, if_false, Bool.false_eq_true, reduceIte, Bool.not_true, Bool.not_false, Bool.false_xor, Bool.true_xor, isNo, ev, p_with_entry h (some v) u.i0 u.i1 u.c0 c1, er]
          cases noneP r.1 <;> exact ⟨_, rfl⟩
        | some vs =>
          simp (implicitDefEqProofs := false) only [lkF, bkF, bkF_n, bkF_if, bkF_bk, obF_rt, obF_nx, obF_if, obF_bk, exF_rt, exF_nx, exF_if, exF_bk, rbF_ok, rbF_er, rrF_ok, rrF_er, rrF_if, trF_ok, trF_er, trF_if, cmp_lt, cmp_le, cmp_gt, cmp_ge, id_eq, if_true, if_false, Bool.false_eq_true, reduceIte, Bool.not_true, Bool.not_false, Bool.false_xor, Bool.true_xor, isNo]
          obtain ⟨r, er, _⟩ := forM_tot (ρ := PyData × Option Tab) (f := fun (a64 : Int) (s65 : List PyData) => bk false (m_with_entry (t, q.1, q.2, some a64)) fun x75 => bk false (m_explore k (cs, x75, d)) fun y66 => ob false (if noneP y66.1 = true then some (Out.rt (PyData.none, y66.2)) else some (Out.nx ())) fun _ : Unit => bk false (oApp s65 y66.1) fun l86 => some (Out.nx l86)) (fun l s => s.length + l.length ≤ 1000) (l := vs) (s := []) (by have := hc.few vs (by rw [← ec]; exact a2); simp; omega) (fun x l s hI => by
            rw [p_with_entry h (some x) u.i0 u.i1 u.c0 c1]
            obtain ⟨r, er⟩ := ih x
            simp (implicitDefEqProofs := false) only [lkF, bkF, bkF_n, bkF_if, bkF_bk, obF_rt, obF_nx, obF_if, obF_bk, exF_rt, exF_nx, exF_if, exF_bk, rbF_ok, rbF_er, rrF_ok, rrF_er, rrF_if, trF_ok, trF_er, trF_if, cmp_lt, cmp_le, cmp_gt, cmp_ge, id_eq, if_true, if_false, Bool.false_eq_true, reduceIte, Bool.not_true, Bool.not_false, Bool.false_xor, Bool.true_xor, er]
            cases noneP r.1 with
            | true => exact ⟨_, rfl, fun s' e => by cases e⟩
            | false =>
              rw [List.length_cons] at hI
              simp (implicitDefEqProofs := false) only [lkF, bkF, bkF_n, bkF_if, bkF_bk, obF_rt, obF_nx, obF_if, obF_bk, exF_rt, exF_nx, exF_if, exF_bk, rbF_ok, rbF_er, rrF_ok, rrF_er, rrF_if, trF_ok, trF_er, trF_if, cmp_lt, cmp_le, cmp_gt, cmp_ge, id_eq, if_true, if_false, Bool.false_eq_true, reduceIte, Bool.not_true, Bool.not_false, Bool.false_xor, Bool.true_xor, oApp_ok (l := s) (x := r.1) (by omega)]
              exact ⟨_, rfl, fun s' e => by cases e; rw [List.length_append]; simp; omega⟩)
          rw [er]
          cases r <;> exact ⟨_, rfl⟩
/-- a tree that counts -/
def TreeOf (cs : Cols) (d : Dem) : Nat → Tab → PyData → Prop
  | 0, _, _ => False
  | k + 1, t, p => (∃ w, twF t d = some w ∧ p = eP4 eS eI eI eI ("twins", w.1, w.2.1, w.2.2)) ∨ (p = .tuple [.str "sure"] ∧ sureF t d = true) ∨
    ∃ q vs ts, Unk t q ∧ colF cs q.2 = some vs ∧ p = .tuple [.str "split", .int q.1, .int q.2, .tuple ts] ∧ ts.length = vs.length ∧ ∀ z ∈ vs.zip ts, TreeOf cs d k (putE t q.1 q.2 (some z.1)) z.2
def Ends (cs : Cols) (t : Tab) : Prop := ∀ q, Unk t q → ∃ vs, colF cs q.2 = some vs
theorem unk_put {t : Tab} {q x : Int × Int} {v : Int} (u : Unk t q) (h : Unk (putE t q.1 q.2 (some v)) x) : Unk t x := by
  obtain ⟨e1, e2, e3⟩ := rw_ok u.i0 u.i1
  have hl : (putE t q.1 q.2 (some v)).length = t.length := by unfold putE; rw [List.length_set]
  have i1 := h.i1
  rw [hl] at i1
  obtain ⟨f1, f2, f3⟩ := rw_ok h.i0 i1
  obtain ⟨g1, g2, g3⟩ := rw_ok h.i0 h.i1
  by_cases c : x.1 = q.1
  · have er : rw_ (putE t q.1 q.2 (some v)) x.1 = (rw_ t q.1).set q.2.toNat (some v) := by
      have : (putE t q.1 q.2 (some v))[x.1.toNat]? = some ((rw_ t q.1).set q.2.toNat (some v)) := by
        rw [c]
        unfold putE
        exact List.getElem?_set_self (by have := (List.getElem?_eq_some_iff.mp e2).1; exact this)
      rw [this] at g2
      exact (Option.some.inj g2).symm
    have c1 := h.c1
    rw [er, List.length_set] at c1
    refine ⟨h.i0, i1, h.c0, by rw [c]; exact c1, ?_⟩
    have hn := h.no
    rw [er] at hn
    rw [c]
    by_cases cc : x.2 = q.2
    · exfalso
      obtain ⟨a, a1, a2, _⟩ := oAt_in (l := (rw_ t q.1).set q.2.toNat (some v)) (i := x.2) h.c0 (by rw [List.length_set]; exact c1)
      unfold gt at hn
      rw [a1] at hn
      rw [cc, List.getElem?_set_self (by have := u.c1; have := u.c0; omega)] at a2
      cases a2
      cases hn
    · obtain ⟨a, a1, a2, _⟩ := oAt_in (l := (rw_ t q.1).set q.2.toNat (some v)) (i := x.2) h.c0 (by rw [List.length_set]; exact c1)
      rw [List.getElem?_set_ne (by have := u.c0; have := h.c0; omega)] at a2
      unfold gt at hn ⊢
      rw [a1] at hn
      have := oAt_nat a2
      rw [Int.toNat_of_nonneg h.c0] at this
      rw [this]
      exact hn
  · have er : rw_ (putE t q.1 q.2 (some v)) x.1 = rw_ t x.1 := by
      unfold putE at g2
      rw [List.getElem?_set_ne (by have := u.i0; have := h.i0; omega), f2] at g2
      exact (Option.some.inj g2).symm
    refine ⟨h.i0, i1, h.c0, ?_, ?_⟩
    · have := h.c1; rwa [er] at this
    · have := h.no; rwa [er] at this
theorem Ends.put {cs : Cols} {t : Tab} {q : Int × Int} {v : Int} (h : Ends cs t) (u : Unk t q) : Ends cs (putE t q.1 q.2 (some v)) := fun x hx => h x (unk_put u hx)
theorem p_find_count_tree {n : Nat} {cs : Cols} {d : Dem} (hc : ColOk n cs) (hd : DemOk n d) : ∀ (k : Nat) (t : Tab), TabOk n t → unkN t < k → Ends cs t → ∃ r, m_find_count_tree k (cs, t, d) = some r ∧ TreeOf cs d k t r
  | 0, _, _, h, _ => absurd h (Nat.not_lt_zero _)
  | k + 1, t, h, hk, he => by
    show ∃ r, exO false _ (b_find_count_tree (m_find_count_tree k) (cs, t, d)) = some r ∧ _
    unfold b_find_count_tree
    simp (implicitDefEqProofs := false) only [lkF, bkF, bkF_n, bkF_if, bkF_bk, obF_rt, obF_nx, obF_if, obF_bk, exF_rt, exF_nx, exF_if, exF_bk, rbF_ok, rbF_er, rrF_ok, rrF_er, rrF_if, trF_ok, trF_er, trF_if, cmp_lt, cmp_le, cmp_gt, cmp_ge, id_eq, if_true, if_false, Bool.false_eq_true, reduceIte, Bool.not_true, Bool.not_false, Bool.false_xor, Bool.true_xor, p_find_twins h hd, p_find_unknown h, p_are_sure h hd]
    cases et : twF t d with
    | some w => simp (implicitDefEqProofs := false) only [lkF, bkF, bkF_n, bkF_if, bkF_bk, obF_rt, obF_nx, obF_if, obF_bk, exF_rt, exF_nx, exF_if, exF_bk, rbF_ok, rbF_er, rrF_ok, rrF_er, rrF_if, trF_ok, trF_er, trF_if, cmp_lt, cmp_le, cmp_gt, cmp_ge, id_eq, if_true, if_false, Bool.false_eq_true, reduceIte, Bool.not_true, Bool.not_false, Bool.false_xor, Bool.true_xor, isNo, Option.isNone]; exact ⟨_, rfl, .inl ⟨w, et, rfl⟩⟩
    | none =>
      simp (implicitDefEqProofs := false) only [lkF, bkF, bkF_n, bkF_if, bkF_bk, obF_rt, obF_nx, obF_if, obF_bk, exF_rt, exF_nx, exF_if, exF_bk, rbF_ok, rbF_er, rrF_ok, rrF_er, rrF_if, trF_ok, trF_er, trF_if, cmp_lt, cmp_le, cmp_gt, cmp_ge, id_eq, if_true, if_false, Bool.false_eq_true, reduceIte, Bool.not_true, Bool.not_false, Bool.false_xor, Bool.true_xor, isNo, Option.isNone]
      cases es : sureF t d with
      | true => simp (implicitDefEqProofs := false) only [lkF, bkF, bkF_n, bkF_if, bkF_bk, obF_rt, obF_nx, obF_if, obF_bk, exF_rt, exF_nx, exF_if, exF_bk, rbF_ok, rbF_er, rrF_ok, rrF_er, rrF_if, trF_ok, trF_er, trF_if, cmp_lt, cmp_le, cmp_gt, cmp_ge, id_eq, if_true, if_false, Bool.false_eq_true, reduceIte, Bool.not_true, Bool.not_false, Bool.false_xor, Bool.true_xor]; exact ⟨_, rfl, .inr (.inl ⟨rfl, es⟩)⟩
      | false =>
        simp (implicitDefEqProofs := false) only [lkF, bkF, bkF_n, bkF_if, bkF_bk, obF_rt, obF_nx, obF_if, obF_bk, exF_rt, exF_nx, exF_if, exF_bk, rbF_ok, rbF_er, rrF_ok, rrF_er, rrF_if, trF_ok, trF_er, trF_if, cmp_lt, cmp_le, cmp_gt, cmp_ge, id_eq, if_true, if_false, Bool.false_eq_true, reduceIte, Bool.not_true, Bool.not_false, Bool.false_xor, Bool.true_xor]
        cases eu : unkL t with
        | nil => rw [sure_of h hd et eu] at es; cases es
        | cons q l =>
          have u := head_unk eu
          have c1 := unk_c1 h u
          obtain ⟨a1, a2⟩ := col_ok hc u.c0 c1
          have e0 : oAt (q :: l) 0 = some q := oAt_nat (i := 0) rfl
          obtain ⟨vs, ev⟩ := he q u
          rw [ev] at a1
          simp (implicitDefEqProofs := false) only [lkF, bkF, bkF_n, bkF_if, bkF_bk, obF_rt, obF_nx, obF_if, obF_bk, exF_rt, exF_nx, exF_if, exF_bk, rbF_ok, rbF_er, rrF_ok, rrF_er, rrF_if, trF_ok, trF_er, trF_if, cmp_lt, cmp_le, cmp_gt, cmp_ge, id_eq, if_true, if_false, Bool.false_eq_true, reduceIte, Bool.not_true, Bool.not_false, Bool.false_xor, Bool.true_xor, e0, a1]
          obtain ⟨r, er, el, hr⟩ := cM_tot (f := fun a31 : Int => bk false (m_with_entry (t, q.1, q.2, some a31)) fun x40 => m_find_count_tree k (cs, x40, d)) (fun v p => TreeOf cs d k (putE t q.1 q.2 (some v)) p) (l := vs) (fun x _ => by
            obtain ⟨r, er, hr⟩ := p_find_count_tree hc hd k (putE t q.1 q.2 (some x)) (put_ok h _ u.i0 u.i1) (by have := unkN_put u x; omega) (he.put u)
            exact ⟨r, by rw [p_with_entry h (some x) u.i0 u.i1 u.c0 c1, bkF, er], hr⟩)
          have er' := er
          simp only [pk, lkF] at er'
          rw [er']
          refine ⟨_, rfl, .inr (.inr ⟨q, vs, r, u, ev, ?_, el, hr⟩)⟩
          show PyData.tuple _ = _
          simp [eA, eI, eT]
/-! numbers of trees -/
theorem p_is_endless {n : Nat} {cs : Cols} {t : Tab} (hc : ColOk n cs) (h : TabOk n t) : ∃ b, m_is_endless (cs, t) = some b ∧ (b = false → Ends cs t) := by
  unfold m_is_endless b_is_endless
  simp (implicitDefEqProofs := false) only [lkF, bkF, bkF_n, bkF_if, bkF_bk, obF_rt, obF_nx, obF_if, obF_bk, exF_rt, exF_nx, exF_if, exF_bk, rbF_ok, rbF_er, rrF_ok, rrF_er, rrF_if, trF_ok, trF_er, trF_if, cmp_lt, cmp_le, cmp_gt, cmp_ge, id_eq, if_true, if_false, Bool.false_eq_true, reduceIte, Bool.not_true, Bool.not_false, Bool.false_xor, Bool.true_xor, p_find_unknown h]
  rw [mM_some _ (fun q : Int × Int => isNo (colF cs q.2)) (unkL t) (fun q hq => by
    have u := mem_unk.mp hq
    rw [(col_ok hc u.c0 (unk_c1 h u)).1]
    simp (implicitDefEqProofs := false) only [lkF, bkF, bkF_n, bkF_if, bkF_bk, obF_rt, obF_nx, obF_if, obF_bk, exF_rt, exF_nx, exF_if, exF_bk, rbF_ok, rbF_er, rrF_ok, rrF_er, rrF_if, trF_ok, trF_er, trF_if, cmp_lt, cmp_le, cmp_gt, cmp_ge, id_eq, if_true, if_false, Bool.false_eq_true, reduceIte, Bool.not_true, Bool.not_false, Bool.false_xor, Bool.true_xor])]
  simp (implicitDefEqProofs := false) only [lkF, bkF, bkF_n, bkF_if, bkF_bk, obF_rt, obF_nx, obF_if, obF_bk, exF_rt, exF_nx, exF_if, exF_bk, rbF_ok, rbF_er, rrF_ok, rrF_er, rrF_if, trF_ok, trF_er, trF_if, cmp_lt, cmp_le, cmp_gt, cmp_ge, id_eq, if_true, if_false, Bool.false_eq_true, reduceIte, Bool.not_true, Bool.not_false, Bool.false_xor, Bool.true_xor]
  refine ⟨_, rfl, fun e q u => ?_⟩
  rw [List.any_eq_false] at e
  have := e _ (List.mem_map.mpr ⟨q, mem_unk.mpr u, rfl⟩)
  cases ec : colF cs q.2 with
  | none => rw [ec] at this; exact absurd rfl this
  | some vs => exact ⟨vs, rfl⟩
theorem p_count_all {n : Nat} {cs : Cols} {t : Tab} (hc : ColOk n cs) (h : TabOk n t) (he : Ends cs t) : ∃ v, m_count_all (cs, t) = some v := by
  unfold m_count_all b_count_all
  simp (implicitDefEqProofs := false) only [lkF, bkF, bkF_n, bkF_if, bkF_bk, obF_rt, obF_nx, obF_if, obF_bk, exF_rt, exF_nx, exF_if, exF_bk, rbF_ok, rbF_er, rrF_ok, rrF_er, rrF_if, trF_ok, trF_er, trF_if, cmp_lt, cmp_le, cmp_gt, cmp_ge, id_eq, if_true, if_false, Bool.false_eq_true, reduceIte, Bool.not_true, Bool.not_false, Bool.false_xor, Bool.true_xor, p_find_unknown h]
  obtain ⟨r, er, hr⟩ := forM_inv (ρ := Int) (f := fun (a : Int × Int) (s : Int) => bk false (bk false (oAt cs a.2) fun x14 => x14) fun x11 => bk false (oMul s (x11.length : Int)) fun y6 => some (Out.nx y6)) (fun l _ => ∀ q ∈ l, Unk t q) (unkL t) 1 (fun q hq => mem_unk.mp hq) (fun q l s hI => by
    have u := hI q (List.mem_cons_self ..)
    obtain ⟨vs, ev⟩ := he q u
    obtain ⟨a1, a2⟩ := col_ok hc u.c0 (unk_c1 h u)
    rw [ev] at a1 a2
    rw [a1]
    have := hc.few vs a2
    have e : oMul s (vs.length : Int) = some (s * vs.length) := if_pos (.inr (by omega))
    simp (implicitDefEqProofs := false) only [lkF, bkF, bkF_n, bkF_if, bkF_bk, obF_rt, obF_nx, obF_if, obF_bk, exF_rt, exF_nx, exF_if, exF_bk, rbF_ok, rbF_er, rrF_ok, rrF_er, rrF_if, trF_ok, trF_er, trF_if, cmp_lt, cmp_le, cmp_gt, cmp_ge, id_eq, if_true, if_false, Bool.false_eq_true, reduceIte, Bool.not_true, Bool.not_false, Bool.false_xor, Bool.true_xor, e]
    exact ⟨_, rfl, fun x hx => hI x (List.mem_cons_of_mem _ hx)⟩)
  simp only [bkF_bk] at er
  rw [er]
  exact ⟨_, rfl⟩
end Q92
end
section
set_option maxHeartbeats 4000000
namespace Q92
open PySem PySem.Spec PyProof.Rows L2 SK
/-! ### plain: numbers of trees -/
theorem pAt4 (a b c d : PyData) : pAt (.tuple [a, b, c, d]) 0 = some a ∧ pAt (.tuple [a, b, c, d]) 1 = some b ∧ pAt (.tuple [a, b, c, d]) 2 = some c ∧ pAt (.tuple [a, b, c, d]) 3 = some d :=
  ⟨oAt_nat (l := [a, b, c, d]) (i := 0) rfl, oAt_nat (l := [a, b, c, d]) (i := 1) rfl, oAt_nat (l := [a, b, c, d]) (i := 2) rfl, oAt_nat (l := [a, b, c, d]) (i := 3) rfl⟩
theorem pCut13 (a b c d : PyData) : pCut (.tuple [a, b, c, d]) (some 1) (some 3) = some (.tuple [b, c]) := rfl
theorem pCut1 (a b c d : PyData) : pCut (.tuple [a, b, c, d]) (some 1) none = some (.tuple [b, c, d]) := rfl
theorem p_is_twins {n : Nat} {t : Tab} {d : Dem} (h : TabOk n t) (hd : DemOk n d) (x : PyData) {i j l : Int} (i0 : 0 ≤ i) (ij : i < j) (j1 : j < (t.length : Nat)) (l0 : 0 ≤ l) (l1 : l < (d.length : Nat)) : ∃ b, m_is_twins (t, d, .tuple [x, .int i, .int j, .int l]) = some b := by
  unfold m_is_twins b_is_twins
  have e3 : pLen (.tuple [x, .int i, .int j, .int l]) = some 4 := rfl
  obtain ⟨a0, a1, a2, a3⟩ := pAt4 x (.int i) (.int j) (.int l)
  have ei : ∀ z : Int, dI (.int z) = some z := fun _ => rfl
  have ep : pItems (.tuple [.int i, .int j]) = some [PyData.int i, .int j] := rfl
  simp (implicitDefEqProofs := false) only [lkF, bkF, bkF_n, bkF_if, bkF_bk, obF_rt, obF_nx, obF_if, obF_bk, exF_rt, exF_nx, exF_if, exF_bk, rbF_ok, rbF_er, rrF_ok, rrF_er, rrF_if, trF_ok, trF_er, trF_if, cmp_lt, cmp_le, cmp_gt, cmp_ge, id_eq, if_true, if_false, Bool.false_eq_true, reduceIte, Bool.not_true, Bool.not_false, Bool.false_xor, Bool.true_xor, e3, a0, a1, a2, a3, pCut13, ep, ei]
  rw [mM_some _ (fun x : PyData => btwP x 0 ((t.length : Int) - 1)) _ (fun x _ => by simp (implicitDefEqProofs := false) only [lkF, bkF, bkF_n, bkF_if, bkF_bk, obF_rt, obF_nx, obF_if, obF_bk, exF_rt, exF_nx, exF_if, exF_bk, rbF_ok, rbF_er, rrF_ok, rrF_er, rrF_if, trF_ok, trF_er, trF_if, cmp_lt, cmp_le, cmp_gt, cmp_ge, id_eq, if_true, if_false, Bool.false_eq_true, reduceIte, Bool.not_true, Bool.not_false, Bool.false_xor, Bool.true_xor, p_is_between])]
  have eb1 : btwP (.int i) 0 ((t.length : Int) - 1) = true := by simp only [btwP, Bool.and_eq_true, decide_eq_true_eq]; omega
  have eb2 : btwP (.int j) 0 ((t.length : Int) - 1) = true := by simp only [btwP, Bool.and_eq_true, decide_eq_true_eq]; omega
  have eb3 : btwP (.int l) 0 ((d.length : Int) - 1) = true := by simp only [btwP, Bool.and_eq_true, decide_eq_true_eq]; omega
  have e4 : decide ((4 : Int) = 4) = true := rfl
  obtain ⟨r1, _, r2⟩ := rw_ok (t := t) i0 (by omega)
  obtain ⟨r3, _, r4⟩ := rw_ok (t := t) (show 0 ≤ j by omega) j1
  obtain ⟨s, s1, _, s2⟩ := oAt_in (l := d) l0 l1
  simp (implicitDefEqProofs := false) only [lkF, bkF, bkF_n, bkF_if, bkF_bk, obF_rt, obF_nx, obF_if, obF_bk, exF_rt, exF_nx, exF_if, exF_bk, rbF_ok, rbF_er, rrF_ok, rrF_er, rrF_if, trF_ok, trF_er, trF_if, cmp_lt, cmp_le, cmp_gt, cmp_ge, id_eq, if_true, if_false, Bool.false_eq_true, reduceIte, Bool.not_true, Bool.not_false, Bool.false_xor, Bool.true_xor, List.map_cons, List.map_nil, eb1, eb2, eb3, List.all_cons, List.all_nil, Bool.and_true, e4, decide_eq_true ij, p_is_between, r1, r3, s1, p_are_alike (h.wide _ r2) (h.wide _ r4) (hd.inr s s2)]
  exact ⟨_, rfl⟩
theorem p_is_unknown {n : Nat} {cs : Cols} {t : Tab} (hc : ColOk n cs) (h : TabOk n t) (i c : Int) : ∃ b, m_is_unknown (cs, t, .int i, .int c) = some b ∧ (b = true → 0 ≤ i ∧ i < (t.length : Nat) ∧ 0 ≤ c ∧ c < (n : Int) ∧ Unk t (i, c)) := by
  unfold m_is_unknown b_is_unknown
  have ei : ∀ z : Int, dI (.int z) = some z := fun _ => rfl
  simp (implicitDefEqProofs := false) only [lkF, bkF, bkF_n, bkF_if, bkF_bk, obF_rt, obF_nx, obF_if, obF_bk, exF_rt, exF_nx, exF_if, exF_bk, rbF_ok, rbF_er, rrF_ok, rrF_er, rrF_if, trF_ok, trF_er, trF_if, cmp_lt, cmp_le, cmp_gt, cmp_ge, id_eq, if_true, if_false, Bool.false_eq_true, reduceIte, Bool.not_true, Bool.not_false, Bool.false_xor, Bool.true_xor, p_is_between, ei]
  cases q1 : btwP (.int i) 0 ((t.length : Int) - 1) with
  | false => simp (implicitDefEqProofs := false) only [lkF, bkF, bkF_n, bkF_if, bkF_bk, obF_rt, obF_nx, obF_if, obF_bk, exF_rt, exF_nx, exF_if, exF_bk, rbF_ok, rbF_er, rrF_ok, rrF_er, rrF_if, trF_ok, trF_er, trF_if, cmp_lt, cmp_le, cmp_gt, cmp_ge, id_eq, if_true, if_false, Bool.false_eq_true, reduceIte, Bool.not_true, Bool.not_false, Bool.false_xor, Bool.true_xor]; exact ⟨_, rfl, fun e => by cases e⟩
  | true =>
    simp (implicitDefEqProofs := false) only [lkF, bkF, bkF_n, bkF_if, bkF_bk, obF_rt, obF_nx, obF_if, obF_bk, exF_rt, exF_nx, exF_if, exF_bk, rbF_ok, rbF_er, rrF_ok, rrF_er, rrF_if, trF_ok, trF_er, trF_if, cmp_lt, cmp_le, cmp_gt, cmp_ge, id_eq, if_true, if_false, Bool.false_eq_true, reduceIte, Bool.not_true, Bool.not_false, Bool.false_xor, Bool.true_xor]
    cases q2 : btwP (.int c) 0 ((cs.length : Int) - 1) with
    | false => simp (implicitDefEqProofs := false) only [lkF, bkF, bkF_n, bkF_if, bkF_bk, obF_rt, obF_nx, obF_if, obF_bk, exF_rt, exF_nx, exF_if, exF_bk, rbF_ok, rbF_er, rrF_ok, rrF_er, rrF_if, trF_ok, trF_er, trF_if, cmp_lt, cmp_le, cmp_gt, cmp_ge, id_eq, if_true, if_false, Bool.false_eq_true, reduceIte, Bool.not_true, Bool.not_false, Bool.false_xor, Bool.true_xor]; exact ⟨_, rfl, fun e => by cases e⟩
    | true =>
      simp only [btwP, Bool.and_eq_true, decide_eq_true_eq] at q1 q2
      have hl := hc.len
      obtain ⟨r1, _, r2⟩ := rw_ok (t := t) (i := i) q1.1 (by omega)
      have hw := h.wide _ r2
      simp (implicitDefEqProofs := false) only [lkF, bkF, bkF_n, bkF_if, bkF_bk, obF_rt, obF_nx, obF_if, obF_bk, exF_rt, exF_nx, exF_if, exF_bk, rbF_ok, rbF_er, rrF_ok, rrF_er, rrF_if, trF_ok, trF_er, trF_if, cmp_lt, cmp_le, cmp_gt, cmp_ge, id_eq, if_true, if_false, Bool.false_eq_true, reduceIte, Bool.not_true, Bool.not_false, Bool.false_xor, Bool.true_xor, r1, gt_ok (r := rw_ t i) (c := c) q2.1 (by omega)]
      refine ⟨_, rfl, fun e => ⟨q1.1, by omega, q2.1, by omega, ⟨q1.1, by show i < _; omega, q2.1, by show c < ((rw_ t i).length : Nat); omega, ?_⟩⟩⟩
      show gt (rw_ t i) c = none
      revert e
      cases gt (rw_ t i) c with
      | none => exact fun _ => rfl
      | some v => exact fun e => by cases e
theorem lay_of : ∀ {ts : List PyData} {m : Nat}, (∀ p ∈ ts, PyData.canLay0 p = true ∧ p.depth ≤ m) → PyData.canLayAll0 ts = true ∧ PyData.depthAll ts ≤ m
  | [], _, _ => ⟨rfl, Nat.zero_le _⟩
  | p :: ts, m, h => by
    obtain ⟨h1, h2⟩ := lay_of fun q hq => h q (List.mem_cons_of_mem _ hq)
    obtain ⟨h3, h4⟩ := h p (List.mem_cons_self ..)
    simp only [PyData.canLayAll0, PyData.depthAll, h1, h3, Bool.and_self, true_and]
    omega
theorem tree_lay {cs : Cols} {d : Dem} : ∀ (k : Nat) {t : Tab} {p : PyData}, TreeOf cs d k t p → PyData.canLay0 p = true ∧ p.depth ≤ 2 * k + 1
  | 0, _, _, h => absurd h id
  | k + 1, t, p, h => by
    rcases h with ⟨w, _, rfl⟩ | ⟨rfl, _⟩ | ⟨q, vs, ts, _, _, rfl, el, hz⟩
    · have ep : eP4 eS eI eI eI ("twins", w.1, w.2.1, w.2.2) = .tuple [.str "twins", .int w.1, .int w.2.1, .int w.2.2] := rfl
      rw [ep]
      simp only [PyData.canLay0, PyData.canLayAll0, PyData.depth, PyData.depthAll, (show PyData.strOk ("twins" : Str) = true by decide +kernel), Bool.and_self, true_and]
      omega
    · simp only [PyData.canLay0, PyData.canLayAll0, PyData.depth, PyData.depthAll, (show PyData.strOk ("sure" : Str) = true by decide +kernel), Bool.and_self, true_and]
      omega
    · have ih : ∀ p ∈ ts, PyData.canLay0 p = true ∧ p.depth ≤ 2 * k + 1 := fun p hp => by
        obtain ⟨m, hm, e⟩ := List.getElem_of_mem hp
        have : (vs[m]'(by omega), ts[m]) ∈ vs.zip ts := by
          rw [← List.getElem_zip (h := by simp; omega)]
          exact List.getElem_mem _
        have := tree_lay k (hz _ this)
        simp only [e] at this
        exact this
      obtain ⟨l1, l2⟩ := lay_of ih
      simp only [PyData.canLay0, PyData.canLayAll0, PyData.depth, PyData.depthAll, l1, (show PyData.strOk ("split" : Str) = true by decide +kernel), Bool.and_self, true_and]
      omega
theorem tree_shaped {cs : Cols} {d : Dem} {k : Nat} {t : Tab} {p : PyData} (h : TreeOf cs d k t p) (hk : k ≤ 20) : SeqAt.shaped p = true := by
  obtain ⟨h1, h2⟩ := tree_lay k h
  unfold SeqAt.shaped
  rw [h1, Bool.true_and]
  exact decide_eq_true (by omega)
theorem eq_str {a b : Str} (ha : PyData.strOk a = true) (hb : PyData.strOk b = true) : oEq (.str a) (eS b) = some (decide (a = b)) := by
  unfold oEq
  rw [if_pos ⟨by simp [SeqAt.shaped, PyData.canLay0, PyData.depth, ha], by simp [SeqAt.shaped, eS, PyData.canLay0, PyData.depth, hb]⟩]
  simp only [eS, PyData.eqv]
  rw [beq_dec]
theorem eq_unit {p : PyData} {a : PyData} {ps : List PyData} (h : SeqAt.shaped p = true) (e : p = .tuple (a :: ps)) : oEq p (.tuple []) = some false := by
  unfold oEq
  rw [if_pos ⟨h, by simp [SeqAt.shaped, PyData.canLay0, PyData.canLayAll0, PyData.depth, PyData.depthAll]⟩, e]
  simp [PyData.eqv, PyData.eqvAll]
theorem p_tree_number {n : Nat} {cs : Cols} {d : Dem} (hc : ColOk n cs) (hd : DemOk n d) : ∀ (k K : Nat) (t : Tab) (p : PyData), TabOk n t → Ends cs t → TreeOf cs d k t p → k ≤ 20 → 2 * k ≤ K → ∃ r, m_find_tree_number K (cs, t, d, p) = some r
  | 0, _, _, _, _, _, h, _, _ => absurd h id
  | k + 1, 0, _, _, _, _, _, _, h => by omega
  | k + 1, 1, _, _, _, _, _, _, h => by omega
  | k + 1, K + 2, t, p, h, he, hT, hk, hK => by
    have hs := tree_shaped hT hk
    have s1 : PyData.strOk ("twins" : Str) = true := by decide +kernel
    have s2 : PyData.strOk ("sure" : Str) = true := by decide +kernel
    have s3 : PyData.strOk ("split" : Str) = true := by decide +kernel
    show ∃ r, exO false _ (b_find_tree_number (m_find_split_number (K + 1)) (m_find_tree_number (K + 1)) (cs, t, d, p)) = some r
    unfold b_find_tree_number
    rcases hT with ⟨w, ew, rfl⟩ | ⟨rfl, hsu⟩ | ⟨q, vs, ts, u, ev, rfl, el, hz⟩
    · obtain ⟨i0, ij, j1, l0, l1, _⟩ := twF_some (show twF t d = some (w.1, w.2.1, w.2.2) from ew)
      obtain ⟨b, eb⟩ := p_is_twins h hd (.str "twins") i0 ij j1 l0 l1
      have ep : eP4 eS eI eI eI ("twins", w.1, w.2.1, w.2.2) = .tuple [.str "twins", .int w.1, .int w.2.1, .int w.2.2] := rfl
      rw [ep] at hs ⊢
      have e1 : isP "tuple" (eA (.tuple [.str "twins", .int w.1, .int w.2.1, .int w.2.2])) = true := rfl
      have e2 : isP "str" (eA (.str "twins")) = true := rfl
      simp (implicitDefEqProofs := false) only [lkF, bkF, bkF_n, bkF_if, bkF_bk, obF_rt, obF_nx, obF_if, obF_bk, exF_rt, exF_nx, exF_if, exF_bk, rbF_ok, rbF_er, rrF_ok, rrF_er, rrF_if, trF_ok, trF_er, trF_if, cmp_lt, cmp_le, cmp_gt, cmp_ge, id_eq, if_true, if_false, Bool.false_eq_true, reduceIte, Bool.not_true, Bool.not_false, Bool.false_xor, Bool.true_xor, e1, eq_unit hs rfl, (pAt4 _ _ _ _).1, e2, eq_str s1 s1, Option.map_some, decide_true, eb]
      cases b <;> exact ⟨_, rfl⟩
    · have e1 : isP "tuple" (eA (.tuple [.str "sure"])) = true := rfl
      have e2 : isP "str" (eA (.str "sure")) = true := rfl
      have e3 : pAt (.tuple [.str "sure"]) 0 = some (.str "sure") := oAt_nat (l := [PyData.str "sure"]) (i := 0) rfl
      have e4 : decide (("sure" : Str) = "twins") = false := by decide
      have e5 : pLen (.tuple [.str "sure"]) = some 1 := rfl
      have e6 : decide ((1 : Int) = 1) = true := rfl
      obtain ⟨v, ev⟩ := p_count_all hc h he
      simp (implicitDefEqProofs := false) only [lkF, bkF, bkF_n, bkF_if, bkF_bk, obF_rt, obF_nx, obF_if, obF_bk, exF_rt, exF_nx, exF_if, exF_bk, rbF_ok, rbF_er, rrF_ok, rrF_er, rrF_if, trF_ok, trF_er, trF_if, cmp_lt, cmp_le, cmp_gt, cmp_ge, id_eq, if_true, if_false, Bool.false_eq_true, reduceIte, Bool.not_true, Bool.not_false, Bool.false_xor, Bool.true_xor, e1, eq_unit hs rfl, e3, e2, eq_str s2 s1, eq_str s2 s2, Option.map_some, decide_true, e4, e5, e6, p_are_sure h hd, hsu, ev]
      exact ⟨_, rfl⟩
    · have e1 : isP "tuple" (eA (.tuple [.str "split", .int q.1, .int q.2, .tuple ts])) = true := rfl
      have e2 : isP "str" (eA (.str "split")) = true := rfl
      have e4 : decide (("split" : Str) = "twins") = false := by decide
      have e5 : decide (("split" : Str) = "sure") = false := by decide
      have e6 : pLen (.tuple [.str "split", .int q.1, .int q.2, .tuple ts]) = some 4 := rfl
      have e7 : decide ((4 : Int) = 4) = true := rfl
      have e8 : (m_find_split_number (K + 1)) (cs, t, d, .tuple [.str "split", .int q.1, .int q.2, .tuple ts]) = exO false Empty.elim (b_find_split_number (m_find_split_number K) (m_find_tree_number K) (cs, t, d, .tuple [.str "split", .int q.1, .int q.2, .tuple ts])) := rfl
      simp (implicitDefEqProofs := false) only [lkF, bkF, bkF_n, bkF_if, bkF_bk, obF_rt, obF_nx, obF_if, obF_bk, exF_rt, exF_nx, exF_if, exF_bk, rbF_ok, rbF_er, rrF_ok, rrF_er, rrF_if, trF_ok, trF_er, trF_if, cmp_lt, cmp_le, cmp_gt, cmp_ge, id_eq, if_true, if_false, Bool.false_eq_true, reduceIte, Bool.not_true, Bool.not_false, Bool.false_xor, Bool.true_xor, e1, eq_unit hs rfl, (pAt4 _ _ _ _).1, e2, eq_str s3 s1, eq_str s3 s2, eq_str s3 s3, Option.map_some, decide_true, e4, e5, e6, e7, e8]
      unfold b_find_split_number
      have f1 : SK.dP3 dA dA dA (.tuple [.int q.1, .int q.2, .tuple ts]) = some (.int q.1, .int q.2, .tuple ts) := rfl
      obtain ⟨b, eb, hb⟩ := p_is_unknown hc h q.1 q.2
      simp (implicitDefEqProofs := false) only [lkF, bkF, bkF_n, bkF_if, bkF_bk, obF_rt, obF_nx, obF_if, obF_bk, exF_rt, exF_nx, exF_if, exF_bk, rbF_ok, rbF_er, rrF_ok, rrF_er, rrF_if, trF_ok, trF_er, trF_if, cmp_lt, cmp_le, cmp_gt, cmp_ge, id_eq, if_true, if_false, Bool.false_eq_true, reduceIte, Bool.not_true, Bool.not_false, Bool.false_xor, Bool.true_xor, pCut1, f1, eb]
      cases b with
      | false => simp (implicitDefEqProofs := false) only [lkF, bkF, bkF_n, bkF_if, bkF_bk, obF_rt, obF_nx, obF_if, obF_bk, exF_rt, exF_nx, exF_if, exF_bk, rbF_ok, rbF_er, rrF_ok, rrF_er, rrF_if, trF_ok, trF_er, trF_if, cmp_lt, cmp_le, cmp_gt, cmp_ge, id_eq, if_true, if_false, Bool.false_eq_true, reduceIte, Bool.not_true, Bool.not_false, Bool.false_xor, Bool.true_xor]; exact ⟨_, rfl⟩
      | true =>
        have ei : ∀ z : Int, dI (.int z) = some z := fun _ => rfl
        have f2 : isP "tuple" (eA (.tuple ts)) = true := rfl
        have f3 : pLen (.tuple ts) = some (ts.length : Int) := rfl
        have f4 : pItems (.tuple ts) = some ts := rfl
        obtain ⟨a1, a2⟩ := col_ok hc u.c0 (unk_c1 h u)
        rw [ev] at a1
        have f5 : decide ((ts.length : Int) = (vs.length : Int)) = true := decide_eq_true (by omega)
        simp (implicitDefEqProofs := false) only [lkF, bkF, bkF_n, bkF_if, bkF_bk, obF_rt, obF_nx, obF_if, obF_bk, exF_rt, exF_nx, exF_if, exF_bk, rbF_ok, rbF_er, rrF_ok, rrF_er, rrF_if, trF_ok, trF_er, trF_if, cmp_lt, cmp_le, cmp_gt, cmp_ge, id_eq, if_true, if_false, Bool.false_eq_true, reduceIte, Bool.not_true, Bool.not_false, Bool.false_xor, Bool.true_xor, ei, f2, f3, f4, a1, f5]
        obtain ⟨r, er, _⟩ := forM_tot (ρ := Option Int) (f := fun (z : Int × PyData) (s : Int) => bk false (m_with_entry (t, q.1, q.2, some z.1)) fun x => bk false (m_find_tree_number K (cs, x, d, z.2)) fun y => ob false (if isNo y = true then some (Out.rt none) else some (Out.nx ())) fun _ : Unit => bk false y fun x66 => some (Out.nx (s + x66))) (fun l _ => ∀ z ∈ l, TreeOf cs d k (putE t q.1 q.2 (some z.1)) z.2) (l := vs.zip ts) (s := 0) hz (fun z l s hI => by
          obtain ⟨r, er⟩ := p_tree_number hc hd k K _ z.2 (put_ok h (some z.1) u.i0 u.i1) (he.put u) (hI z (List.mem_cons_self ..)) (by omega) (by omega)
          simp (implicitDefEqProofs := false) only [lkF, bkF, bkF_n, bkF_if, bkF_bk, obF_rt, obF_nx, obF_if, obF_bk, exF_rt, exF_nx, exF_if, exF_bk, rbF_ok, rbF_er, rrF_ok, rrF_er, rrF_if, trF_ok, trF_er, trF_if, cmp_lt, cmp_le, cmp_gt, cmp_ge, id_eq, if_true, if_false, Bool.false_eq_true, reduceIte, Bool.not_true, Bool.not_false, Bool.false_xor, Bool.true_xor, p_with_entry h (some z.1) u.i0 u.i1 u.c0 (unk_c1 h u), er]
          cases r with
          | none => exact ⟨_, rfl, fun s' e => by cases e⟩
          | some v => exact ⟨_, rfl, fun s' e x hx => hI x (List.mem_cons_of_mem _ hx)⟩)
        rw [er]
        cases r <;> exact ⟨_, rfl⟩
theorem tree_cut {n : Nat} {cs : Cols} {d : Dem} : ∀ (k : Nat) {t : Tab} {p : PyData}, TreeOf cs d k t p → TreeOf cs d (unkN t + 1) t p
  | 0, _, _, h => absurd h id
  | k + 1, t, p, h => by
    rcases h with h | h | ⟨q, vs, ts, u, ev, ep, el, hz⟩
    · exact .inl h
    · exact .inr (.inl h)
    · refine .inr (.inr ⟨q, vs, ts, u, ev, ep, el, fun z hz' => ?_⟩)
      have := tree_cut (n := n) k (hz z hz')
      rwa [unkN_put u z.1] at this
theorem p_count {n : Nat} {cs : Cols} {d : Dem} {t : Tab} (hc : ColOk n cs) (hd : DemOk n d) (h : TabOk n t) (he : Ends cs t) (hu : unkN t ≤ 7) : ∃ p, m_find_count_tree 10 (cs, t, d) = some p ∧ ∃ r, m_find_tree_number 16 (cs, t, d, p) = some r := by
  obtain ⟨p, e, hT⟩ := p_find_count_tree hc hd 10 t h (by omega) he
  obtain ⟨r, er⟩ := p_tree_number hc hd (unkN t + 1) 16 t p h he (tree_cut (n := n) 10 hT) (by omega) (by omega)
  exact ⟨p, e, r, er⟩
theorem p_find_count {n : Nat} {cs : Cols} {d : Dem} {t : Tab} (hc : ColOk n cs) (hd : DemOk n d) (h : TabOk n t) (hu : unkN t ≤ 7) : ∃ r, m_find_count (cs, t, d) = some r := by
  unfold m_find_count b_find_count
  obtain ⟨b, eb, hb⟩ := p_is_endless hc h
  simp (implicitDefEqProofs := false) only [lkF, bkF, bkF_n, bkF_if, bkF_bk, obF_rt, obF_nx, obF_if, obF_bk, exF_rt, exF_nx, exF_if, exF_bk, rbF_ok, rbF_er, rrF_ok, rrF_er, rrF_if, trF_ok, trF_er, trF_if, cmp_lt, cmp_le, cmp_gt, cmp_ge, id_eq, if_true, if_false, Bool.false_eq_true, reduceIte, Bool.not_true, Bool.not_false, Bool.false_xor, Bool.true_xor, eb]
  cases b with
  | true =>
    unfold m_find_common b_find_common
    obtain ⟨r, er⟩ := p_explore hc hd 10 t h (by omega)
    simp (implicitDefEqProofs := false) only [lkF, bkF, bkF_n, bkF_if, bkF_bk, obF_rt, obF_nx, obF_if, obF_bk, exF_rt, exF_nx, exF_if, exF_bk, rbF_ok, rbF_er, rrF_ok, rrF_er, rrF_if, trF_ok, trF_er, trF_if, cmp_lt, cmp_le, cmp_gt, cmp_ge, id_eq, if_true, if_false, Bool.false_eq_true, reduceIte, Bool.not_true, Bool.not_false, Bool.false_xor, Bool.true_xor, er]
    cases isNo r.2 <;> exact ⟨_, rfl⟩
  | false =>
    obtain ⟨p, e1, r, e2⟩ := p_count hc hd h (hb rfl) hu
    simp (implicitDefEqProofs := false) only [lkF, bkF, bkF_n, bkF_if, bkF_bk, obF_rt, obF_nx, obF_if, obF_bk, exF_rt, exF_nx, exF_if, exF_bk, rbF_ok, rbF_er, rrF_ok, rrF_er, rrF_if, trF_ok, trF_er, trF_if, cmp_lt, cmp_le, cmp_gt, cmp_ge, id_eq, if_true, if_false, Bool.false_eq_true, reduceIte, Bool.not_true, Bool.not_false, Bool.false_xor, Bool.true_xor, e1, e2]
    exact ⟨_, rfl⟩
end Q92
end
section
set_option maxHeartbeats 4000000
namespace Q92
open PySem PySem.Spec PyProof.Rows L2 SK
/-! ### plain: what is refused, what is taken -/
abbrev eC : Cols → PyData := eT (eO (eT eI))
abbrev eTab : Tab → PyData := eT (eT (eO eI))
abbrev eD : Dem → PyData := eT (eT eI)
theorem dI_e (i : Int) : dI (eI i) = some i := rfl
theorem dTI (l : List Int) : SK.dT dI (eT eI l) = some l := dAll_map dI_e l
theorem dOTI (o : Option (List Int)) : SK.dO (SK.dT dI) (eO (eT eI) o) = some o := by
  cases o with
  | none => rfl
  | some l => show Option.map some (SK.dT dI (eT eI l)) = _; rw [dTI]; rfl
theorem d_cols (cs : Cols) : SK.dT (SK.dO (SK.dT dI)) (eC cs) = some cs := dAll_map dOTI cs
theorem d_row (r : Row) : SK.dT (SK.dO dI) (eT (eO eI) r) = some r := dAll_map dO_int r
theorem d_tab (t : Tab) : SK.dT (SK.dT (SK.dO dI)) (eTab t) = some t := dAll_map d_row t
theorem d_dem (d : Dem) : SK.dT (SK.dT dI) (eD d) = some d := dAll_map dTI d
theorem p_require_columns (v : PyData) : m_require_columns v = some (if colsP v = true then .ok () else .er "InvalidColumns") := by
  unfold m_require_columns b_require_columns
  simp (implicitDefEqProofs := false) only [lkF, bkF, bkF_n, bkF_if, bkF_bk, obF_rt, obF_nx, obF_if, obF_bk, exF_rt, exF_nx, exF_if, exF_bk, rbF_ok, rbF_er, rrF_ok, rrF_er, rrF_if, trF_ok, trF_er, trF_if, cmp_lt, cmp_le, cmp_gt, cmp_ge, id_eq, if_true, if_false, Bool.false_eq_true, reduceIte, Bool.not_true, Bool.not_false, Bool.false_xor, Bool.true_xor, p_is_columns]
  cases colsP v <;> rfl
theorem p_require_table0 {c : PyData} (h : colsP c = false) (v : PyData) : m_require_table (c, v) = some (.er "InvalidColumns") := by
  unfold m_require_table b_require_table
  simp (implicitDefEqProofs := false) only [lkF, bkF, bkF_n, bkF_if, bkF_bk, obF_rt, obF_nx, obF_if, obF_bk, exF_rt, exF_nx, exF_if, exF_bk, rbF_ok, rbF_er, rrF_ok, rrF_er, rrF_if, trF_ok, trF_er, trF_if, cmp_lt, cmp_le, cmp_gt, cmp_ge, id_eq, if_true, if_false, Bool.false_eq_true, reduceIte, Bool.not_true, Bool.not_false, Bool.false_xor, Bool.true_xor, p_require_columns, h]
theorem p_require_table {cs : Cols} (h : colsP (eC cs) = true) (v : PyData) : m_require_table (eC cs, v) = some (if tabP cs v = true then .ok () else .er "InvalidTable") := by
  unfold m_require_table b_require_table
  simp (implicitDefEqProofs := false) only [lkF, bkF, bkF_n, bkF_if, bkF_bk, obF_rt, obF_nx, obF_if, obF_bk, exF_rt, exF_nx, exF_if, exF_bk, rbF_ok, rbF_er, rrF_ok, rrF_er, rrF_if, trF_ok, trF_er, trF_if, cmp_lt, cmp_le, cmp_gt, cmp_ge, id_eq, if_true, if_false, Bool.false_eq_true, reduceIte, Bool.not_true, Bool.not_false, Bool.false_xor, Bool.true_xor, p_require_columns, h, d_cols, p_is_table_of]
  cases tabP cs v <;> rfl
theorem p_require_demand (cs : Cols) {v : PyData} (hz : shortP v) : m_require_demand (cs, v) = some (if demP cs v = true then .ok () else .er "InvalidDemand") := by
  unfold m_require_demand b_require_demand
  simp (implicitDefEqProofs := false) only [lkF, bkF, bkF_n, bkF_if, bkF_bk, obF_rt, obF_nx, obF_if, obF_bk, exF_rt, exF_nx, exF_if, exF_bk, rbF_ok, rbF_er, rrF_ok, rrF_er, rrF_if, trF_ok, trF_er, trF_if, cmp_lt, cmp_le, cmp_gt, cmp_ge, id_eq, if_true, if_false, Bool.false_eq_true, reduceIte, Bool.not_true, Bool.not_false, Bool.false_xor, Bool.true_xor, p_is_demand_of cs v hz]
  cases demP cs v <;> rfl
structure Good4 (cs : Cols) (t : Tab) (d : Dem) : Prop where
  hc : colsP (eC cs) = true
  ht : tabP cs (eTab t) = true
  hd : demP cs (eD d) = true
  hs : shortP (eD d)
  co : ColOk cs.length cs
  tk : TabOk cs.length t
  dk : DemOk cs.length d
  u : unkN t ≤ 6
/-- how a call may end -/
theorem unkL_len {n : Nat} {t : Tab} (h : TabOk n t) : (unkL t).length ≤ 32 := by
  have hz := sum_le (fun q : Int × Row => (unkR q.1 q.2).length) 4 (enumL 0 t) fun q hq => by
    obtain ⟨j, _, e⟩ := mem_enum.mp hq
    exact Nat.le_trans (unkR_len _ _) (by rw [h.wide _ (List.mem_of_getElem? e)]; exact h.n4)
  rw [enumL_len] at hz
  have := h.few
  unfold unkL
  rw [List.length_flatMap]
  omega
def Ends4 {α : Type} (o : Option (Res α)) (w : Str) : Prop := (w = "columns" ∧ o = some (.er "InvalidColumns")) ∨ (w = "table" ∧ o = some (.er "InvalidTable")) ∨ (w = "demand" ∧ o = some (.er "InvalidDemand")) ∨ (w = "taken" ∧ ∃ a, o = some (.ok a))
inductive Kind : PyData → PyData → PyData → Str → Prop
  | c {c t d : PyData} : colsP c = false → Kind c t d "columns"
  | t {cs : Cols} {t d : PyData} : colsP (eC cs) = true → tabP cs t = false → Kind (eC cs) t d "table"
  | d {cs : Cols} {t : Tab} {d : PyData} : colsP (eC cs) = true → tabP cs (eTab t) = true → shortP d → demP cs d = false → Kind (eC cs) (eTab t) d "demand"
  | g {cs : Cols} {t : Tab} {d : Dem} : Good4 cs t d → Kind (eC cs) (eTab t) (eD d) "taken"
theorem p_kept_count {c t d : PyData} {w : Str} (h : Kind c t d w) : Ends4 (m_kept_count (c, t, d)) w := by
  unfold m_kept_count b_kept_count
  cases h with
  | c h => exact .inl ⟨rfl, by simp (implicitDefEqProofs := false) only [lkF, bkF, bkF_n, bkF_if, bkF_bk, obF_rt, obF_nx, obF_if, obF_bk, exF_rt, exF_nx, exF_if, exF_bk, rbF_ok, rbF_er, rrF_ok, rrF_er, rrF_if, trF_ok, trF_er, trF_if, cmp_lt, cmp_le, cmp_gt, cmp_ge, id_eq, if_true, if_false, Bool.false_eq_true, reduceIte, Bool.not_true, Bool.not_false, Bool.false_xor, Bool.true_xor, p_require_table0 h]⟩
  | t h1 h2 => exact .inr (.inl ⟨rfl, by simp (implicitDefEqProofs := false) only [lkF, bkF, bkF_n, bkF_if, bkF_bk, obF_rt, obF_nx, obF_if, obF_bk, exF_rt, exF_nx, exF_if, exF_bk, rbF_ok, rbF_er, rrF_ok, rrF_er, rrF_if, trF_ok, trF_er, trF_if, cmp_lt, cmp_le, cmp_gt, cmp_ge, id_eq, if_true, if_false, Bool.false_eq_true, reduceIte, Bool.not_true, Bool.not_false, Bool.false_xor, Bool.true_xor, p_require_table h1, h2]⟩)
  | d h1 h2 h3 h4 => exact .inr (.inr (.inl ⟨rfl, by simp (implicitDefEqProofs := false) only [lkF, bkF, bkF_n, bkF_if, bkF_bk, obF_rt, obF_nx, obF_if, obF_bk, exF_rt, exF_nx, exF_if, exF_bk, rbF_ok, rbF_er, rrF_ok, rrF_er, rrF_if, trF_ok, trF_er, trF_if, cmp_lt, cmp_le, cmp_gt, cmp_ge, id_eq, if_true, if_false, Bool.false_eq_true, reduceIte, Bool.not_true, Bool.not_false, Bool.false_xor, Bool.true_xor, p_require_table h1, h2, d_cols, p_require_demand _ h3, h4]⟩))
  | g G =>
    refine .inr (.inr (.inr ⟨rfl, ?_⟩))
    obtain ⟨r, er⟩ := p_find_count G.co G.dk G.tk (by have := G.u; omega)
    simp (implicitDefEqProofs := false) only [lkF, bkF, bkF_n, bkF_if, bkF_bk, obF_rt, obF_nx, obF_if, obF_bk, exF_rt, exF_nx, exF_if, exF_bk, rbF_ok, rbF_er, rrF_ok, rrF_er, rrF_if, trF_ok, trF_er, trF_if, cmp_lt, cmp_le, cmp_gt, cmp_ge, id_eq, if_true, if_false, Bool.false_eq_true, reduceIte, Bool.not_true, Bool.not_false, Bool.false_xor, Bool.true_xor, p_require_table G.hc, G.ht, d_cols, p_require_demand _ G.hs, G.hd, d_tab, d_dem, er]
    exact ⟨_, rfl⟩
theorem p_count_tree {c t d : PyData} {w : Str} (h : Kind c t d w) : Ends4 (m_count_tree (c, t, d)) w := by
  unfold m_count_tree b_count_tree
  cases h with
  | c h => exact .inl ⟨rfl, by simp (implicitDefEqProofs := false) only [lkF, bkF, bkF_n, bkF_if, bkF_bk, obF_rt, obF_nx, obF_if, obF_bk, exF_rt, exF_nx, exF_if, exF_bk, rbF_ok, rbF_er, rrF_ok, rrF_er, rrF_if, trF_ok, trF_er, trF_if, cmp_lt, cmp_le, cmp_gt, cmp_ge, id_eq, if_true, if_false, Bool.false_eq_true, reduceIte, Bool.not_true, Bool.not_false, Bool.false_xor, Bool.true_xor, p_require_table0 h]⟩
  | t h1 h2 => exact .inr (.inl ⟨rfl, by simp (implicitDefEqProofs := false) only [lkF, bkF, bkF_n, bkF_if, bkF_bk, obF_rt, obF_nx, obF_if, obF_bk, exF_rt, exF_nx, exF_if, exF_bk, rbF_ok, rbF_er, rrF_ok, rrF_er, rrF_if, trF_ok, trF_er, trF_if, cmp_lt, cmp_le, cmp_gt, cmp_ge, id_eq, if_true, if_false, Bool.false_eq_true, reduceIte, Bool.not_true, Bool.not_false, Bool.false_xor, Bool.true_xor, p_require_table h1, h2]⟩)
  | d h1 h2 h3 h4 => exact .inr (.inr (.inl ⟨rfl, by simp (implicitDefEqProofs := false) only [lkF, bkF, bkF_n, bkF_if, bkF_bk, obF_rt, obF_nx, obF_if, obF_bk, exF_rt, exF_nx, exF_if, exF_bk, rbF_ok, rbF_er, rrF_ok, rrF_er, rrF_if, trF_ok, trF_er, trF_if, cmp_lt, cmp_le, cmp_gt, cmp_ge, id_eq, if_true, if_false, Bool.false_eq_true, reduceIte, Bool.not_true, Bool.not_false, Bool.false_xor, Bool.true_xor, p_require_table h1, h2, d_cols, p_require_demand _ h3, h4]⟩))
  | g G =>
    refine .inr (.inr (.inr ⟨rfl, ?_⟩))
    obtain ⟨b, eb, hb⟩ := p_is_endless G.co G.tk
    simp (implicitDefEqProofs := false) only [lkF, bkF, bkF_n, bkF_if, bkF_bk, obF_rt, obF_nx, obF_if, obF_bk, exF_rt, exF_nx, exF_if, exF_bk, rbF_ok, rbF_er, rrF_ok, rrF_er, rrF_if, trF_ok, trF_er, trF_if, cmp_lt, cmp_le, cmp_gt, cmp_ge, id_eq, if_true, if_false, Bool.false_eq_true, reduceIte, Bool.not_true, Bool.not_false, Bool.false_xor, Bool.true_xor, p_require_table G.hc, G.ht, d_cols, p_require_demand _ G.hs, G.hd, d_tab, d_dem, eb]
    cases b with
    | true => exact ⟨_, rfl⟩
    | false =>
      obtain ⟨p, e1, r, e2⟩ := p_count G.co G.dk G.tk (hb rfl) (by have := G.u; omega)
      simp (implicitDefEqProofs := false) only [lkF, bkF, bkF_n, bkF_if, bkF_bk, obF_rt, obF_nx, obF_if, obF_bk, exF_rt, exF_nx, exF_if, exF_bk, rbF_ok, rbF_er, rrF_ok, rrF_er, rrF_if, trF_ok, trF_er, trF_if, cmp_lt, cmp_le, cmp_gt, cmp_ge, id_eq, if_true, if_false, Bool.false_eq_true, reduceIte, Bool.not_true, Bool.not_false, Bool.false_xor, Bool.true_xor, e1]
      exact ⟨_, rfl⟩
/-- things that are no trees -/
def things : List PyData := [.none, .tuple [], .int 0, .str "sure", .list [.str "sure"], .tuple [.str "split"], .tuple [.none]]
theorem p_thing (cs : Cols) (t : Tab) (d : Dem) {p : PyData} (h : p ∈ things) : m_find_tree_number 16 (cs, t, d, p) = some none := by
  show exO false _ (b_find_tree_number (m_find_split_number 15) (m_find_tree_number 15) (cs, t, d, p)) = _
  unfold b_find_tree_number
  simp only [things, List.mem_cons, List.not_mem_nil, or_false] at h
  have s1 : PyData.strOk ("twins" : Str) = true := by decide +kernel
  have s2 : PyData.strOk ("sure" : Str) = true := by decide +kernel
  have s3 : PyData.strOk ("split" : Str) = true := by decide +kernel
  rcases h with rfl | rfl | rfl | rfl | rfl | rfl | rfl
  · rfl
  · have e1 : isP "tuple" (eA (.tuple [])) = true := rfl
    have e2 : oEq (.tuple []) (.tuple []) = some true := by
      unfold oEq
      have : SeqAt.shaped (.tuple []) = true := by simp [SeqAt.shaped, PyData.canLay0, PyData.canLayAll0, PyData.depth, PyData.depthAll]
      rw [if_pos ⟨this, this⟩]
      simp [PyData.eqv, PyData.eqvAll]
    simp (implicitDefEqProofs := false) only [lkF, bkF, bkF_n, bkF_if, bkF_bk, obF_rt, obF_nx, obF_if, obF_bk, exF_rt, exF_nx, exF_if, exF_bk, rbF_ok, rbF_er, rrF_ok, rrF_er, rrF_if, trF_ok, trF_er, trF_if, cmp_lt, cmp_le, cmp_gt, cmp_ge, id_eq, if_true, if_false, Bool.false_eq_true, reduceIte, Bool.not_true, Bool.not_false, Bool.false_xor, Bool.true_xor, e1, e2, Option.map_some]
  · rfl
  · rfl
  · rfl
  · have e1 : isP "tuple" (eA (.tuple [.str "split"])) = true := rfl
    have e2 : isP "str" (eA (.str "split")) = true := rfl
    have e3 : pAt (.tuple [.str "split"]) 0 = some (.str "split") := oAt_nat (l := [PyData.str "split"]) (i := 0) rfl
    have hs : SeqAt.shaped (.tuple [.str "split"]) = true := by simp [SeqAt.shaped, PyData.canLay0, PyData.canLayAll0, PyData.depth, PyData.depthAll, s3]
    have e4 : decide (("split" : Str) = "twins") = false := by decide
    have e5 : decide (("split" : Str) = "sure") = false := by decide
    have e6 : pLen (.tuple [.str "split"]) = some 1 := rfl
    have e7 : decide ((1 : Int) = 4) = false := rfl
    simp (implicitDefEqProofs := false) only [lkF, bkF, bkF_n, bkF_if, bkF_bk, obF_rt, obF_nx, obF_if, obF_bk, exF_rt, exF_nx, exF_if, exF_bk, rbF_ok, rbF_er, rrF_ok, rrF_er, rrF_if, trF_ok, trF_er, trF_if, cmp_lt, cmp_le, cmp_gt, cmp_ge, id_eq, if_true, if_false, Bool.false_eq_true, reduceIte, Bool.not_true, Bool.not_false, Bool.false_xor, Bool.true_xor, e1, eq_unit hs rfl, e3, e2, eq_str s3 s1, eq_str s3 s2, eq_str s3 s3, Option.map_some, decide_true, e4, e5, e6, e7]
  · have e1 : isP "tuple" (eA (.tuple [.none])) = true := rfl
    have e2 : isP "str" (eA .none) = false := rfl
    have e3 : pAt (.tuple [.none]) 0 = some .none := oAt_nat (l := [PyData.none]) (i := 0) rfl
    have hs : SeqAt.shaped (.tuple [.none]) = true := by simp [SeqAt.shaped, PyData.canLay0, PyData.canLayAll0, PyData.depth, PyData.depthAll]
    simp (implicitDefEqProofs := false) only [lkF, bkF, bkF_n, bkF_if, bkF_bk, obF_rt, obF_nx, obF_if, obF_bk, exF_rt, exF_nx, exF_if, exF_bk, rbF_ok, rbF_er, rrF_ok, rrF_er, rrF_if, trF_ok, trF_er, trF_if, cmp_lt, cmp_le, cmp_gt, cmp_ge, id_eq, if_true, if_false, Bool.false_eq_true, reduceIte, Bool.not_true, Bool.not_false, Bool.false_xor, Bool.true_xor, e1, eq_unit hs rfl, e3, e2, Option.map_some]
theorem p_tree_number_of {c t d th : PyData} {w : Str} (h : Kind c t d w) (hth : th ∈ things) : Ends4 (m_tree_number (c, t, d, th)) w := by
  unfold m_tree_number b_tree_number
  cases h with
  | c h => exact .inl ⟨rfl, by simp (implicitDefEqProofs := false) only [lkF, bkF, bkF_n, bkF_if, bkF_bk, obF_rt, obF_nx, obF_if, obF_bk, exF_rt, exF_nx, exF_if, exF_bk, rbF_ok, rbF_er, rrF_ok, rrF_er, rrF_if, trF_ok, trF_er, trF_if, cmp_lt, cmp_le, cmp_gt, cmp_ge, id_eq, if_true, if_false, Bool.false_eq_true, reduceIte, Bool.not_true, Bool.not_false, Bool.false_xor, Bool.true_xor, p_require_table0 h]⟩
  | t h1 h2 => exact .inr (.inl ⟨rfl, by simp (implicitDefEqProofs := false) only [lkF, bkF, bkF_n, bkF_if, bkF_bk, obF_rt, obF_nx, obF_if, obF_bk, exF_rt, exF_nx, exF_if, exF_bk, rbF_ok, rbF_er, rrF_ok, rrF_er, rrF_if, trF_ok, trF_er, trF_if, cmp_lt, cmp_le, cmp_gt, cmp_ge, id_eq, if_true, if_false, Bool.false_eq_true, reduceIte, Bool.not_true, Bool.not_false, Bool.false_xor, Bool.true_xor, p_require_table h1, h2]⟩)
  | d h1 h2 h3 h4 => exact .inr (.inr (.inl ⟨rfl, by simp (implicitDefEqProofs := false) only [lkF, bkF, bkF_n, bkF_if, bkF_bk, obF_rt, obF_nx, obF_if, obF_bk, exF_rt, exF_nx, exF_if, exF_bk, rbF_ok, rbF_er, rrF_ok, rrF_er, rrF_if, trF_ok, trF_er, trF_if, cmp_lt, cmp_le, cmp_gt, cmp_ge, id_eq, if_true, if_false, Bool.false_eq_true, reduceIte, Bool.not_true, Bool.not_false, Bool.false_xor, Bool.true_xor, p_require_table h1, h2, d_cols, p_require_demand _ h3, h4]⟩))
  | g G =>
    refine .inr (.inr (.inr ⟨rfl, ?_⟩))
    obtain ⟨b, eb, hb⟩ := p_is_endless G.co G.tk
    simp (implicitDefEqProofs := false) only [lkF, bkF, bkF_n, bkF_if, bkF_bk, obF_rt, obF_nx, obF_if, obF_bk, exF_rt, exF_nx, exF_if, exF_bk, rbF_ok, rbF_er, rrF_ok, rrF_er, rrF_if, trF_ok, trF_er, trF_if, cmp_lt, cmp_le, cmp_gt, cmp_ge, id_eq, if_true, if_false, Bool.false_eq_true, reduceIte, Bool.not_true, Bool.not_false, Bool.false_xor, Bool.true_xor, p_require_table G.hc, G.ht, d_cols, p_require_demand _ G.hs, G.hd, d_tab, d_dem, eb, p_thing _ _ _ hth]
    cases b <;> exact ⟨_, rfl⟩
theorem gd_iff {α : Type} {o : Option α} : Gd false o (pn0 0) (fun _ _ => True) ↔ ∃ r, o = some r := ⟨fun ⟨v, e, _⟩ => ⟨v, e⟩, fun ⟨v, e⟩ => ⟨v, e, trivial⟩⟩
theorem p_value_counts {c t d : PyData} {w : Str} (h : Kind c t d w) : Ends4 (m_value_counts (c, t, d)) w := by
  unfold m_value_counts b_value_counts
  cases h with
  | c h => exact .inl ⟨rfl, by simp (implicitDefEqProofs := false) only [lkF, bkF, bkF_n, bkF_if, bkF_bk, obF_rt, obF_nx, obF_if, obF_bk, exF_rt, exF_nx, exF_if, exF_bk, rbF_ok, rbF_er, rrF_ok, rrF_er, rrF_if, trF_ok, trF_er, trF_if, cmp_lt, cmp_le, cmp_gt, cmp_ge, id_eq, if_true, if_false, Bool.false_eq_true, reduceIte, Bool.not_true, Bool.not_false, Bool.false_xor, Bool.true_xor, p_require_table0 h]⟩
  | t h1 h2 => exact .inr (.inl ⟨rfl, by simp (implicitDefEqProofs := false) only [lkF, bkF, bkF_n, bkF_if, bkF_bk, obF_rt, obF_nx, obF_if, obF_bk, exF_rt, exF_nx, exF_if, exF_bk, rbF_ok, rbF_er, rrF_ok, rrF_er, rrF_if, trF_ok, trF_er, trF_if, cmp_lt, cmp_le, cmp_gt, cmp_ge, id_eq, if_true, if_false, Bool.false_eq_true, reduceIte, Bool.not_true, Bool.not_false, Bool.false_xor, Bool.true_xor, p_require_table h1, h2]⟩)
  | d h1 h2 h3 h4 => exact .inr (.inr (.inl ⟨rfl, by simp (implicitDefEqProofs := false) only [lkF, bkF, bkF_n, bkF_if, bkF_bk, obF_rt, obF_nx, obF_if, obF_bk, exF_rt, exF_nx, exF_if, exF_bk, rbF_ok, rbF_er, rrF_ok, rrF_er, rrF_if, trF_ok, trF_er, trF_if, cmp_lt, cmp_le, cmp_gt, cmp_ge, id_eq, if_true, if_false, Bool.false_eq_true, reduceIte, Bool.not_true, Bool.not_false, Bool.false_xor, Bool.true_xor, p_require_table h1, h2, d_cols, p_require_demand _ h3, h4]⟩))
  | @g cs t d G =>
    refine .inr (.inr (.inr ⟨rfl, ?_⟩))
    simp (implicitDefEqProofs := false) only [lkF, bkF, bkF_n, bkF_if, bkF_bk, obF_rt, obF_nx, obF_if, obF_bk, exF_rt, exF_nx, exF_if, exF_bk, rbF_ok, rbF_er, rrF_ok, rrF_er, rrF_if, trF_ok, trF_er, trF_if, cmp_lt, cmp_le, cmp_gt, cmp_ge, id_eq, if_true, if_false, Bool.false_eq_true, reduceIte, Bool.not_true, Bool.not_false, Bool.false_xor, Bool.true_xor, p_require_table G.hc, G.ht, d_cols, p_require_demand _ G.hs, G.hd, d_tab, d_dem, p_find_unknown G.tk]
    obtain ⟨r, er, _⟩ := forM_inv (ρ := Res (List (Int × Int × Int × Option Int))) (f := fun (a : Int × Int) (s : List (Int × Int × Int × Option Int)) => bk false (pAt (eC cs) a.2) fun x => if (!noneP x) = true then bk false (pAt (eC cs) a.2) fun x => bk false (pItems x) fun l => ob false (SK.forM false (fun (b : PyData) (s : List (Int × Int × Int × Option Int)) => bk false (SK.dO dI b) fun x => bk false (m_with_entry (t, a.1, a.2, x)) fun x => bk false (m_find_count (cs, x, d)) fun y => bk false (dI b) fun x => bk false (oApp s (a.1, a.2, x, y)) fun l => some (Out.nx l)) l s) fun s => some (Out.nx s) else some (Out.nx s)) (fun l s => s.length + 3 * l.length ≤ 1000 ∧ ∀ q ∈ l, Unk t q) (unkL t) [] ⟨by have := unkL_len G.tk; simp; omega, fun q hq => mem_unk.mp hq⟩ (fun q l s hI => by
      have u := hI.2 q (List.mem_cons_self ..)
      have c1 := unk_c1 G.tk u
      obtain ⟨a1, a2⟩ := col_ok G.co u.c0 c1
      have ea : pAt (eC cs) q.2 = some (eO (eT eI) (colF cs q.2)) := by
        obtain ⟨a, e1, e2, _⟩ := oAt_in (l := cs) (i := q.2) u.c0 (by have := G.co.len; omega)
        rw [e1] at a1
        cases a1
        show oAt (cs.map (eO (eT eI))) q.2 = _
        have := oAt_nat (l := cs.map (eO (eT eI))) (i := q.2.toNat) (a := eO (eT eI) (colF cs q.2)) (by rw [List.getElem?_map, e2]; rfl)
        rwa [Int.toNat_of_nonneg u.c0] at this
      rw [ea]
      have hl := hI.1
      rw [List.length_cons] at hl
      cases ec : colF cs q.2 with
      | none => exact ⟨_, rfl, by omega, fun x hx => hI.2 x (List.mem_cons_of_mem _ hx)⟩
      | some vs =>
        have hv := G.co.few vs (by rw [← ec]; exact a2)
        have e1 : noneP (eO (eT eI) (some vs)) = false := rfl
        have e2 : pItems (eO (eT eI) (some vs)) = some (vs.map eI) := rfl
        simp (implicitDefEqProofs := false) only [lkF, bkF, bkF_n, bkF_if, bkF_bk, obF_rt, obF_nx, obF_if, obF_bk, exF_rt, exF_nx, exF_if, exF_bk, rbF_ok, rbF_er, rrF_ok, rrF_er, rrF_if, trF_ok, trF_er, trF_if, cmp_lt, cmp_le, cmp_gt, cmp_ge, id_eq, if_true, if_false, Bool.false_eq_true, reduceIte, Bool.not_true, Bool.not_false, Bool.false_xor, Bool.true_xor, e1, e2]
        obtain ⟨r, er, hr⟩ := forM_inv (ρ := Res (List (Int × Int × Int × Option Int))) (f := fun (b : PyData) (s : List (Int × Int × Int × Option Int)) => bk false (SK.dO dI b) fun x => bk false (m_with_entry (t, q.1, q.2, x)) fun x => bk false (m_find_count (cs, x, d)) fun y => bk false (dI b) fun x => bk false (oApp s (q.1, q.2, x, y)) fun l => some (Out.nx l)) (fun l' s' => s'.length + l'.length ≤ s.length + vs.length ∧ ∀ b ∈ l', ∃ i, b = eI i) (vs.map eI) s ⟨by simp, fun b hb => by obtain ⟨i, _, e⟩ := List.mem_map.mp hb; exact ⟨i, e.symm⟩⟩ (fun b l' s' hJ => by
          obtain ⟨i, rfl⟩ := hJ.2 b (List.mem_cons_self ..)
          have f1 : SK.dO dI (eI i) = some (some i) := rfl
          obtain ⟨r, er⟩ := p_find_count G.co G.dk (put_ok G.tk (i := q.1) (c := q.2) (some i) u.i0 u.i1) (by have := unkN_put u i; have := G.u; omega)
          have hj := hJ.1
          rw [List.length_cons] at hj
          simp (implicitDefEqProofs := false) only [lkF, bkF, bkF_n, bkF_if, bkF_bk, obF_rt, obF_nx, obF_if, obF_bk, exF_rt, exF_nx, exF_if, exF_bk, rbF_ok, rbF_er, rrF_ok, rrF_er, rrF_if, trF_ok, trF_er, trF_if, cmp_lt, cmp_le, cmp_gt, cmp_ge, id_eq, if_true, if_false, Bool.false_eq_true, reduceIte, Bool.not_true, Bool.not_false, Bool.false_xor, Bool.true_xor, f1, p_with_entry G.tk (some i) u.i0 u.i1 u.c0 c1, er, dI_e, oApp_ok (l := s') (x := (q.1, q.2, i, r)) (by omega)]
          exact ⟨_, rfl, by rw [List.length_append]; simp; omega, fun x hx => hJ.2 x (List.mem_cons_of_mem _ hx)⟩)
        rw [er]
        have := hr.1
        exact ⟨_, rfl, by simp at this; omega, fun x hx => hI.2 x (List.mem_cons_of_mem _ hx)⟩)
    rw [er]
    exact ⟨_, rfl⟩
/-! what is told -/
theorem p_told {sort : Int} {c t d th : PyData} {w : Str} (h : Kind c t d w) (hth : th ∈ things) (hr : ∃ s, oRepr (eL eA [c, t, d, th]) = some s) : m__law_told (sort, [c, t, d, th]) = some w := by
  obtain ⟨s, es⟩ := hr
  have i0 : oAt [c, t, d, th] 0 = some c := oAt_nat (l := [c, t, d, th]) (i := 0) rfl
  have i1 : oAt [c, t, d, th] 1 = some t := oAt_nat (l := [c, t, d, th]) (i := 1) rfl
  have i2 : oAt [c, t, d, th] 2 = some d := oAt_nat (l := [c, t, d, th]) (i := 2) rfl
  have i3 : oAt [c, t, d, th] 3 = some th := oAt_nat (l := [c, t, d, th]) (i := 3) rfl
  have n1 : (("InvalidTable" : Str) = "InvalidColumns") = False := by decide
  have n2 : (("InvalidTable" : Str) = "InvalidDemand") = False := by decide
  have n3 : (("InvalidDemand" : Str) = "InvalidColumns") = False := by decide
  have n4 : (("InvalidColumns" : Str) = "InvalidColumns") = True := by simp
  have n5 : (("InvalidTable" : Str) = "InvalidTable") = True := by simp
  have n6 : (("InvalidDemand" : Str) = "InvalidDemand") = True := by simp
  unfold m__law_told b__law_told
  have fin : ∀ {α : Type} {o : Option (Res α)}, Ends4 o w → ∃ r : Res α, o = some r ∧ ∀ (k : Str → Option (Out Empty Str)), (∀ s5, k s5 = some (Out.rt s5)) → True := fun {α o} h => by
    rcases h with ⟨_, e⟩ | ⟨_, e⟩ | ⟨_, e⟩ | ⟨_, a, e⟩ <;> exact ⟨_, e, fun _ _ => trivial⟩
  have a1 := p_kept_count h
  have a2 := p_value_counts h
  have a3 := p_count_tree h
  have a4 := p_tree_number_of h hth
  simp (implicitDefEqProofs := false) only [lkF, bkF, bkF_n, bkF_if, bkF_bk, obF_rt, obF_nx, obF_if, obF_bk, exF_rt, exF_nx, exF_if, exF_bk, rbF_ok, rbF_er, rrF_ok, rrF_er, rrF_if, trF_ok, trF_er, trF_if, cmp_lt, cmp_le, cmp_gt, cmp_ge, id_eq, if_true, if_false, Bool.false_eq_true, reduceIte, Bool.not_true, Bool.not_false, Bool.false_xor, Bool.true_xor, es, i0, i1, i2, i3]
  cases q0 : decide (sort = 0) with
  | true =>
    rcases a1 with ⟨rfl, e⟩ | ⟨rfl, e⟩ | ⟨rfl, e⟩ | ⟨rfl, a, e⟩ <;> simp (implicitDefEqProofs := false) only [lkF, bkF, bkF_n, bkF_if, bkF_bk, obF_rt, obF_nx, obF_if, obF_bk, exF_rt, exF_nx, exF_if, exF_bk, rbF_ok, rbF_er, rrF_ok, rrF_er, rrF_if, trF_ok, trF_er, trF_if, cmp_lt, cmp_le, cmp_gt, cmp_ge, id_eq, if_true, if_false, Bool.false_eq_true, reduceIte, Bool.not_true, Bool.not_false, Bool.false_xor, Bool.true_xor, e, es, n1, n2, n3, n4, n5, n6, decide_true]
  | false =>
    cases q1 : decide (sort = 1) with
    | true =>
      rcases a2 with ⟨rfl, e⟩ | ⟨rfl, e⟩ | ⟨rfl, e⟩ | ⟨rfl, a, e⟩ <;> simp (implicitDefEqProofs := false) only [lkF, bkF, bkF_n, bkF_if, bkF_bk, obF_rt, obF_nx, obF_if, obF_bk, exF_rt, exF_nx, exF_if, exF_bk, rbF_ok, rbF_er, rrF_ok, rrF_er, rrF_if, trF_ok, trF_er, trF_if, cmp_lt, cmp_le, cmp_gt, cmp_ge, id_eq, if_true, if_false, Bool.false_eq_true, reduceIte, Bool.not_true, Bool.not_false, Bool.false_xor, Bool.true_xor, e, es, n1, n2, n3, n4, n5, n6, decide_true]
    | false =>
      cases q2 : decide (sort = 2) with
      | true =>
        rcases a3 with ⟨rfl, e⟩ | ⟨rfl, e⟩ | ⟨rfl, e⟩ | ⟨rfl, a, e⟩ <;> simp (implicitDefEqProofs := false) only [lkF, bkF, bkF_n, bkF_if, bkF_bk, obF_rt, obF_nx, obF_if, obF_bk, exF_rt, exF_nx, exF_if, exF_bk, rbF_ok, rbF_er, rrF_ok, rrF_er, rrF_if, trF_ok, trF_er, trF_if, cmp_lt, cmp_le, cmp_gt, cmp_ge, id_eq, if_true, if_false, Bool.false_eq_true, reduceIte, Bool.not_true, Bool.not_false, Bool.false_xor, Bool.true_xor, e, es, n1, n2, n3, n4, n5, n6, decide_true]
      | false =>
        rcases a4 with ⟨rfl, e⟩ | ⟨rfl, e⟩ | ⟨rfl, e⟩ | ⟨rfl, a, e⟩ <;> simp (implicitDefEqProofs := false) only [lkF, bkF, bkF_n, bkF_if, bkF_bk, obF_rt, obF_nx, obF_if, obF_bk, exF_rt, exF_nx, exF_if, exF_bk, rbF_ok, rbF_er, rrF_ok, rrF_er, rrF_if, trF_ok, trF_er, trF_if, cmp_lt, cmp_le, cmp_gt, cmp_ge, id_eq, if_true, if_false, Bool.false_eq_true, reduceIte, Bool.not_true, Bool.not_false, Bool.false_xor, Bool.true_xor, e, es, n1, n2, n3, n4, n5, n6, decide_true]
end Q92
end
section
set_option maxHeartbeats 4000000
namespace Q92
open PySem PySem.Spec PyProof.Rows L2 SK
/-! ### plain: what is drawn -/
def colL : Cols := [none, none, some [0], some [0, 1], some [0, 1], some [1, 2], some [0, 1, 2], some [3, 9]]
structure ColsD (cs : Cols) : Prop where
  l1 : 1 ≤ cs.length
  l4 : cs.length ≤ 4
  mem : ∀ c ∈ cs, c ∈ colL
theorem g_columns {p : Pn} {K : Cols → Pn → Prop} (hp : p.n + 5 < 2 ^ 31) (h : ∀ cs p', ColsD cs → p'.n ≤ p.n + 5 → K cs p') : Gd true (m__law_columns 4) p K := by
  unfold m__law_columns b__law_columns
  try simp (implicitDefEqProofs := false) only [↓gd_bpk, ↓gd_bk, ↓gd_pk, ↓gd_ifT, ↓gd_ifF, ↓gd_ob, ↓gd_ex, obK_nx, obK_rt, exK_nx, exK_rt, cmp_lt, cmp_le, cmp_gt, cmp_ge, id_eq, Bool.false_eq_true, reduceIte, Bool.not_true, Bool.not_false, Bool.false_xor, Bool.true_xor, decide_eq_true_eq]
  refine gd_take (by decide) (by decide) (by omega) fun k p1 k0 k1 e1 => ?_
  try simp (implicitDefEqProofs := false) only [↓gd_bpk, ↓gd_bk, ↓gd_pk, ↓gd_ifT, ↓gd_ifF, ↓gd_ob, ↓gd_ex, obK_nx, obK_rt, exK_nx, exK_rt, cmp_lt, cmp_le, cmp_gt, cmp_ge, id_eq, Bool.false_eq_true, reduceIte, Bool.not_true, Bool.not_false, Bool.false_xor, Bool.true_xor, decide_eq_true_eq]
  rw [rng_ok (by omega) (by omega) (by omega) (by omega)]
  try simp (implicitDefEqProofs := false) only [↓gd_bpk, ↓gd_bk, ↓gd_pk, ↓gd_ifT, ↓gd_ifF, ↓gd_ob, ↓gd_ex, obK_nx, obK_rt, exK_nx, exK_rt, cmp_lt, cmp_le, cmp_gt, cmp_ge, id_eq, Bool.false_eq_true, reduceIte, Bool.not_true, Bool.not_false, Bool.false_xor, Bool.true_xor, decide_eq_true_eq]
  have hl := rng_len 0 (1 + k)
  refine gd_for (I := fun l s q => s.length + l.length = (1 + k).toNat ∧ (∀ c ∈ s, c ∈ colL) ∧ q.n + l.length ≤ p1.n + (1 + k).toNat) ⟨by rw [hl]; simp, (fun c hc => by cases hc), by rw [hl]; omega⟩ (fun x l s q hI => ?_) (fun s q hI => ?_)
  · obtain ⟨h1, h2, h3⟩ := hI
    rw [List.length_cons] at h1 h3
    try simp (implicitDefEqProofs := false) only [↓gd_bpk, ↓gd_bk, ↓gd_pk, ↓gd_ifT, ↓gd_ifF, ↓gd_ob, ↓gd_ex, obK_nx, obK_rt, exK_nx, exK_rt, cmp_lt, cmp_le, cmp_gt, cmp_ge, id_eq, Bool.false_eq_true, reduceIte, Bool.not_true, Bool.not_false, Bool.false_xor, Bool.true_xor, decide_eq_true_eq]
    refine gd_one (by simp) (by decide) (by omega) fun c q1 hc e2 => ?_
    try simp (implicitDefEqProofs := false) only [↓gd_bpk, ↓gd_bk, ↓gd_pk, ↓gd_ifT, ↓gd_ifF, ↓gd_ob, ↓gd_ex, obK_nx, obK_rt, exK_nx, exK_rt, cmp_lt, cmp_le, cmp_gt, cmp_ge, id_eq, Bool.false_eq_true, reduceIte, Bool.not_true, Bool.not_false, Bool.false_xor, Bool.true_xor, decide_eq_true_eq]
    rw [oCat_ok (by simp only [List.length_cons, List.length_nil]; omega)]
    try simp (implicitDefEqProofs := false) only [↓gd_bpk, ↓gd_bk, ↓gd_pk, ↓gd_ifT, ↓gd_ifF, ↓gd_ob, ↓gd_ex, obK_nx, obK_rt, exK_nx, exK_rt, cmp_lt, cmp_le, cmp_gt, cmp_ge, id_eq, Bool.false_eq_true, reduceIte, Bool.not_true, Bool.not_false, Bool.false_xor, Bool.true_xor, decide_eq_true_eq]
    refine ⟨by rw [List.length_append]; simp only [List.length_cons, List.length_nil]; omega, fun c' hc' => ?_, by omega⟩
    rcases List.mem_append.mp hc' with q | q
    · exact h2 c' q
    · simp at q; rw [q]; exact hc
  · obtain ⟨h1, h2, h3⟩ := hI
    try simp (implicitDefEqProofs := false) only [↓gd_bpk, ↓gd_bk, ↓gd_pk, ↓gd_ifT, ↓gd_ifF, ↓gd_ob, ↓gd_ex, obK_nx, obK_rt, exK_nx, exK_rt, cmp_lt, cmp_le, cmp_gt, cmp_ge, id_eq, Bool.false_eq_true, reduceIte, Bool.not_true, Bool.not_false, Bool.false_xor, Bool.true_xor, decide_eq_true_eq]
    simp only [List.length_nil] at h1 h3
    exact h s q ⟨by omega, by omega, h2⟩ (by omega)
def freeV : List Int := [0, 0, 1, 1, 2, 3, 10 ^ 29, 10 ^ 30 - 1]
def okE (c : Option (List Int)) (e : Option Int) : Bool := match e with
  | none => true
  | some v => decide (v.natAbs < 10 ^ 45) && vofP c (.int v)
theorem col_lists {c : Option (List Int)} (h : c ∈ colL) : ∀ l, c = some l → l ≠ [] ∧ l.length ≤ 3 ∧ (∀ v ∈ l, okE (some l) (some v) = true) ∧ colP (eO (eT eI) c) = true := by
  simp only [colL, List.mem_cons, List.not_mem_nil, or_false] at h
  rcases h with h | h | h | h | h | h | h | h <;> subst h <;> intro l e <;> cases e <;> decide +kernel
theorem g_value {p : Pn} {c : Option (List Int)} {K : Int → Pn → Prop} (hp : p.n < 2 ^ 31) (hc : c ∈ colL) (h : ∀ v p', okE c (some v) = true → p'.n = p.n + 1 → K v p') : Gd true (m__law_value c) p K := by
  unfold m__law_value b__law_value
  try simp (implicitDefEqProofs := false) only [↓gd_bpk, ↓gd_bk, ↓gd_pk, ↓gd_ifT, ↓gd_ifF, ↓gd_ob, ↓gd_ex, obK_nx, obK_rt, exK_nx, exK_rt, cmp_lt, cmp_le, cmp_gt, cmp_ge, id_eq, Bool.false_eq_true, reduceIte, Bool.not_true, Bool.not_false, Bool.false_xor, Bool.true_xor, decide_eq_true_eq]
  cases c with
  | none =>
    have o1 : oPow 10 29 = some (10 ^ 29) := by decide +kernel
    have o2 : oPow 10 30 = some (10 ^ 30) := by decide +kernel
    have z : isNo (none : Option (List Int)) = true := rfl
    try simp (implicitDefEqProofs := false) only [↓gd_bpk, ↓gd_bk, ↓gd_pk, ↓gd_ifT, ↓gd_ifF, ↓gd_ob, ↓gd_ex, obK_nx, obK_rt, exK_nx, exK_rt, cmp_lt, cmp_le, cmp_gt, cmp_ge, id_eq, Bool.false_eq_true, reduceIte, Bool.not_true, Bool.not_false, Bool.false_xor, Bool.true_xor, decide_eq_true_eq, z, o1, o2]
    refine gd_one (by simp) (by decide) hp fun v p' hv e => ?_
    try simp (implicitDefEqProofs := false) only [↓gd_bpk, ↓gd_bk, ↓gd_pk, ↓gd_ifT, ↓gd_ifF, ↓gd_ob, ↓gd_ex, obK_nx, obK_rt, exK_nx, exK_rt, cmp_lt, cmp_le, cmp_gt, cmp_ge, id_eq, Bool.false_eq_true, reduceIte, Bool.not_true, Bool.not_false, Bool.false_xor, Bool.true_xor, decide_eq_true_eq]
    refine h v p' ?_ e
    simp only [List.mem_cons, List.not_mem_nil, or_false] at hv
    rcases hv with q | q | q | q | q | q | q | q <;> subst q <;> decide +kernel
  | some l =>
    obtain ⟨h1, h2, h3, _⟩ := col_lists hc l rfl
    have z : isNo (some l) = false := rfl
    try simp (implicitDefEqProofs := false) only [↓gd_bpk, ↓gd_bk, ↓gd_pk, ↓gd_ifT, ↓gd_ifF, ↓gd_ob, ↓gd_ex, obK_nx, obK_rt, exK_nx, exK_rt, cmp_lt, cmp_le, cmp_gt, cmp_ge, id_eq, Bool.false_eq_true, reduceIte, Bool.not_true, Bool.not_false, Bool.false_xor, Bool.true_xor, decide_eq_true_eq, z]
    refine gd_one h1 (by omega) hp fun v p' hv e => ?_
    try simp (implicitDefEqProofs := false) only [↓gd_bpk, ↓gd_bk, ↓gd_pk, ↓gd_ifT, ↓gd_ifF, ↓gd_ob, ↓gd_ex, obK_nx, obK_rt, exK_nx, exK_rt, cmp_lt, cmp_le, cmp_gt, cmp_ge, id_eq, Bool.false_eq_true, reduceIte, Bool.not_true, Bool.not_false, Bool.false_xor, Bool.true_xor, decide_eq_true_eq]
    exact h v p' (h3 v hv) e
def rowE (cs : Cols) (r : Row) : Bool := decide (r.length = cs.length) && (cs.zip r).all fun q => okE q.1 q.2
theorem unkN_snoc (t : Tab) (r : Row) : unkN (t ++ [r]) = unkN t + r.count none := by simp [unkN]
structure TabD (cs : Cols) (m u : Nat) (t : Tab) : Prop where
  len : t.length = m
  row : ∀ r ∈ t, rowE cs r = true
  unk : unkN t ≤ u
theorem g_table {p : Pn} {cs : Cols} {m : Nat} {K : Tab → Pn → Prop} (hc : ColsD cs) (hm : m ≤ 8) (hp : p.n + 64 < 2 ^ 31) (h : ∀ t p', TabD cs m 4 t → p'.n ≤ p.n + 64 → K t p') : Gd true (m__law_table (cs, (m : Int), 4)) p K := by
  unfold m__law_table b__law_table
  try simp (implicitDefEqProofs := false) only [↓gd_bpk, ↓gd_bk, ↓gd_pk, ↓gd_ifT, ↓gd_ifF, ↓gd_ob, ↓gd_ex, obK_nx, obK_rt, exK_nx, exK_rt, cmp_lt, cmp_le, cmp_gt, cmp_ge, id_eq, Bool.false_eq_true, reduceIte, Bool.not_true, Bool.not_false, Bool.false_xor, Bool.true_xor, decide_eq_true_eq]
  rw [rng_ok (by omega) (by omega) (by omega) (by omega)]
  try simp (implicitDefEqProofs := false) only [↓gd_bpk, ↓gd_bk, ↓gd_pk, ↓gd_ifT, ↓gd_ifF, ↓gd_ob, ↓gd_ex, obK_nx, obK_rt, exK_nx, exK_rt, cmp_lt, cmp_le, cmp_gt, cmp_ge, id_eq, Bool.false_eq_true, reduceIte, Bool.not_true, Bool.not_false, Bool.false_xor, Bool.true_xor, decide_eq_true_eq]
  have hl := rng_len 0 (m : Int)
  have l4 := hc.l4
  refine gd_for (I := fun l s q => s.1.length + l.length = m ∧ (∀ r ∈ s.1, rowE cs r = true) ∧ (unkN s.1 : Int) + s.2 = 4 ∧ 0 ≤ s.2 ∧ q.n + 8 * l.length ≤ p.n + 64) ⟨by rw [hl]; simp, (fun c hc => by cases hc), by simp [unkN], by decide, by rw [hl]; omega⟩ (fun x l s q hI => ?_) (fun s q hI => ?_)
  · obtain ⟨h1, h2, h3, h4, h5⟩ := hI
    rw [List.length_cons] at h1 h5
    try simp (implicitDefEqProofs := false) only [↓gd_bpk, ↓gd_bk, ↓gd_pk, ↓gd_ifT, ↓gd_ifF, ↓gd_ob, ↓gd_ex, obK_nx, obK_rt, exK_nx, exK_rt, cmp_lt, cmp_le, cmp_gt, cmp_ge, id_eq, Bool.false_eq_true, reduceIte, Bool.not_true, Bool.not_false, Bool.false_xor, Bool.true_xor, decide_eq_true_eq]
    refine gd_for (I := fun l' s' q' => ∃ done, cs = done ++ l' ∧ s'.2.length = done.length ∧ ((done.zip s'.2).all fun z => okE z.1 z.2) = true ∧ (unkN s.1 + s'.2.count none : Int) + s'.1 = 4 ∧ 0 ≤ s'.1 ∧ q'.n + 2 * l'.length + 8 * l.length ≤ p.n + 64) ⟨[], rfl, rfl, rfl, by simpa using h3, h4, by omega⟩ (fun c l' s' q' hJ => ?_) (fun s' q' hJ => ?_)
    · obtain ⟨dn, j1, j2, j3, j4, j5, j6⟩ := hJ
      rw [List.length_cons] at j6
      have hcm : c ∈ cs := by rw [j1]; simp
      have hdl : dn.length ≤ 4 := by have := congrArg List.length j1; simp at this; omega
      have put : ∀ (e : Option Int) (left : Int) (q2 : Pn), okE c e = true → (unkN s.1 + (s'.2 ++ [e]).count none : Int) + left = 4 → 0 ≤ left → q2.n ≤ q'.n + 2 → ∃ done, cs = done ++ l' ∧ (s'.2 ++ [e]).length = done.length ∧ ((done.zip (s'.2 ++ [e])).all fun z => okE z.1 z.2) = true ∧ (unkN s.1 + (s'.2 ++ [e]).count none : Int) + left = 4 ∧ 0 ≤ left ∧ q2.n + 2 * l'.length + 8 * l.length ≤ p.n + 64 := fun e left q2 a1 a2 a3 a4 => by
        refine ⟨dn ++ [c], by rw [j1]; simp, by simp [j2], ?_, a2, a3, by omega⟩
        rw [List.zip_append j2.symm, List.all_append, j3]
        simp [a1]
      have val : ∀ q2 : Pn, q2.n ≤ q'.n + 1 → Gd true (m__law_value c) q2 (fun v q3 => ∃ y, oCat s'.2 [some v] = some y ∧ ∃ done, cs = done ++ l' ∧ y.length = done.length ∧ ((done.zip y).all fun z => okE z.1 z.2) = true ∧ (unkN s.1 + y.count none : Int) + s'.1 = 4 ∧ 0 ≤ s'.1 ∧ q3.n + 2 * l'.length + 8 * l.length ≤ p.n + 64) := fun q2 hq => by
        refine g_value (by omega) (hc.mem c hcm) fun v q3 hv e3 => ?_
        exact ⟨_, oCat_ok (by simp only [List.length_cons, List.length_nil]; omega), put (some v) s'.1 q3 hv (by simpa using j4) j5 (by omega)⟩
      try simp (implicitDefEqProofs := false) only [↓gd_bpk, ↓gd_bk, ↓gd_pk, ↓gd_ifT, ↓gd_ifF, ↓gd_ob, ↓gd_ex, obK_nx, obK_rt, exK_nx, exK_rt, cmp_lt, cmp_le, cmp_gt, cmp_ge, id_eq, Bool.false_eq_true, reduceIte, Bool.not_true, Bool.not_false, Bool.false_xor, Bool.true_xor, decide_eq_true_eq]
      by_cases hz : 0 < s'.1
      · rw [if_pos hz]
        refine gd_take (by decide) (by decide) (by omega) fun k q2 k0 k1 e2 => ?_
        try simp (implicitDefEqProofs := false) only [↓gd_bpk, ↓gd_bk, ↓gd_pk, ↓gd_ifT, ↓gd_ifF, ↓gd_ob, ↓gd_ex, obK_nx, obK_rt, exK_nx, exK_rt, cmp_lt, cmp_le, cmp_gt, cmp_ge, id_eq, Bool.false_eq_true, reduceIte, Bool.not_true, Bool.not_false, Bool.false_xor, Bool.true_xor, decide_eq_true_eq]
        by_cases hk : k = 0
        · rw [if_pos hk, oCat_ok (by simp only [List.length_cons, List.length_nil]; omega)]
          try simp (implicitDefEqProofs := false) only [↓gd_bpk, ↓gd_bk, ↓gd_pk, ↓gd_ifT, ↓gd_ifF, ↓gd_ob, ↓gd_ex, obK_nx, obK_rt, exK_nx, exK_rt, cmp_lt, cmp_le, cmp_gt, cmp_ge, id_eq, Bool.false_eq_true, reduceIte, Bool.not_true, Bool.not_false, Bool.false_xor, Bool.true_xor, decide_eq_true_eq]
          exact put none (s'.1 - 1) q2 rfl (by simp; omega) (by omega) (by omega)
        · rw [if_neg hk]
          refine (val q2 (by omega)).imp fun v q3 ⟨y, e, h⟩ => ?_
          try simp (implicitDefEqProofs := false) only [↓gd_bpk, ↓gd_bk, ↓gd_pk, ↓gd_ifT, ↓gd_ifF, ↓gd_ob, ↓gd_ex, obK_nx, obK_rt, exK_nx, exK_rt, cmp_lt, cmp_le, cmp_gt, cmp_ge, id_eq, Bool.false_eq_true, reduceIte, Bool.not_true, Bool.not_false, Bool.false_xor, Bool.true_xor, decide_eq_true_eq, e]
          exact h
      · rw [if_neg hz]
        refine (val q' (by omega)).imp fun v q3 ⟨y, e, h⟩ => ?_
        try simp (implicitDefEqProofs := false) only [↓gd_bpk, ↓gd_bk, ↓gd_pk, ↓gd_ifT, ↓gd_ifF, ↓gd_ob, ↓gd_ex, obK_nx, obK_rt, exK_nx, exK_rt, cmp_lt, cmp_le, cmp_gt, cmp_ge, id_eq, Bool.false_eq_true, reduceIte, Bool.not_true, Bool.not_false, Bool.false_xor, Bool.true_xor, decide_eq_true_eq, e]
        exact h
    · obtain ⟨dn, j1, j2, j3, j4, j5, j6⟩ := hJ
      rw [List.append_nil] at j1
      subst j1
      try simp (implicitDefEqProofs := false) only [↓gd_bpk, ↓gd_bk, ↓gd_pk, ↓gd_ifT, ↓gd_ifF, ↓gd_ob, ↓gd_ex, obK_nx, obK_rt, exK_nx, exK_rt, cmp_lt, cmp_le, cmp_gt, cmp_ge, id_eq, Bool.false_eq_true, reduceIte, Bool.not_true, Bool.not_false, Bool.false_xor, Bool.true_xor, decide_eq_true_eq]
      rw [oCat_ok (by simp only [List.length_cons, List.length_nil]; omega)]
      try simp (implicitDefEqProofs := false) only [↓gd_bpk, ↓gd_bk, ↓gd_pk, ↓gd_ifT, ↓gd_ifF, ↓gd_ob, ↓gd_ex, obK_nx, obK_rt, exK_nx, exK_rt, cmp_lt, cmp_le, cmp_gt, cmp_ge, id_eq, Bool.false_eq_true, reduceIte, Bool.not_true, Bool.not_false, Bool.false_xor, Bool.true_xor, decide_eq_true_eq]
      refine ⟨by rw [List.length_append]; simp only [List.length_cons, List.length_nil]; omega, fun r hr => ?_, by rw [unkN_snoc]; omega, j5, by simp only [List.length_nil] at j6; omega⟩
      rcases List.mem_append.mp hr with hr | hr
      · exact h2 r hr
      · simp at hr
        rw [hr]
        simp only [rowE, j2, j3, decide_true, Bool.and_self]
  · obtain ⟨h1, h2, h3, h4, h5⟩ := hI
    try simp (implicitDefEqProofs := false) only [↓gd_bpk, ↓gd_bk, ↓gd_pk, ↓gd_ifT, ↓gd_ifF, ↓gd_ob, ↓gd_ex, obK_nx, obK_rt, exK_nx, exK_rt, cmp_lt, cmp_le, cmp_gt, cmp_ge, id_eq, Bool.false_eq_true, reduceIte, Bool.not_true, Bool.not_false, Bool.false_xor, Bool.true_xor, decide_eq_true_eq]
    simp only [List.length_nil] at h1 h5
    exact h s.1 q ⟨by omega, h2, by omega⟩ (by omega)
/-- a drawn set -/
structure SetD (n : Nat) (s : List Int) : Prop where
  inc : s.Pairwise (· < ·)
  inr : SetIn n s
theorem rng_inc (n : Nat) : (rngL 0 n).Pairwise (· < ·) := by
  unfold rngL
  rw [List.pairwise_map]
  exact List.Pairwise.imp (fun h => by omega) List.pairwise_lt_range
theorem g_set {p : Pn} {n : Nat} {K : List Int → Pn → Prop} (hn : n ≤ 4) (hp : p.n + 4 < 2 ^ 31) (h : ∀ s p', SetD n s → p'.n ≤ p.n + 4 → K s p') : Gd true (m__law_set (n : Int)) p K := by
  unfold m__law_set b__law_set
  try simp (implicitDefEqProofs := false) only [↓gd_bpk, ↓gd_bk, ↓gd_pk, ↓gd_ifT, ↓gd_ifF, ↓gd_ob, ↓gd_ex, obK_nx, obK_rt, exK_nx, exK_rt, cmp_lt, cmp_le, cmp_gt, cmp_ge, id_eq, Bool.false_eq_true, reduceIte, Bool.not_true, Bool.not_false, Bool.false_xor, Bool.true_xor, decide_eq_true_eq]
  rw [rng_ok (by omega) (by omega) (by omega) (by omega)]
  try simp (implicitDefEqProofs := false) only [↓gd_bpk, ↓gd_bk, ↓gd_pk, ↓gd_ifT, ↓gd_ifF, ↓gd_ob, ↓gd_ex, obK_nx, obK_rt, exK_nx, exK_rt, cmp_lt, cmp_le, cmp_gt, cmp_ge, id_eq, Bool.false_eq_true, reduceIte, Bool.not_true, Bool.not_false, Bool.false_xor, Bool.true_xor, decide_eq_true_eq]
  have hl := rng_len 0 (n : Int)
  have hi := rng_inc n
  have hm : ∀ x ∈ rngL 0 (n : Int), 0 ≤ x ∧ x < (n : Int) := fun x hx => mem_rng.mp hx
  generalize rngL 0 (n : Int) = L at hl hi hm
  have := gd_cM (κ := true) (t := fun a4 : Int => bk true (bk true (pk true (2 : Int)) fun v5 => m__law_take v5) fun x6 => bk true (pk true (0 : Int)) fun x7 => pk true (decide (x6 = x7))) (f := fun a4 : Int => pk true a4) (K := fun r p' => K r p')
    (I := fun l acc q => (acc ++ l).Pairwise (· < ·) ∧ (∀ x ∈ acc ++ l, 0 ≤ x ∧ x < (n : Int)) ∧ q.n + l.length ≤ p.n + 4) (l := L) (p := p) [] ⟨hi, hm, by omega⟩ (fun x l acc q hI => ?_) (fun acc q hI => ?_)
  · simpa using this
  · obtain ⟨h1, h2, h3⟩ := hI
    rw [List.length_cons] at h3
    try simp (implicitDefEqProofs := false) only [↓gd_bpk, ↓gd_bk, ↓gd_pk, ↓gd_ifT, ↓gd_ifF, ↓gd_ob, ↓gd_ex, obK_nx, obK_rt, exK_nx, exK_rt, cmp_lt, cmp_le, cmp_gt, cmp_ge, id_eq, Bool.false_eq_true, reduceIte, Bool.not_true, Bool.not_false, Bool.false_xor, Bool.true_xor, decide_eq_true_eq]
    refine gd_take (by decide) (by decide) (by omega) fun k q2 k0 k1 e2 => ?_
    try simp (implicitDefEqProofs := false) only [↓gd_bpk, ↓gd_bk, ↓gd_pk, ↓gd_ifT, ↓gd_ifF, ↓gd_ob, ↓gd_ex, obK_nx, obK_rt, exK_nx, exK_rt, cmp_lt, cmp_le, cmp_gt, cmp_ge, id_eq, Bool.false_eq_true, reduceIte, Bool.not_true, Bool.not_false, Bool.false_xor, Bool.true_xor, decide_eq_true_eq]
    by_cases hk : k = 0
    · rw [if_pos hk]
      refine ⟨by simpa using h1, by simpa using h2, by omega⟩
    · rw [if_neg hk]
      refine ⟨h1.sublist ?_, fun y hy => h2 y ?_, by omega⟩
      · exact List.Sublist.append_left (List.sublist_cons_self _ _) _
      · rcases List.mem_append.mp hy with h | h
        · exact List.mem_append_left _ h
        · exact List.mem_append_right _ (List.mem_cons_of_mem _ h)
  · obtain ⟨h1, h2, h3⟩ := hI
    rw [List.append_nil] at h1 h2
    exact h acc q ⟨h1, h2⟩ (by simp only [List.length_nil] at h3; omega)
end Q92
end
section
set_option maxHeartbeats 4000000
namespace Q92
open PySem PySem.Spec PyProof.Rows L2 SK
/-! ### plain: what is drawn amiss -/
theorem oRep_ok {α : Type} {l : List α} {k : Int} (h0 : 0 ≤ k) (h1 : k ≤ 1000) (hl : l.length ≤ 1000) : oRep l k = some (List.replicate k.toNat l).flatten := if_pos (by omega)
theorem cut_len {α : Type} {l : List α} {a b : Option Int} : (cutG l a b).length ≤ l.length := by
  unfold cutG
  rw [List.length_take, List.length_drop]
  omega
theorem gd_mM {α β : Type} {f : α → Mk true β} {g : α → β} : ∀ {l : List α} {p : Pn} {K : List β → Pn → Prop}, (∀ x ∈ l, ∀ (p : Pn) (K : β → Pn → Prop), K (g x) p → Gd true (f x) p K) → K (l.map g) p → Gd true (mM true f l) p K
  | [], p, K, _, h => gd_pk.mpr h
  | x :: l, p, K, hf, h => by
    show Gd true (bk true (f x) _) p K
    rw [gd_bk]
    refine hf x (List.mem_cons_self ..) p _ ?_
    rw [gd_bk]
    refine gd_mM (g := g) (fun y hy => hf y (List.mem_cons_of_mem _ hy)) ?_
    exact gd_pk.mpr h
def shortB : PyData → Bool
  | .tuple ps => decide (ps.length < 63)
  | _ => true
def badSet (p : PyData) (m : Nat) : Bool := !setP m p && shortB p && niceB 3 1000 p
def badSets (m : Nat) : List PyData := [.none, .list [], .str "0", .int 7, .tuple [eI m], .tuple [.int (-1)], .tuple [.bool true], .tuple [.int 0, .int 0], .tuple [.int 1, .int 0], .tuple [.str "0"], .list [.int 0]] ++ [.tuple [.tuple [.int 0]], .tuple [.none], .tuple [.int 0, eI m], .tuple [.int (-1), .int 0], .tuple [.bool true, .int 2], .tuple [.bool false, .int 1], .tuple [.str "0", .int 1]] ++
  [.tuple [.none, .int 0], .tuple [.list [.int 0], .int 0], .tuple [.int 0, .int (-1)], .tuple [.int 0, .int 2, .int 1], .tuple [.int 0, .str "1"], .tuple [.int 0, .list [.int 0]], .tuple [.tuple [], .int 0]]
theorem badSets_ok {m : Nat} (h1 : 1 ≤ m) (h4 : m ≤ 4) : ∀ p ∈ badSets m, badSet p m = true := by
  have : m = 1 ∨ m = 2 ∨ m = 3 ∨ m = 4 := by omega
  rcases this with h | h | h | h <;> subst h <;> decide +kernel
theorem g_bad_set {p : Pn} {m : Nat} {K : PyData → Pn → Prop} (h1 : 1 ≤ m) (h4 : m ≤ 4) (hp : p.n < 2 ^ 31) (h : ∀ x p', badSet x m = true → p'.n = p.n + 1 → K x p') : Gd true (m__law_bad_set (m : Int)) p K := by
  unfold m__law_bad_set b__law_bad_set
  try simp (implicitDefEqProofs := false) only [↓gd_bpk, ↓gd_bk, ↓gd_pk, ↓gd_ifT, ↓gd_ifF, ↓gd_ob, ↓gd_ex, obK_nx, obK_rt, exK_nx, exK_rt, cmp_lt, cmp_le, cmp_gt, cmp_ge, id_eq, Bool.false_eq_true, reduceIte, Bool.not_true, Bool.not_false, Bool.false_xor, Bool.true_xor, decide_eq_true_eq]
  refine gd_lk.mpr ⟨_, oCat_ok (by simp), ?_⟩
  try simp (implicitDefEqProofs := false) only [↓gd_bpk, ↓gd_bk, ↓gd_pk, ↓gd_ifT, ↓gd_ifF, ↓gd_ob, ↓gd_ex, obK_nx, obK_rt, exK_nx, exK_rt, cmp_lt, cmp_le, cmp_gt, cmp_ge, id_eq, Bool.false_eq_true, reduceIte, Bool.not_true, Bool.not_false, Bool.false_xor, Bool.true_xor, decide_eq_true_eq]
  refine gd_lk.mpr ⟨_, oCat_ok (by simp), ?_⟩
  try simp (implicitDefEqProofs := false) only [↓gd_bpk, ↓gd_bk, ↓gd_pk, ↓gd_ifT, ↓gd_ifF, ↓gd_ob, ↓gd_ex, obK_nx, obK_rt, exK_nx, exK_rt, cmp_lt, cmp_le, cmp_gt, cmp_ge, id_eq, Bool.false_eq_true, reduceIte, Bool.not_true, Bool.not_false, Bool.false_xor, Bool.true_xor, decide_eq_true_eq]
  refine gd_one (by simp) (by simp) hp fun x p' hx e => ?_
  try simp (implicitDefEqProofs := false) only [↓gd_bpk, ↓gd_bk, ↓gd_pk, ↓gd_ifT, ↓gd_ifF, ↓gd_ob, ↓gd_ex, obK_nx, obK_rt, exK_nx, exK_rt, cmp_lt, cmp_le, cmp_gt, cmp_ge, id_eq, Bool.false_eq_true, reduceIte, Bool.not_true, Bool.not_false, Bool.false_xor, Bool.true_xor, decide_eq_true_eq]
  exact h x p' (badSets_ok h1 h4 x hx) e
def badCols (p : PyData) : Bool := !colsP p && niceB 5 10000 p
def goodC : List PyData := [.none, .tuple [.int 0, .int 1], .tuple [.int 2, .int 9]]
def oddC : List PyData := [.list [.none], .tuple [], .tuple [.int 1, .int 0], .tuple [.int 0, .bool true], .str "0", .int 7, .tuple [.int 0, .int 1, .int 2, .int 3], .tuple [.int (-1)], .tuple [.int 0, .int 0], .list [.int 0]]
def lastC (k : Int) (o : PyData) : List PyData := [.none, .tuple [], eT eN (List.replicate (5 : Int).toNat [()]).flatten, .str "0", eL eA goodC, eT eA (List.replicate (2 : Int).toNat goodC).flatten] ++ (List.replicate (6 : Int).toNat [eT eA (cutG goodC none (some k) ++ [o] ++ cutG goodC (some k) none)]).flatten
theorem badCols_ok {k : Int} (h0 : 0 ≤ k) (h4 : k < 4) : ∀ o ∈ oddC, ∀ p ∈ lastC k o, badCols p = true := by
  have : k = 0 ∨ k = 1 ∨ k = 2 ∨ k = 3 := by omega
  rcases this with h | h | h | h <;> subst h <;> decide +kernel
theorem g_bad_columns {p : Pn} {K : PyData → Pn → Prop} (hp : p.n + 3 < 2 ^ 31) (h : ∀ x p', badCols x = true → p'.n = p.n + 3 → K x p') : Gd true (m__law_bad_columns ()) p K := by
  unfold m__law_bad_columns b__law_bad_columns
  try simp (implicitDefEqProofs := false) only [↓gd_bpk, ↓gd_bk, ↓gd_pk, ↓gd_ifT, ↓gd_ifF, ↓gd_ob, ↓gd_ex, obK_nx, obK_rt, exK_nx, exK_rt, cmp_lt, cmp_le, cmp_gt, cmp_ge, id_eq, Bool.false_eq_true, reduceIte, Bool.not_true, Bool.not_false, Bool.false_xor, Bool.true_xor, decide_eq_true_eq]
  refine gd_take (by decide) (by decide) (by omega) fun k p1 k0 k1 e1 => ?_
  try simp (implicitDefEqProofs := false) only [↓gd_bpk, ↓gd_bk, ↓gd_pk, ↓gd_ifT, ↓gd_ifF, ↓gd_ob, ↓gd_ex, obK_nx, obK_rt, exK_nx, exK_rt, cmp_lt, cmp_le, cmp_gt, cmp_ge, id_eq, Bool.false_eq_true, reduceIte, Bool.not_true, Bool.not_false, Bool.false_xor, Bool.true_xor, decide_eq_true_eq]
  refine gd_one (by simp) (by simp) (by omega) fun o p2 ho e2 => ?_
  try simp (implicitDefEqProofs := false) only [↓gd_bpk, ↓gd_bk, ↓gd_pk, ↓gd_ifT, ↓gd_ifF, ↓gd_ob, ↓gd_ex, obK_nx, obK_rt, exK_nx, exK_rt, cmp_lt, cmp_le, cmp_gt, cmp_ge, id_eq, Bool.false_eq_true, reduceIte, Bool.not_true, Bool.not_false, Bool.false_xor, Bool.true_xor, decide_eq_true_eq]
  refine gd_lk.mpr ⟨_, oRep_ok (by decide) (by decide) (by simp), ?_⟩
  try simp (implicitDefEqProofs := false) only [↓gd_bpk, ↓gd_bk, ↓gd_pk, ↓gd_ifT, ↓gd_ifF, ↓gd_ob, ↓gd_ex, obK_nx, obK_rt, exK_nx, exK_rt, cmp_lt, cmp_le, cmp_gt, cmp_ge, id_eq, Bool.false_eq_true, reduceIte, Bool.not_true, Bool.not_false, Bool.false_xor, Bool.true_xor, decide_eq_true_eq]
  refine gd_lk.mpr ⟨_, oRep_ok (by decide) (by decide) (by simp), ?_⟩
  try simp (implicitDefEqProofs := false) only [↓gd_bpk, ↓gd_bk, ↓gd_pk, ↓gd_ifT, ↓gd_ifF, ↓gd_ob, ↓gd_ex, obK_nx, obK_rt, exK_nx, exK_rt, cmp_lt, cmp_le, cmp_gt, cmp_ge, id_eq, Bool.false_eq_true, reduceIte, Bool.not_true, Bool.not_false, Bool.false_xor, Bool.true_xor, decide_eq_true_eq]
  refine gd_lk.mpr ⟨_, oCat_ok (Nat.le_trans (Nat.add_le_add cut_len (Nat.le_refl _)) (by simp)), ?_⟩
  try simp (implicitDefEqProofs := false) only [↓gd_bpk, ↓gd_bk, ↓gd_pk, ↓gd_ifT, ↓gd_ifF, ↓gd_ob, ↓gd_ex, obK_nx, obK_rt, exK_nx, exK_rt, cmp_lt, cmp_le, cmp_gt, cmp_ge, id_eq, Bool.false_eq_true, reduceIte, Bool.not_true, Bool.not_false, Bool.false_xor, Bool.true_xor, decide_eq_true_eq]
  refine gd_lk.mpr ⟨_, oCat_ok (by rw [List.length_append]; exact Nat.le_trans (Nat.add_le_add (Nat.add_le_add cut_len (Nat.le_refl _)) cut_len) (by simp)), ?_⟩
  try simp (implicitDefEqProofs := false) only [↓gd_bpk, ↓gd_bk, ↓gd_pk, ↓gd_ifT, ↓gd_ifF, ↓gd_ob, ↓gd_ex, obK_nx, obK_rt, exK_nx, exK_rt, cmp_lt, cmp_le, cmp_gt, cmp_ge, id_eq, Bool.false_eq_true, reduceIte, Bool.not_true, Bool.not_false, Bool.false_xor, Bool.true_xor, decide_eq_true_eq]
  refine gd_lk.mpr ⟨_, oRep_ok (by decide) (by decide) (by simp), ?_⟩
  try simp (implicitDefEqProofs := false) only [↓gd_bpk, ↓gd_bk, ↓gd_pk, ↓gd_ifT, ↓gd_ifF, ↓gd_ob, ↓gd_ex, obK_nx, obK_rt, exK_nx, exK_rt, cmp_lt, cmp_le, cmp_gt, cmp_ge, id_eq, Bool.false_eq_true, reduceIte, Bool.not_true, Bool.not_false, Bool.false_xor, Bool.true_xor, decide_eq_true_eq]
  refine gd_lk.mpr ⟨_, oCat_ok (by simp), ?_⟩
  try simp (implicitDefEqProofs := false) only [↓gd_bpk, ↓gd_bk, ↓gd_pk, ↓gd_ifT, ↓gd_ifF, ↓gd_ob, ↓gd_ex, obK_nx, obK_rt, exK_nx, exK_rt, cmp_lt, cmp_le, cmp_gt, cmp_ge, id_eq, Bool.false_eq_true, reduceIte, Bool.not_true, Bool.not_false, Bool.false_xor, Bool.true_xor, decide_eq_true_eq]
  refine gd_one (by simp) (by simp) (by omega) fun x p3 hx e3 => ?_
  try simp (implicitDefEqProofs := false) only [↓gd_bpk, ↓gd_bk, ↓gd_pk, ↓gd_ifT, ↓gd_ifF, ↓gd_ob, ↓gd_ex, obK_nx, obK_rt, exK_nx, exK_rt, cmp_lt, cmp_le, cmp_gt, cmp_ge, id_eq, Bool.false_eq_true, reduceIte, Bool.not_true, Bool.not_false, Bool.false_xor, Bool.true_xor, decide_eq_true_eq]
  exact h x p3 (badCols_ok k0 k1 o ho x hx) (by omega)
/-! tables -/
def fst0 : Option (List Int) → Int
  | some (x :: _) => x
  | _ => 0
def rowT (cs : Cols) : List PyData := cs.map fun c => .int (fst0 c)
def oddT (c : Option (List Int)) : List PyData := [.int (-1), .bool true, .str "0", .tuple [.int 0], .list [.int 0], if (!isNo c) = true then .int 77 else .int (-2)]
def bentT (r : List PyData) (k : Int) (o : PyData) : List PyData := cutG r none (some k) ++ [o] ++ cutG r (some (k + 1)) none
def tabsAll (n : Nat) (r b : List PyData) : List PyData := [.none, .list [eT eA r], eT (eT eA) (List.replicate (9 : Int).toNat [r]).flatten, eT eA [eL eA r], eT eA [eT eA (cutG r (some 1) none)], .str "0", eT eA r] ++ [.tuple [eT eA r, eT eA b, eT eA r], .tuple [eT eA b], .tuple [eT eA r, eT eA r, eT eA b]] ++ [eT eA [eT eA (r ++ [.int 0])]] ++ [eT (eT eN) (List.replicate (7 : Int).toNat [(List.replicate ((n : Nat) : Int).toNat [()]).flatten]).flatten]
def badTab (cs : Cols) (p : PyData) : Bool := !tabP cs p && niceB 5 10000 p
theorem col_facts {c : Option (List Int)} (h : c ∈ colL) : 0 ≤ fst0 c ∧ fst0 c ≤ 3 ∧ ∀ o ∈ oddT c, (noneP o || vofP c o) = false ∧ niceB 1 200 o = true := by
  simp only [colL, List.mem_cons, List.not_mem_nil, or_false] at h
  rcases h with h | h | h | h | h | h | h | h <;> subst h <;> refine ⟨by decide, by decide, by decide +kernel⟩
theorem zip_bad {cs : Cols} {ps : List PyData} {i : Nat} {c : Option (List Int)} {o : PyData} (h1 : cs[i]? = some c) (h2 : ps[i]? = some o) (h : (noneP o || vofP c o) = false) : ((cs.zip ps).all fun q => noneP q.2 || vofP q.1 q.2) = false := by
  have hm : (c, o) ∈ cs.zip ps := by
    rw [List.mem_iff_getElem?]
    exact ⟨i, by rw [List.getElem?_zip_eq_some]; exact ⟨h1, h2⟩⟩
  cases e : (cs.zip ps).all fun q => noneP q.2 || vofP q.1 q.2 with
  | false => rfl
  | true =>
    have := List.all_eq_true.mp e _ hm
    simp only [h] at this
    cases this
theorem bent_get {r : List PyData} {k : Int} {o : PyData} (h0 : 0 ≤ k) (h1 : k < (r.length : Nat)) : (bentT r k o)[k.toNat]? = some o ∧ (bentT r k o).length = r.length := by
  unfold bentT
  rw [cut_to h0 (by omega), cut_from (i := k + 1) (by omega) (by omega), show (k + 1).toNat = k.toNat + 1 by omega, ← set_split _ _ _ (by omega)]
  exact ⟨List.getElem?_set_self (by omega), by rw [List.length_set]⟩
theorem tabs_ok {cs : Cols} (hc : ColsD cs) {k : Int} (k0 : 0 ≤ k) (k1 : k < (cs.length : Nat)) {c : Option (List Int)} (hk : cs[k.toNat]? = some c) {o : PyData} (ho : o ∈ oddT c) : ∀ p ∈ tabsAll cs.length (rowT cs) (bentT (rowT cs) k o), badTab cs p = true := by
  obtain ⟨_, _, hof⟩ := col_facts (hc.mem c (List.mem_of_getElem? hk))
  obtain ⟨ob, on⟩ := hof o ho
  have h1 := hc.l1
  have h4 := hc.l4
  have eid : ∀ l : List PyData, l.map eA = l := fun l => by simp [eA]
  have eA1 : ∀ l : List PyData, eT eA l = .tuple l := fun l => by unfold eT; rw [eid]
  have eA2 : ∀ l : List PyData, eL eA l = .list l := fun l => by unfold eL; rw [eid]
  have rl : (rowT cs).length = cs.length := by simp [rowT]
  have rn : niceAll 1 200 (rowT cs) := fun q hq => by
    obtain ⟨c', hc', rfl⟩ := List.mem_map.mp hq
    obtain ⟨a, b, _⟩ := col_facts (hc.mem c' hc')
    refine nice_mono (okAll_ints (ns := [fst0 c']) (fun x hx => ?_) _ (by simp)) (by decide) (by decide)
    simp at hx
    rw [hx]
    have : (fst0 c').natAbs < 4 := by omega
    exact Nat.lt_of_lt_of_le this (by decide)
  obtain ⟨bg, bl⟩ := bent_get (r := rowT cs) (k := k) (o := o) k0 (by rw [rl]; exact k1)
  have bn : niceAll 1 200 (bentT (rowT cs) k o) := fun q hq => by
    unfold bentT at hq
    rcases List.mem_append.mp hq with hq | hq
    · rcases List.mem_append.mp hq with hq | hq
      · exact rn q (List.mem_of_mem_drop (List.mem_of_mem_take hq))
      · simp at hq; subst hq; exact on
    · exact rn q (List.mem_of_mem_drop (List.mem_of_mem_take hq))
  have brow : rowP cs (.tuple (bentT (rowT cs) k o)) = false := by
    simp only [rowP, zip_bad hk bg ob, Bool.and_false]
  have lrow : ∀ ps : List PyData, ps.length ≠ cs.length → rowP cs (.tuple ps) = false := fun ps h => by simp [rowP, h]
  have T : ∀ ps : List PyData, (∃ q ∈ ps, rowP cs q = false) → tabP cs (.tuple ps) = false := fun ps ⟨q, hq, e⟩ => by
    have : ps.all (rowP cs) = false := by
      cases e2 : ps.all (rowP cs) with
      | false => rfl
      | true => rw [List.all_eq_true.mp e2 q hq] at e; cases e
    simp [tabP, this]
  have t2 : ∀ {q : List PyData}, niceAll 1 200 q → q.length ≤ 6 → niceB 2 1300 (.tuple q) = true := fun h hl => nice_mono (nice_tuple (n := 6) h hl) (by decide) (by decide)
  have nr := t2 rn (by omega)
  have nb := t2 bn (by omega)
  have t3 : ∀ {q : List PyData}, niceAll 2 1300 q → q.length ≤ 7 → niceB 5 10000 (.tuple q) = true := fun h hl => nice_mono (nice_tuple (n := 7) h hl) (by decide) (by decide)
  have nlr : niceB 2 1300 (.list (rowT cs)) = true := nice_mono (nice_list (n := 6) rn (by omega)) (by decide) (by decide)
  intro p hp
  unfold badTab
  simp only [Bool.and_eq_true, Bool.not_eq_true']
  simp only [tabsAll, List.mem_append, eA1, eA2] at hp
  rcases hp with ((hp | hp) | hp) | hp
  · simp only [List.mem_cons, List.not_mem_nil, or_false] at hp
    rcases hp with rfl | rfl | rfl | rfl | rfl | rfl | rfl
    · exact ⟨rfl, by decide⟩
    · exact ⟨rfl, nice_mono (nice_list (n := 1) (d := 2) (w := 1300) (fun q hq => by simp at hq; rw [hq]; exact nr) (by simp)) (by decide) (by decide)⟩
    · refine ⟨by simp [tabP, eT], nice_mono (nice_tuple (n := 9) (d := 2) (w := 1000) (fun q hq => ?_) (by simp)) (by decide) (by decide)⟩
      simp [eA1] at hq
      rw [hq]
      exact nice_mono (nice_tuple (n := 4) rn (by omega)) (by decide) (by decide)
    · exact ⟨T _ ⟨.list (rowT cs), by simp, rfl⟩, t3 (fun q hq => by simp at hq; rw [hq]; exact nlr) (by simp)⟩
    · refine ⟨T _ ⟨.tuple (cutG (rowT cs) (some 1) none), by simp, lrow _ ?_⟩, t3 (fun q hq => ?_) (by simp)⟩
      · rw [cut_from (by decide) (by omega), List.length_drop]; omega
      · simp at hq
        rw [hq]
        exact t2 (fun q hq => rn q (List.mem_of_mem_drop (List.mem_of_mem_take hq))) (Nat.le_trans cut_len (by omega))
    · exact ⟨rfl, by decide +kernel⟩
    · refine ⟨T _ ?_, nice_mono nr (by decide) (by decide)⟩
      cases e : cs with
      | nil => rw [e] at h1; simp at h1
      | cons a b => exact ⟨.int (fst0 a), by simp [rowT], rfl⟩
  · simp only [List.mem_cons, List.not_mem_nil, or_false] at hp
    rcases hp with rfl | rfl | rfl
    · exact ⟨T _ ⟨.tuple (bentT (rowT cs) k o), by simp, brow⟩, t3 (fun q hq => by simp at hq; rcases hq with e | e | e <;> rw [e] <;> assumption) (by simp)⟩
    · exact ⟨T _ ⟨.tuple (bentT (rowT cs) k o), by simp, brow⟩, t3 (fun q hq => by simp at hq; rw [hq]; assumption) (by simp)⟩
    · exact ⟨T _ ⟨.tuple (bentT (rowT cs) k o), by simp, brow⟩, t3 (fun q hq => by simp at hq; rcases hq with e | e <;> rw [e] <;> assumption) (by simp)⟩
  · simp only [List.mem_cons, List.not_mem_nil, or_false] at hp
    subst hp
    refine ⟨T _ ⟨.tuple (rowT cs ++ [.int 0]), by simp, lrow _ (by simp [rl])⟩, t3 (fun q hq => ?_) (by simp)⟩
    simp at hq
    rw [hq]
    refine t2 (fun q hq => ?_) (by simp; omega)
    rcases List.mem_append.mp hq with h | h
    · exact rn q h
    · simp at h; rw [h]; decide
  · simp only [List.mem_cons, List.not_mem_nil, or_false] at hp
    have : cs.length = 1 ∨ cs.length = 2 ∨ cs.length = 3 ∨ cs.length = 4 := by omega
    have g : ∀ n : Nat, n = 1 ∨ n = 2 ∨ n = 3 ∨ n = 4 → fewP ((List.replicate (7 : Int).toNat [(List.replicate ((n : Nat) : Int).toNat [()]).flatten]).flatten.map (eT eN)) = false ∧ niceB 5 10000 (eT (eT eN) (List.replicate (7 : Int).toNat [(List.replicate ((n : Nat) : Int).toNat [()]).flatten]).flatten) = true := by
      intro n hn
      rcases hn with h | h | h | h <;> subst h <;> decide +kernel
    obtain ⟨g1, g2⟩ := g cs.length this
    rw [hp]
    refine ⟨?_, g2⟩
    show (_ && _ && _) = false
    rw [g1, Bool.and_false]
theorem g_bad_table {p : Pn} {cs : Cols} {K : PyData → Pn → Prop} (hc : ColsD cs) (hp : p.n + 3 < 2 ^ 31) (h : ∀ x p', badTab cs x = true → p'.n = p.n + 3 → K x p') : Gd true (m__law_bad_table cs) p K := by
  have h1 := hc.l1
  have h4 := hc.l4
  unfold m__law_bad_table b__law_bad_table
  try simp (implicitDefEqProofs := false) only [↓gd_bpk, ↓gd_bk, ↓gd_pk, ↓gd_ifT, ↓gd_ifF, ↓gd_ob, ↓gd_ex, obK_nx, obK_rt, exK_nx, exK_rt, cmp_lt, cmp_le, cmp_gt, cmp_ge, id_eq, Bool.false_eq_true, reduceIte, Bool.not_true, Bool.not_false, Bool.false_xor, Bool.true_xor, decide_eq_true_eq]
  refine gd_mM (g := fun c => .int (fst0 c)) (fun c hcm q K' hK => ?_) ?_
  · try simp (implicitDefEqProofs := false) only [↓gd_bpk, ↓gd_bk, ↓gd_pk, ↓gd_ifT, ↓gd_ifF, ↓gd_ob, ↓gd_ex, obK_nx, obK_rt, exK_nx, exK_rt, cmp_lt, cmp_le, cmp_gt, cmp_ge, id_eq, Bool.false_eq_true, reduceIte, Bool.not_true, Bool.not_false, Bool.false_xor, Bool.true_xor, decide_eq_true_eq]
    cases c with
    | none => exact hK
    | some l =>
      obtain ⟨n1, _⟩ := col_lists (hc.mem _ hcm) l rfl
      cases l with
      | nil => exact absurd rfl n1
      | cons a l =>
        have e : oAt (a :: l) 0 = some a := oAt_nat (l := a :: l) (i := 0) rfl
        have z : isNo (some (a :: l)) = false := rfl
        try simp (implicitDefEqProofs := false) only [↓gd_bpk, ↓gd_bk, ↓gd_pk, ↓gd_ifT, ↓gd_ifF, ↓gd_ob, ↓gd_ex, obK_nx, obK_rt, exK_nx, exK_rt, cmp_lt, cmp_le, cmp_gt, cmp_ge, id_eq, Bool.false_eq_true, reduceIte, Bool.not_true, Bool.not_false, Bool.false_xor, Bool.true_xor, decide_eq_true_eq, z, e]
        exact hK
  · try simp (implicitDefEqProofs := false) only [↓gd_bpk, ↓gd_bk, ↓gd_pk, ↓gd_ifT, ↓gd_ifF, ↓gd_ob, ↓gd_ex, obK_nx, obK_rt, exK_nx, exK_rt, cmp_lt, cmp_le, cmp_gt, cmp_ge, id_eq, Bool.false_eq_true, reduceIte, Bool.not_true, Bool.not_false, Bool.false_xor, Bool.true_xor, decide_eq_true_eq]
    have rl : (rowT cs).length = cs.length := by simp [rowT]
    refine gd_take (by omega) (by omega) (by omega) fun k p1 k0 k1 e1 => ?_
    try simp (implicitDefEqProofs := false) only [↓gd_bpk, ↓gd_bk, ↓gd_pk, ↓gd_ifT, ↓gd_ifF, ↓gd_ob, ↓gd_ex, obK_nx, obK_rt, exK_nx, exK_rt, cmp_lt, cmp_le, cmp_gt, cmp_ge, id_eq, Bool.false_eq_true, reduceIte, Bool.not_true, Bool.not_false, Bool.false_xor, Bool.true_xor, decide_eq_true_eq]
    obtain ⟨c, a1, a2, a3⟩ := oAt_in (l := cs) k0 k1
    refine gd_lk.mpr ⟨_, a1, ?_⟩
    try simp (implicitDefEqProofs := false) only [↓gd_bpk, ↓gd_bk, ↓gd_pk, ↓gd_ifT, ↓gd_ifF, ↓gd_ob, ↓gd_ex, obK_nx, obK_rt, exK_nx, exK_rt, cmp_lt, cmp_le, cmp_gt, cmp_ge, id_eq, Bool.false_eq_true, reduceIte, Bool.not_true, Bool.not_false, Bool.false_xor, Bool.true_xor, decide_eq_true_eq]
    have tail : ∀ (o : PyData) (p2 : Pn), o ∈ oddT c → p2.n = p.n + 2 → Gd true (lk true (oCat (cutG (rowT cs) none (some k)) [o])) p2 fun v p' =>
        Gd true (lk true (oCat v (cutG (rowT cs) (some (k + 1)) none))) p' fun v p' =>
          Gd true (lk true (oRep [rowT cs] 9)) p' fun v_1 p' =>
            Gd true (lk true (oCat [PyData.none, PyData.list [eT eA (rowT cs)], eT (eT eA) v_1, eT eA [eL eA (rowT cs)], eT eA [eT eA (cutG (rowT cs) (some 1) none)], PyData.str "0", eT eA (rowT cs)]
                  [PyData.tuple [eT eA (rowT cs), eT eA v, eT eA (rowT cs)], PyData.tuple [eT eA v], PyData.tuple [eT eA (rowT cs), eT eA (rowT cs), eT eA v]])) p' fun v p' =>
              Gd true (lk true (oCat (rowT cs) [PyData.int 0])) p' fun v_2 p' =>
                Gd true (lk true (oApp v (eT eA [eT eA v_2]))) p' fun v p' =>
                  Gd true (lk true (oRep [()] (cs.length : Int))) p' fun v_3 p' =>
                    Gd true (lk true (oRep [v_3] 7)) p' fun v_4 p' =>
                      Gd true (lk true (oCat v [eT (eT eN) v_4])) p' fun v p' =>
                        Gd true (m__law_one v) p' fun v p' => K v p' := fun o p2 ho e2 => by
      have cz1 : (cutG (rowT cs) none (some k)).length ≤ 4 := Nat.le_trans cut_len (by omega)
      have cz2 : (cutG (rowT cs) (some (k + 1)) none).length ≤ 4 := Nat.le_trans cut_len (by omega)
      refine gd_lk.mpr ⟨_, oCat_ok (by simp only [List.length_cons, List.length_nil]; omega), ?_⟩
      refine gd_lk.mpr ⟨_, oCat_ok (by simp only [List.length_append, List.length_cons, List.length_nil]; omega), ?_⟩
      refine gd_lk.mpr ⟨_, oRep_ok (by decide) (by decide) (by simp), ?_⟩
      refine gd_lk.mpr ⟨_, oCat_ok (by simp), ?_⟩
      refine gd_lk.mpr ⟨_, oCat_ok (by simp only [List.length_cons, List.length_nil]; omega), ?_⟩
      refine gd_lk.mpr ⟨_, oApp_ok (by simp), ?_⟩
      refine gd_lk.mpr ⟨_, oRep_ok (by omega) (by omega) (by simp), ?_⟩
      refine gd_lk.mpr ⟨_, oRep_ok (by decide) (by decide) (by simp), ?_⟩
      refine gd_lk.mpr ⟨_, oCat_ok (by simp), ?_⟩
      refine gd_one (by simp) (by simp) (by omega) fun x p3 hx e3 => ?_
      exact h x p3 (tabs_ok hc k0 k1 a2 ho x hx) (by omega)
    split
    · rename_i hz
      refine gd_one (by simp) (by simp) (by omega) fun o p2 ho e2 => ?_
      exact tail o p2 (by unfold oddT; rw [if_pos hz]; exact ho) (by omega)
    · rename_i hz
      refine gd_one (by simp) (by simp) (by omega) fun o p2 ho e2 => ?_
      exact tail o p2 (by unfold oddT; rw [if_neg hz]; exact ho) (by omega)
/-! demands -/
def shortsB : PyData → Bool
  | .tuple ps => ps.all shortB
  | _ => true
theorem shorts_ok {v : PyData} (h : shortsB v = true) : shortP v := fun ps e p hp qs e2 => by
  subst e
  have := List.all_eq_true.mp h p hp
  subst e2
  simpa [shortB] using this
def badDem (p : PyData) (m : Nat) : Bool := (match p with
  | .tuple ps => !(decide (ps.length ≤ 4) && ps.all (setP m))
  | _ => true) && shortsB p && niceB 5 10000 p
def demsAll (b s : PyData) : List PyData := (List.replicate (2 : Int).toNat [.tuple [eA b], .tuple [eA s, eA b], .tuple [eA b, eA s, eA s]]).flatten ++ [.tuple [eA s, eA s, eA b, eA s], .tuple [eA s, eA s, eA b]] ++ [.none, .list [eA s], .str "0", .int 7, eT eA (List.replicate (5 : Int).toNat [s]).flatten, .tuple [.str "0"], .list [.tuple []]]
theorem dems_ok {b s : PyData} {m : Nat} (hb : badSet b m = true) (hs : shortB s = true) (ns : niceB 3 1000 s = true) : ∀ p ∈ demsAll b s, badDem p m = true := by
  unfold badSet at hb
  simp only [Bool.and_eq_true, Bool.not_eq_true'] at hb
  obtain ⟨⟨hb1, hb2⟩, hb3⟩ := hb
  have eA1 : ∀ x, eA x = x := fun _ => rfl
  have t : ∀ ps : List PyData, (∀ q ∈ ps, q = b ∨ q = s) → ps.length ≤ 5 → niceB 5 10000 (.tuple ps) = true := fun ps h hl =>
    nice_mono (nice_tuple (d := 3) (w := 1000) (n := 5) (fun q hq => by rcases h q hq with e | e <;> rw [e] <;> assumption) hl) (by decide) (by decide)
  have tl : niceB 5 10000 (.list [s]) = true := nice_mono (nice_list (d := 3) (w := 1000) (n := 5) (fun q hq => by simp at hq; rw [hq]; exact ns) (by simp)) (by decide) (by decide)
  intro p hp
  simp only [demsAll, eA1, List.mem_append, List.mem_cons, List.mem_flatten, List.mem_replicate, List.not_mem_nil, or_false] at hp
  unfold badDem
  simp only [Bool.and_eq_true]
  rcases hp with (⟨l, ⟨_, rfl⟩, hp⟩ | hp) | hp
  · simp only [List.mem_cons, List.not_mem_nil, or_false] at hp
    rcases hp with rfl | rfl | rfl
    · exact ⟨⟨by simp [hb1], by simp [shortsB, hb2]⟩, t _ (by simp) (by simp)⟩
    · exact ⟨⟨by simp [hb1], by simp [shortsB, hb2, hs]⟩, t _ (by simp) (by simp)⟩
    · exact ⟨⟨by simp [hb1], by simp [shortsB, hb2, hs]⟩, t _ (by simp) (by simp)⟩
  · rcases hp with rfl | rfl
    · exact ⟨⟨by simp [hb1], by simp [shortsB, hb2, hs]⟩, t _ (by simp) (by simp)⟩
    · exact ⟨⟨by simp [hb1], by simp [shortsB, hb2, hs]⟩, t _ (by simp) (by simp)⟩
  · rcases hp with rfl | rfl | rfl | rfl | rfl | rfl | rfl
    · exact ⟨⟨rfl, rfl⟩, by decide +kernel⟩
    · exact ⟨⟨rfl, rfl⟩, tl⟩
    · exact ⟨⟨rfl, rfl⟩, by decide +kernel⟩
    · exact ⟨⟨rfl, rfl⟩, by decide +kernel⟩
    · have e : eT eA (List.replicate (5 : Int).toNat [s]).flatten = .tuple [s, s, s, s, s] := rfl
      rw [e]
      exact ⟨⟨by simp, by simp [shortsB, hs]⟩, t _ (by simp) (by simp)⟩
    · exact ⟨⟨by simp [setP], by decide⟩, by decide +kernel⟩
    · exact ⟨⟨rfl, rfl⟩, by decide +kernel⟩
theorem bad_dem {cs : Cols} {p : PyData} (h : badDem p cs.length = true) : demP cs p = false ∧ shortP p ∧ niceB 5 10000 p = true := by
  unfold badDem at h
  simp only [Bool.and_eq_true] at h
  obtain ⟨⟨h1, h2⟩, h3⟩ := h
  refine ⟨?_, shorts_ok h2, h3⟩
  cases p with
  | tuple ps => simpa only [Bool.not_eq_true', demP] using h1
  | _ => rfl
theorem set_len {n : Nat} {s : List Int} (h : SetD n s) (hn : n ≤ 4) : s.length ≤ 4 := by
  have e : s.length = (s.map Int.toNat).length := by simp
  have hi : (s.map Int.toNat).Pairwise (· < ·) := by
    rw [List.pairwise_map]
    exact List.Pairwise.imp_of_mem (fun ha hb hab => by have := h.inr _ ha; have := h.inr _ hb; omega) h.inc
  have hs : ∀ x ∈ s.map Int.toNat, x < 4 := fun x hx => by
    obtain ⟨y, hy, rfl⟩ := List.mem_map.mp hx
    have := h.inr y hy
    omega
  rw [e]
  exact Nat.le_trans (List.Nodup.length_le_of_subset (l₂ := List.range 4) (List.Pairwise.imp (fun h => Nat.ne_of_lt h) hi) (fun x hx => List.mem_range.mpr (hs x hx))) (by simp)
theorem set_nice {n : Nat} {s : List Int} (h : SetD n s) (hn : n ≤ 4) : niceB 3 1000 (eT eI s) = true := by
  refine nice_mono (nice_tuple (d := 0) (w := 60) (n := 4) (fun q hq => ?_) (by rw [List.length_map]; exact set_len h hn)) (by decide) (by decide)
  obtain ⟨x, hx, rfl⟩ := List.mem_map.mp hq
  have := h.inr x hx
  refine nice_iff.mpr ⟨decide_eq_true ?_, Nat.le_refl _, Nat.le_refl _⟩
  have : x.natAbs < 4 := by omega
  exact Nat.lt_of_lt_of_le this (by decide)
theorem g_bad_demand {p : Pn} {m : Nat} {K : PyData → Pn → Prop} (h1 : 1 ≤ m) (h4 : m ≤ 4) (hp : p.n + 6 < 2 ^ 31) (h : ∀ x p', badDem x m = true → p'.n ≤ p.n + 6 → K x p') : Gd true (m__law_bad_demand (m : Int)) p K := by
  unfold m__law_bad_demand b__law_bad_demand
  try simp (implicitDefEqProofs := false) only [↓gd_bpk, ↓gd_bk, ↓gd_pk, ↓gd_ifT, ↓gd_ifF, ↓gd_ob, ↓gd_ex, obK_nx, obK_rt, exK_nx, exK_rt, cmp_lt, cmp_le, cmp_gt, cmp_ge, id_eq, Bool.false_eq_true, reduceIte, Bool.not_true, Bool.not_false, Bool.false_xor, Bool.true_xor, decide_eq_true_eq]
  refine g_bad_set h1 h4 (by omega) fun b p1 hb e1 => ?_
  try simp (implicitDefEqProofs := false) only [↓gd_bpk, ↓gd_bk, ↓gd_pk, ↓gd_ifT, ↓gd_ifF, ↓gd_ob, ↓gd_ex, obK_nx, obK_rt, exK_nx, exK_rt, cmp_lt, cmp_le, cmp_gt, cmp_ge, id_eq, Bool.false_eq_true, reduceIte, Bool.not_true, Bool.not_false, Bool.false_xor, Bool.true_xor, decide_eq_true_eq]
  refine g_set h4 (by omega) fun s p2 hs e2 => ?_
  try simp (implicitDefEqProofs := false) only [↓gd_bpk, ↓gd_bk, ↓gd_pk, ↓gd_ifT, ↓gd_ifF, ↓gd_ob, ↓gd_ex, obK_nx, obK_rt, exK_nx, exK_rt, cmp_lt, cmp_le, cmp_gt, cmp_ge, id_eq, Bool.false_eq_true, reduceIte, Bool.not_true, Bool.not_false, Bool.false_xor, Bool.true_xor, decide_eq_true_eq]
  have hl := set_len hs h4
  refine gd_lk.mpr ⟨_, oRep_ok (by decide) (by decide) (by simp), ?_⟩
  try simp (implicitDefEqProofs := false) only [↓gd_bpk, ↓gd_bk, ↓gd_pk, ↓gd_ifT, ↓gd_ifF, ↓gd_ob, ↓gd_ex, obK_nx, obK_rt, exK_nx, exK_rt, cmp_lt, cmp_le, cmp_gt, cmp_ge, id_eq, Bool.false_eq_true, reduceIte, Bool.not_true, Bool.not_false, Bool.false_xor, Bool.true_xor, decide_eq_true_eq]
  refine gd_lk.mpr ⟨_, oCat_ok (by simp), ?_⟩
  try simp (implicitDefEqProofs := false) only [↓gd_bpk, ↓gd_bk, ↓gd_pk, ↓gd_ifT, ↓gd_ifF, ↓gd_ob, ↓gd_ex, obK_nx, obK_rt, exK_nx, exK_rt, cmp_lt, cmp_le, cmp_gt, cmp_ge, id_eq, Bool.false_eq_true, reduceIte, Bool.not_true, Bool.not_false, Bool.false_xor, Bool.true_xor, decide_eq_true_eq]
  refine gd_lk.mpr ⟨_, oRep_ok (by decide) (by decide) (by simp), ?_⟩
  try simp (implicitDefEqProofs := false) only [↓gd_bpk, ↓gd_bk, ↓gd_pk, ↓gd_ifT, ↓gd_ifF, ↓gd_ob, ↓gd_ex, obK_nx, obK_rt, exK_nx, exK_rt, cmp_lt, cmp_le, cmp_gt, cmp_ge, id_eq, Bool.false_eq_true, reduceIte, Bool.not_true, Bool.not_false, Bool.false_xor, Bool.true_xor, decide_eq_true_eq]
  refine gd_lk.mpr ⟨_, oCat_ok (by simp), ?_⟩
  try simp (implicitDefEqProofs := false) only [↓gd_bpk, ↓gd_bk, ↓gd_pk, ↓gd_ifT, ↓gd_ifF, ↓gd_ob, ↓gd_ex, obK_nx, obK_rt, exK_nx, exK_rt, cmp_lt, cmp_le, cmp_gt, cmp_ge, id_eq, Bool.false_eq_true, reduceIte, Bool.not_true, Bool.not_false, Bool.false_xor, Bool.true_xor, decide_eq_true_eq]
  refine gd_one (by simp) (by simp) (by omega) fun x p3 hx e3 => ?_
  try simp (implicitDefEqProofs := false) only [↓gd_bpk, ↓gd_bk, ↓gd_pk, ↓gd_ifT, ↓gd_ifF, ↓gd_ob, ↓gd_ex, obK_nx, obK_rt, exK_nx, exK_rt, cmp_lt, cmp_le, cmp_gt, cmp_ge, id_eq, Bool.false_eq_true, reduceIte, Bool.not_true, Bool.not_false, Bool.false_xor, Bool.true_xor, decide_eq_true_eq]
  exact h x p3 (dems_ok hb (by simp [shortB, eT]; omega) (set_nice hs h4) x hx) (by omega)
end Q92
end
section
set_option maxHeartbeats 4000000
namespace Q92
open PySem PySem.Spec PyProof.Rows L2 SK
/-! ### plain: the law -/
theorem cols_ok {cs : Cols} (h : ColsD cs) : colsP (eC cs) = true ∧ ColOk cs.length cs := by
  refine ⟨?_, rfl, fun l hl => ?_⟩
  · have h1 := h.l1
    have h4 := h.l4
    show (_ && _ && _) = true
    rw [List.length_map, decide_eq_true h1, decide_eq_true h4, Bool.true_and, Bool.true_and, List.all_map, List.all_eq_true]
    intro c hc
    have hm := h.mem c hc
    simp only [colL, List.mem_cons, List.not_mem_nil, or_false] at hm
    rcases hm with q | q | q | q | q | q | q | q <;> subst q <;> decide +kernel
  · exact (col_lists (h.mem _ hl) l rfl).2.1
theorem row_ok {cs : Cols} {r : Row} (h : rowE cs r = true) : rowP cs (eT (eO eI) r) = true ∧ r.length = cs.length := by
  unfold rowE at h
  simp only [Bool.and_eq_true, decide_eq_true_eq] at h
  refine ⟨?_, h.1⟩
  show (_ && _) = true
  rw [List.length_map, decide_eq_true h.1, Bool.true_and, List.all_eq_true]
  intro q hq
  rw [List.zip_map_right] at hq
  obtain ⟨z, hz, rfl⟩ := List.mem_map.mp hq
  have := List.all_eq_true.mp h.2 z hz
  simp only [Prod.map, id]
  cases e : z.2 with
  | none => rfl
  | some v =>
    rw [e] at this
    simp only [okE, Bool.and_eq_true] at this
    show (_ || vofP z.1 (.int v)) = true
    rw [this.2, Bool.or_true]
theorem cnt_eq (r : Row) : oCnt r none = ((r.count none : Nat) : Int) := by
  unfold oCnt
  congr 1
  induction r with
  | nil => rfl
  | cons a r ih => simp only [List.count_cons, ih]; cases a <;> rfl
theorem cnt_sum (t : Tab) : (t.map fun r => oCnt r none).sum = (unkN t : Int) := by
  unfold unkN
  induction t with
  | nil => rfl
  | cons a t ih =>
    rw [List.map_cons, List.sum_cons, List.map_cons, List.sum_cons, ih, cnt_eq]
    omega
theorem tab_ok {cs : Cols} (hc : ColsD cs) {m : Nat} (hm : m ≤ 8) {t : Tab} (h : TabD cs m 4 t) : tabP cs (eTab t) = true ∧ TabOk cs.length t ∧ unkN t ≤ 6 := by
  have hu := h.unk
  refine ⟨?_, ⟨by rw [h.len]; exact hm, fun r hr => (row_ok (h.row r hr)).2, hc.l4⟩, by omega⟩
  show (_ && _ && _) = true
  rw [List.length_map, decide_eq_true (by rw [h.len]; exact hm), Bool.true_and]
  have e1 : (t.map (eT (eO eI))).all (rowP cs) = true := by
    rw [List.all_map, List.all_eq_true]
    exact fun r hr => (row_ok (h.row r hr)).1
  rw [e1, Bool.true_and]
  unfold fewP
  rw [show dAll (SK.dT (SK.dO dI)) (t.map (eT (eO eI))) = some t from dAll_map d_row t]
  show decide _ = true
  rw [cnt_sum]
  exact decide_eq_true (by omega)
theorem set_ok {n : Nat} {s : List Int} (h : SetD n s) : setP n (eT eI s) = true := by
  show (_ && _) = true
  have e1 : (s.map eI).all (fun p => btwP p 0 ((n : Int) - 1)) = true := by
    rw [List.all_map, List.all_eq_true]
    intro x hx
    have := h.inr x hx
    show (decide _ && decide _) = true
    rw [decide_eq_true this.1, decide_eq_true (by omega)]
    rfl
  rw [e1, Bool.true_and]
  unfold incP
  rw [show dAll dI (s.map eI) = some s from dAll_map dI_e s]
  exact decide_eq_true (sortU_of h.inc fun _ => Iff.rfl)
theorem dem_ok {cs : Cols} (hc : ColsD cs) {s : List Int} (h : SetD cs.length s) : demP cs (eD [s]) = true ∧ shortP (eD [s]) ∧ DemOk cs.length [s] := by
  have h4 := hc.l4
  have hl := set_len h h4
  refine ⟨?_, shorts_ok (by simp [shortsB, shortB, eT]; omega), by simp, fun s' hs' => ?_⟩
  · show (_ && _) = true
    simp [set_ok h]
  · simp at hs'
    rw [hs']
    exact h.inr
/-! data that can be shown -/
theorem col_nice {c : Option (List Int)} (h : c ∈ colL) : niceB 1 300 (eO (eT eI) c) = true := by
  simp only [colL, List.mem_cons, List.not_mem_nil, or_false] at h
  rcases h with q | q | q | q | q | q | q | q <;> subst q <;> decide +kernel
theorem cols_nice {cs : Cols} (h : ColsD cs) : niceB 5 10000 (eC cs) = true :=
  nice_mono (nice_tuple (d := 1) (w := 300) (n := 4) (fun q hq => by obtain ⟨c, hc, rfl⟩ := List.mem_map.mp hq; exact col_nice (h.mem c hc)) (by rw [List.length_map]; exact h.l4)) (by decide) (by decide)
theorem row_nice {cs : Cols} (hc : ColsD cs) {r : Row} (h : rowE cs r = true) : niceB 1 300 (eT (eO eI) r) = true := by
  have hl := (row_ok h).2
  unfold rowE at h
  simp only [Bool.and_eq_true, decide_eq_true_eq] at h
  refine nice_mono (nice_tuple (d := 0) (w := 60) (n := 4) (fun q hq => ?_) (by rw [List.length_map, hl]; exact hc.l4)) (by decide) (by decide)
  obtain ⟨e, he, rfl⟩ := List.mem_map.mp hq
  cases e with
  | none => decide
  | some v =>
    obtain ⟨i, hi, ei⟩ := List.getElem_of_mem he
    have hz : (cs[i]'(by omega), r[i]) ∈ cs.zip r := by
      rw [← List.getElem_zip (h := by simp; omega)]
      exact List.getElem_mem _
    have := List.all_eq_true.mp h.2 _ hz
    rw [ei] at this
    simp only [okE, Bool.and_eq_true, decide_eq_true_eq] at this
    exact nice_iff.mpr ⟨decide_eq_true this.1, Nat.le_refl _, Nat.le_refl _⟩
theorem tab_nice {cs : Cols} (hc : ColsD cs) {m : Nat} (hm : m ≤ 8) {t : Tab} (h : TabD cs m 4 t) : niceB 5 10000 (eTab t) = true :=
  nice_mono (nice_tuple (d := 1) (w := 300) (n := 8) (fun q hq => by obtain ⟨r, hr, rfl⟩ := List.mem_map.mp hq; exact row_nice hc (h.row r hr)) (by rw [List.length_map, h.len]; exact hm)) (by decide) (by decide)
theorem dem_nice {n : Nat} (hn : n ≤ 4) {s : List Int} (h : SetD n s) : niceB 5 10000 (eD [s]) = true :=
  nice_mono (nice_tuple (d := 3) (w := 1000) (n := 1) (fun q hq => by simp at hq; rw [hq]; exact set_nice h hn) (by simp)) (by decide) (by decide)
theorem thing_nice {p : PyData} (h : p ∈ things) : niceB 5 10000 p = true := (by decide +kernel : ∀ p ∈ things, niceB 5 10000 p = true) p h
theorem repr_ok {l : List PyData} (h : ∀ p ∈ l, niceB 5 10000 p = true) (hl : l.length ≤ 4) : ∃ s, oRepr (eL eA l) = some s := by
  have e : eL eA l = .list l := by simp [eL, eA]
  rw [e]
  have := nice_list (d := 5) (w := 10000) (n := 4) h hl
  obtain ⟨a, b, c⟩ := nice_iff.mp this
  obtain ⟨h1, h2, h3, h4⟩ := nice_repr a (by omega) (by omega)
  exact ⟨_, if_pos ⟨rfl, h1, h2, h3, h4⟩⟩
theorem bad3 (b0 b1 b2 : PyData) : oAt [b0, b1, b2] 0 = some b0 ∧ oAt [b0, b1, b2] 1 = some b1 ∧ oAt [b0, b1, b2] 2 = some b2 :=
  ⟨oAt_nat (l := [b0, b1, b2]) (i := 0) rfl, oAt_nat (l := [b0, b1, b2]) (i := 1) rfl, oAt_nat (l := [b0, b1, b2]) (i := 2) rfl⟩
theorem set4 (x0 x1 x2 x3 b : PyData) : oSet [x0, x1, x2, x3] 0 b = some [b, x1, x2, x3] ∧ oSet [x0, x1, x2, x3] 1 b = some [x0, b, x2, x3] ∧ oSet [x0, x1, x2, x3] 2 b = some [x0, x1, b, x3] := ⟨rfl, rfl, rfl⟩
theorem words3 : oAt [("columns" : Str), "table", "demand"] 0 = some ("columns" : Str) ∧ oAt [("columns" : Str), "table", "demand"] 1 = some ("table" : Str) ∧ oAt [("columns" : Str), "table", "demand"] 2 = some ("demand" : Str) :=
  ⟨oAt_nat (l := [("columns" : Str), "table", "demand"]) (i := 0) rfl, oAt_nat (l := [("columns" : Str), "table", "demand"]) (i := 1) rfl, oAt_nat (l := [("columns" : Str), "table", "demand"]) (i := 2) rfl⟩
/-- while entries are put in -/
def AtOk (g0 g1 g2 b0 b1 b2 th : PyData) (k : Int) (N : Nat) (l : List Int) (s : List PyData) (q : Pn) : Prop :=
  ∃ x0 x1 x2, s = [x0, x1, x2, th] ∧ (∀ x ∈ l, 0 ≤ x ∧ x < 3) ∧ ((x0 = g0 ∧ (k = 0 → 0 ∈ l)) ∨ (x0 = b0 ∧ k = 0)) ∧ ((x1 = g1 ∧ (k = 1 → 1 ∈ l)) ∨ (x1 = b1 ∧ k ≤ 1)) ∧ ((x2 = g2 ∧ (k = 2 → 2 ∈ l)) ∨ x2 = b2) ∧ q.n + l.length ≤ N
section
variable {g0 g1 g2 b0 b1 b2 th : PyData} {k : Int} {N : Nat} {x : Int} {l : List Int} {s : List PyData} {q : Pn}
theorem at_keep (h : AtOk g0 g1 g2 b0 b1 b2 th k N (x :: l) s q) (hx : x ≠ k) {q2 : Pn} (hq : q2.n ≤ q.n + 1) : AtOk g0 g1 g2 b0 b1 b2 th k N l s q2 := by
  obtain ⟨x0, x1, x2, e, hm, a0, a1, a2, hn⟩ := h
  rw [List.length_cons] at hn
  refine ⟨x0, x1, x2, e, fun y hy => hm y (List.mem_cons_of_mem _ hy), ?_, ?_, ?_, by omega⟩
  · rcases a0 with ⟨a, b⟩ | a
    · refine .inl ⟨a, fun e => ?_⟩
      rcases List.mem_cons.mp (b e) with c | c
      · omega
      · exact c
    · exact .inr a
  · rcases a1 with ⟨a, b⟩ | a
    · refine .inl ⟨a, fun e => ?_⟩
      rcases List.mem_cons.mp (b e) with c | c
      · omega
      · exact c
    · exact .inr a
  · rcases a2 with ⟨a, b⟩ | a
    · refine .inl ⟨a, fun e => ?_⟩
      rcases List.mem_cons.mp (b e) with c | c
      · omega
      · exact c
    · exact .inr a
theorem at_put (h : AtOk g0 g1 g2 b0 b1 b2 th k N (x :: l) s q) (hk : 0 ≤ k) (hx : k ≤ x) {q2 : Pn} (hq : q2.n ≤ q.n + 1) : ∃ b, oAt [b0, b1, b2] x = some b ∧ ∃ s', oSet s x b = some s' ∧ AtOk g0 g1 g2 b0 b1 b2 th k N l s' q2 := by
  obtain ⟨x0, x1, x2, rfl, hm, a0, a1, a2, hn⟩ := h
  rw [List.length_cons] at hn
  have hx3 := hm x (List.mem_cons_self ..)
  have hm' : ∀ y ∈ l, 0 ≤ y ∧ y < 3 := fun y hy => hm y (List.mem_cons_of_mem _ hy)
  have hc : x = 0 ∨ x = 1 ∨ x = 2 := by omega
  obtain ⟨c0, c1, c2⟩ := bad3 b0 b1 b2
  rcases hc with rfl | rfl | rfl
  · refine ⟨_, c0, _, (set4 x0 x1 x2 th _).1, _, _, _, rfl, hm', .inr ⟨rfl, by omega⟩, ?_, ?_, by omega⟩
    · rcases a1 with ⟨a, b⟩ | a
      · exact .inl ⟨a, fun e => by omega⟩
      · exact .inr a
    · rcases a2 with ⟨a, b⟩ | a
      · exact .inl ⟨a, fun e => by omega⟩
      · exact .inr a
  · refine ⟨_, c1, _, (set4 x0 x1 x2 th _).2.1, _, _, _, rfl, hm', ?_, .inr ⟨rfl, hx⟩, ?_, by omega⟩
    · rcases a0 with ⟨a, b⟩ | a
      · refine .inl ⟨a, fun e => ?_⟩
        rcases List.mem_cons.mp (b e) with c | c
        · omega
        · exact c
      · exact .inr a
    · rcases a2 with ⟨a, b⟩ | a
      · exact .inl ⟨a, fun e => by omega⟩
      · exact .inr a
  · refine ⟨_, c2, _, (set4 x0 x1 x2 th _).2.2, _, _, _, rfl, hm', ?_, ?_, .inr rfl, by omega⟩
    · rcases a0 with ⟨a, b⟩ | a
      · refine .inl ⟨a, fun e => ?_⟩
        rcases List.mem_cons.mp (b e) with c | c
        · omega
        · exact c
      · exact .inr a
    · rcases a1 with ⟨a, b⟩ | a
      · refine .inl ⟨a, fun e => ?_⟩
        rcases List.mem_cons.mp (b e) with c | c
        · omega
        · exact c
      · exact .inr a
end
theorem plain_law (p : Pn) (hp : p.n = 0) : ∃ p', m_law p = some (true, p') := by
  suffices h : Gd true m_law p (fun v _ => v = true) by
    obtain ⟨v, p', e, hv⟩ := h
    subst hv
    exact ⟨p', e⟩
  unfold m_law b_law
  try simp (implicitDefEqProofs := false) only [↓gd_bpk, ↓gd_bk, ↓gd_pk, ↓gd_ifT, ↓gd_ifF, ↓gd_ob, ↓gd_ex, obK_nx, obK_rt, exK_nx, exK_rt, cmp_lt, cmp_le, cmp_gt, cmp_ge, id_eq, Bool.false_eq_true, reduceIte, Bool.not_true, Bool.not_false, Bool.false_xor, Bool.true_xor, decide_eq_true_eq]
  refine gd_lk.mpr ⟨_, rng_ok (by decide) (by decide) (by decide) (by decide), ?_⟩
  try simp (implicitDefEqProofs := false) only [↓gd_bpk, ↓gd_bk, ↓gd_pk, ↓gd_ifT, ↓gd_ifF, ↓gd_ob, ↓gd_ex, obK_nx, obK_rt, exK_nx, exK_rt, cmp_lt, cmp_le, cmp_gt, cmp_ge, id_eq, Bool.false_eq_true, reduceIte, Bool.not_true, Bool.not_false, Bool.false_xor, Bool.true_xor, decide_eq_true_eq]
  refine gd_for (I := fun l s q => q.n + 200 * l.length ≤ 1800) (by rw [rng_len, hp]; decide) (fun x l s q hI => ?_) (fun s q hI => ?_)
  · rw [List.length_cons] at hI
    try simp (implicitDefEqProofs := false) only [↓gd_bpk, ↓gd_bk, ↓gd_pk, ↓gd_ifT, ↓gd_ifF, ↓gd_ob, ↓gd_ex, obK_nx, obK_rt, exK_nx, exK_rt, cmp_lt, cmp_le, cmp_gt, cmp_ge, id_eq, Bool.false_eq_true, reduceIte, Bool.not_true, Bool.not_false, Bool.false_xor, Bool.true_xor, decide_eq_true_eq]
    refine g_columns (by omega) fun cs p1 hc n1 => ?_
    try simp (implicitDefEqProofs := false) only [↓gd_bpk, ↓gd_bk, ↓gd_pk, ↓gd_ifT, ↓gd_ifF, ↓gd_ob, ↓gd_ex, obK_nx, obK_rt, exK_nx, exK_rt, cmp_lt, cmp_le, cmp_gt, cmp_ge, id_eq, Bool.false_eq_true, reduceIte, Bool.not_true, Bool.not_false, Bool.false_xor, Bool.true_xor, decide_eq_true_eq]
    refine gd_one (by simp) (by decide) (by omega) fun m p2 hm n2 => ?_
    try simp (implicitDefEqProofs := false) only [↓gd_bpk, ↓gd_bk, ↓gd_pk, ↓gd_ifT, ↓gd_ifF, ↓gd_ob, ↓gd_ex, obK_nx, obK_rt, exK_nx, exK_rt, cmp_lt, cmp_le, cmp_gt, cmp_ge, id_eq, Bool.false_eq_true, reduceIte, Bool.not_true, Bool.not_false, Bool.false_xor, Bool.true_xor, decide_eq_true_eq]
    obtain ⟨m', rfl, hm8⟩ : ∃ m' : Nat, m = (m' : Int) ∧ m' ≤ 8 := by
      simp only [List.mem_cons, List.not_mem_nil, or_false] at hm
      exact ⟨m.toNat, by omega, by omega⟩
    refine g_table hc hm8 (by omega) fun t p3 ht n3 => ?_
    try simp (implicitDefEqProofs := false) only [↓gd_bpk, ↓gd_bk, ↓gd_pk, ↓gd_ifT, ↓gd_ifF, ↓gd_ob, ↓gd_ex, obK_nx, obK_rt, exK_nx, exK_rt, cmp_lt, cmp_le, cmp_gt, cmp_ge, id_eq, Bool.false_eq_true, reduceIte, Bool.not_true, Bool.not_false, Bool.false_xor, Bool.true_xor, decide_eq_true_eq]
    refine g_set (by have := hc.l4; omega) (by omega) fun d p4 hd n4 => ?_
    try simp (implicitDefEqProofs := false) only [↓gd_bpk, ↓gd_bk, ↓gd_pk, ↓gd_ifT, ↓gd_ifF, ↓gd_ob, ↓gd_ex, obK_nx, obK_rt, exK_nx, exK_rt, cmp_lt, cmp_le, cmp_gt, cmp_ge, id_eq, Bool.false_eq_true, reduceIte, Bool.not_true, Bool.not_false, Bool.false_xor, Bool.true_xor, decide_eq_true_eq]
    refine g_bad_columns (by omega) fun b0 p5 hb0 n5 => ?_
    try simp (implicitDefEqProofs := false) only [↓gd_bpk, ↓gd_bk, ↓gd_pk, ↓gd_ifT, ↓gd_ifF, ↓gd_ob, ↓gd_ex, obK_nx, obK_rt, exK_nx, exK_rt, cmp_lt, cmp_le, cmp_gt, cmp_ge, id_eq, Bool.false_eq_true, reduceIte, Bool.not_true, Bool.not_false, Bool.false_xor, Bool.true_xor, decide_eq_true_eq]
    refine g_bad_table hc (by omega) fun b1 p6 hb1 n6 => ?_
    try simp (implicitDefEqProofs := false) only [↓gd_bpk, ↓gd_bk, ↓gd_pk, ↓gd_ifT, ↓gd_ifF, ↓gd_ob, ↓gd_ex, obK_nx, obK_rt, exK_nx, exK_rt, cmp_lt, cmp_le, cmp_gt, cmp_ge, id_eq, Bool.false_eq_true, reduceIte, Bool.not_true, Bool.not_false, Bool.false_xor, Bool.true_xor, decide_eq_true_eq]
    refine g_bad_demand hc.l1 hc.l4 (by omega) fun b2 p7 hb2 n7 => ?_
    try simp (implicitDefEqProofs := false) only [↓gd_bpk, ↓gd_bk, ↓gd_pk, ↓gd_ifT, ↓gd_ifF, ↓gd_ob, ↓gd_ex, obK_nx, obK_rt, exK_nx, exK_rt, cmp_lt, cmp_le, cmp_gt, cmp_ge, id_eq, Bool.false_eq_true, reduceIte, Bool.not_true, Bool.not_false, Bool.false_xor, Bool.true_xor, decide_eq_true_eq]
    refine gd_lk.mpr ⟨_, oApp_ok (by simp), ?_⟩
    try simp (implicitDefEqProofs := false) only [↓gd_bpk, ↓gd_bk, ↓gd_pk, ↓gd_ifT, ↓gd_ifF, ↓gd_ob, ↓gd_ex, obK_nx, obK_rt, exK_nx, exK_rt, cmp_lt, cmp_le, cmp_gt, cmp_ge, id_eq, Bool.false_eq_true, reduceIte, Bool.not_true, Bool.not_false, Bool.false_xor, Bool.true_xor, decide_eq_true_eq]
    refine gd_one (by simp) (by decide) (by omega) fun th p8 hth n8 => ?_
    try simp (implicitDefEqProofs := false) only [↓gd_bpk, ↓gd_bk, ↓gd_pk, ↓gd_ifT, ↓gd_ifF, ↓gd_ob, ↓gd_ex, obK_nx, obK_rt, exK_nx, exK_rt, cmp_lt, cmp_le, cmp_gt, cmp_ge, id_eq, Bool.false_eq_true, reduceIte, Bool.not_true, Bool.not_false, Bool.false_xor, Bool.true_xor, decide_eq_true_eq]
    refine gd_lk.mpr ⟨_, rng_ok (by decide) (by decide) (by decide) (by decide), ?_⟩
    try simp (implicitDefEqProofs := false) only [↓gd_bpk, ↓gd_bk, ↓gd_pk, ↓gd_ifT, ↓gd_ifF, ↓gd_ob, ↓gd_ex, obK_nx, obK_rt, exK_nx, exK_rt, cmp_lt, cmp_le, cmp_gt, cmp_ge, id_eq, Bool.false_eq_true, reduceIte, Bool.not_true, Bool.not_false, Bool.false_xor, Bool.true_xor, decide_eq_true_eq]
    obtain ⟨co1, co2⟩ := cols_ok hc
    obtain ⟨to1, to2, to3⟩ := tab_ok hc hm8 ht
    obtain ⟨do1, do2, do3⟩ := dem_ok hc hd
    have G : Good4 cs t [d] := ⟨co1, to1, do1, do2, co2, to2, do3, to3⟩
    have hb0 : colsP b0 = false ∧ niceB 5 10000 b0 = true := by simpa [badCols] using hb0
    have hb1 : tabP cs b1 = false ∧ niceB 5 10000 b1 = true := by simpa [badTab] using hb1
    have hb2 := bad_dem hb2
    have N0 := cols_nice hc
    have N1 := tab_nice hc hm8 ht
    have N2 := dem_nice hc.l4 hd
    have N3 := thing_nice hth
    refine gd_for (I := fun l' s' q' => q'.n + 9 * l'.length + 200 * l.length ≤ 1750) (by rw [rng_len]; simp; omega) (fun sort l' s' q' hJ => ?_) (fun s' q' hJ => ?_)
    · rw [List.length_cons] at hJ
      try simp (implicitDefEqProofs := false) only [↓gd_bpk, ↓gd_bk, ↓gd_pk, ↓gd_ifT, ↓gd_ifF, ↓gd_ob, ↓gd_ex, obK_nx, obK_rt, exK_nx, exK_rt, cmp_lt, cmp_le, cmp_gt, cmp_ge, id_eq, Bool.false_eq_true, reduceIte, Bool.not_true, Bool.not_false, Bool.false_xor, Bool.true_xor, decide_eq_true_eq]
      refine gd_lk.mpr ⟨_, rng_ok (by decide) (by decide) (by decide) (by decide), ?_⟩
      try simp (implicitDefEqProofs := false) only [↓gd_bpk, ↓gd_bk, ↓gd_pk, ↓gd_ifT, ↓gd_ifF, ↓gd_ob, ↓gd_ex, obK_nx, obK_rt, exK_nx, exK_rt, cmp_lt, cmp_le, cmp_gt, cmp_ge, id_eq, Bool.false_eq_true, reduceIte, Bool.not_true, Bool.not_false, Bool.false_xor, Bool.true_xor, decide_eq_true_eq]
      refine gd_for (I := fun l2 s2 q2 => (∀ k ∈ l2, 0 ≤ k ∧ k < 3) ∧ q2.n + 3 * l2.length + 9 * l'.length + 200 * l.length ≤ 1750) ⟨fun k hk => mem_rng.mp hk, by rw [rng_len]; simp; omega⟩ (fun k l2 s2 q2 hL => ?_) (fun s2 q2 hL => ?_)
      · obtain ⟨hk, hL⟩ := hL
        have hk3 := hk k (List.mem_cons_self ..)
        rw [List.length_cons] at hL
        try simp (implicitDefEqProofs := false) only [↓gd_bpk, ↓gd_bk, ↓gd_pk, ↓gd_ifT, ↓gd_ifF, ↓gd_ob, ↓gd_ex, obK_nx, obK_rt, exK_nx, exK_rt, cmp_lt, cmp_le, cmp_gt, cmp_ge, id_eq, Bool.false_eq_true, reduceIte, Bool.not_true, Bool.not_false, Bool.false_xor, Bool.true_xor, decide_eq_true_eq]
        refine gd_lk.mpr ⟨_, rng_ok (by decide) (by decide) (by decide) (by decide), ?_⟩
        try simp (implicitDefEqProofs := false) only [↓gd_bpk, ↓gd_bk, ↓gd_pk, ↓gd_ifT, ↓gd_ifF, ↓gd_ob, ↓gd_ex, obK_nx, obK_rt, exK_nx, exK_rt, cmp_lt, cmp_le, cmp_gt, cmp_ge, id_eq, Bool.false_eq_true, reduceIte, Bool.not_true, Bool.not_false, Bool.false_xor, Bool.true_xor, decide_eq_true_eq]
        refine gd_for (I := AtOk (eC cs) (eTab t) (eD [d]) b0 b1 b2 th k (q2.n + 3)) ⟨_, _, _, rfl, fun y hy => mem_rng.mp hy, .inl ⟨rfl, fun _ => mem_rng.mpr (by decide)⟩, .inl ⟨rfl, fun _ => mem_rng.mpr (by decide)⟩, .inl ⟨rfl, fun _ => mem_rng.mpr (by decide)⟩, by rw [rng_len]; simp⟩ (fun x l3 s3 q3 hM => ?_) (fun s3 q3 hM => ?_)
        · try simp (implicitDefEqProofs := false) only [↓gd_bpk, ↓gd_bk, ↓gd_pk, ↓gd_ifT, ↓gd_ifF, ↓gd_ob, ↓gd_ex, obK_nx, obK_rt, exK_nx, exK_rt, cmp_lt, cmp_le, cmp_gt, cmp_ge, id_eq, Bool.false_eq_true, reduceIte, Bool.not_true, Bool.not_false, Bool.false_xor, Bool.true_xor, decide_eq_true_eq]
          by_cases hxk : x = k
          · rw [if_pos hxk]
            obtain ⟨b, e1, s4, e2, h4⟩ := at_put hM hk3.1 (by omega) (q2 := q3) (by omega)
            refine gd_lk.mpr ⟨_, e1, ?_⟩
            try simp (implicitDefEqProofs := false) only [↓gd_bpk, ↓gd_bk, ↓gd_pk, ↓gd_ifT, ↓gd_ifF, ↓gd_ob, ↓gd_ex, obK_nx, obK_rt, exK_nx, exK_rt, cmp_lt, cmp_le, cmp_gt, cmp_ge, id_eq, Bool.false_eq_true, reduceIte, Bool.not_true, Bool.not_false, Bool.false_xor, Bool.true_xor, decide_eq_true_eq]
            refine gd_lk.mpr ⟨_, e2, ?_⟩
            try simp (implicitDefEqProofs := false) only [↓gd_bpk, ↓gd_bk, ↓gd_pk, ↓gd_ifT, ↓gd_ifF, ↓gd_ob, ↓gd_ex, obK_nx, obK_rt, exK_nx, exK_rt, cmp_lt, cmp_le, cmp_gt, cmp_ge, id_eq, Bool.false_eq_true, reduceIte, Bool.not_true, Bool.not_false, Bool.false_xor, Bool.true_xor, decide_eq_true_eq]
            exact h4
          · rw [if_neg hxk]
            by_cases hlt : k < x
            · rw [if_pos hlt]
              have hN : q3.n ≤ q2.n + 3 := by obtain ⟨_, _, _, _, _, _, _, _, hn⟩ := hM; omega
              refine gd_take (by decide) (by decide) (by omega) fun z q4 z0 z1 e4 => ?_
              try simp (implicitDefEqProofs := false) only [↓gd_bpk, ↓gd_bk, ↓gd_pk, ↓gd_ifT, ↓gd_ifF, ↓gd_ob, ↓gd_ex, obK_nx, obK_rt, exK_nx, exK_rt, cmp_lt, cmp_le, cmp_gt, cmp_ge, id_eq, Bool.false_eq_true, reduceIte, Bool.not_true, Bool.not_false, Bool.false_xor, Bool.true_xor, decide_eq_true_eq]
              by_cases hz : z = 0
              · rw [if_pos hz]
                obtain ⟨b, e1, s4, e2, h4⟩ := at_put hM hk3.1 (by omega) (q2 := q4) (by omega)
                refine gd_lk.mpr ⟨_, e1, ?_⟩
                try simp (implicitDefEqProofs := false) only [↓gd_bpk, ↓gd_bk, ↓gd_pk, ↓gd_ifT, ↓gd_ifF, ↓gd_ob, ↓gd_ex, obK_nx, obK_rt, exK_nx, exK_rt, cmp_lt, cmp_le, cmp_gt, cmp_ge, id_eq, Bool.false_eq_true, reduceIte, Bool.not_true, Bool.not_false, Bool.false_xor, Bool.true_xor, decide_eq_true_eq]
                refine gd_lk.mpr ⟨_, e2, ?_⟩
                try simp (implicitDefEqProofs := false) only [↓gd_bpk, ↓gd_bk, ↓gd_pk, ↓gd_ifT, ↓gd_ifF, ↓gd_ob, ↓gd_ex, obK_nx, obK_rt, exK_nx, exK_rt, cmp_lt, cmp_le, cmp_gt, cmp_ge, id_eq, Bool.false_eq_true, reduceIte, Bool.not_true, Bool.not_false, Bool.false_xor, Bool.true_xor, decide_eq_true_eq]
                exact h4
              · rw [if_neg hz]
                exact at_keep hM hxk (by omega)
            · rw [if_neg hlt]
              exact at_keep hM hxk (by omega)
        · try simp (implicitDefEqProofs := false) only [↓gd_bpk, ↓gd_bk, ↓gd_pk, ↓gd_ifT, ↓gd_ifF, ↓gd_ob, ↓gd_ex, obK_nx, obK_rt, exK_nx, exK_rt, cmp_lt, cmp_le, cmp_gt, cmp_ge, id_eq, Bool.false_eq_true, reduceIte, Bool.not_true, Bool.not_false, Bool.false_xor, Bool.true_xor, decide_eq_true_eq]
          obtain ⟨x0, x1, x2, rfl, _, a0, a1, a2, hn⟩ := hM
          have nz : (0 : Int) ∉ ([] : List Int) ∧ (1 : Int) ∉ ([] : List Int) ∧ (2 : Int) ∉ ([] : List Int) := by simp
          have hr : ∃ s, oRepr (eL eA [x0, x1, x2, th]) = some s := by
            refine repr_ok (fun p hp => ?_) (by simp)
            simp only [List.mem_cons, List.not_mem_nil, or_false] at hp
            rcases hp with rfl | rfl | rfl | rfl
            · rcases a0 with ⟨rfl, _⟩ | ⟨rfl, _⟩
              · exact N0
              · exact hb0.2
            · rcases a1 with ⟨rfl, _⟩ | ⟨rfl, _⟩
              · exact N1
              · exact hb1.2
            · rcases a2 with ⟨rfl, _⟩ | rfl
              · exact N2
              · exact hb2.2.2
            · exact N3
          have hw : ∃ w, oAt [("columns" : Str), "table", "demand"] k = some w ∧ Kind x0 x1 x2 w := by
            have hc3 : k = 0 ∨ k = 1 ∨ k = 2 := by omega
            obtain ⟨w0, w1, w2⟩ := words3
            rcases hc3 with rfl | rfl | rfl
            · refine ⟨_, w0, .c ?_⟩
              rcases a0 with ⟨_, z⟩ | ⟨rfl, _⟩
              · exact absurd (z rfl) nz.1
              · exact hb0.1
            · refine ⟨_, w1, ?_⟩
              rcases a0 with ⟨rfl, _⟩ | ⟨_, z⟩
              · rcases a1 with ⟨_, z⟩ | ⟨rfl, _⟩
                · exact absurd (z rfl) nz.2.1
                · exact .t co1 hb1.1
              · omega
            · refine ⟨_, w2, ?_⟩
              rcases a0 with ⟨rfl, _⟩ | ⟨_, z⟩
              · rcases a1 with ⟨rfl, _⟩ | ⟨_, z⟩
                · rcases a2 with ⟨_, z⟩ | rfl
                  · exact absurd (z rfl) nz.2.2
                  · exact .d co1 to1 hb2.2.1 hb2.1
                · omega
              · omega
          obtain ⟨w, ew, hK⟩ := hw
          refine gd_lk.mpr ⟨_, p_told hK hth hr, ?_⟩
          try simp (implicitDefEqProofs := false) only [↓gd_bpk, ↓gd_bk, ↓gd_pk, ↓gd_ifT, ↓gd_ifF, ↓gd_ob, ↓gd_ex, obK_nx, obK_rt, exK_nx, exK_rt, cmp_lt, cmp_le, cmp_gt, cmp_ge, id_eq, Bool.false_eq_true, reduceIte, Bool.not_true, Bool.not_false, Bool.false_xor, Bool.true_xor, decide_eq_true_eq]
          refine gd_lk.mpr ⟨_, ew, ?_⟩
          try simp (implicitDefEqProofs := false) only [↓gd_bpk, ↓gd_bk, ↓gd_pk, ↓gd_ifT, ↓gd_ifF, ↓gd_ob, ↓gd_ex, obK_nx, obK_rt, exK_nx, exK_rt, cmp_lt, cmp_le, cmp_gt, cmp_ge, id_eq, Bool.false_eq_true, reduceIte, Bool.not_true, Bool.not_false, Bool.false_xor, Bool.true_xor, decide_eq_true_eq]
          rw [if_neg (by simp)]
          exact ⟨fun y hy => hk y (List.mem_cons_of_mem _ hy), by simp only [List.length_nil] at hn; omega⟩
      · try simp (implicitDefEqProofs := false) only [↓gd_bpk, ↓gd_bk, ↓gd_pk, ↓gd_ifT, ↓gd_ifF, ↓gd_ob, ↓gd_ex, obK_nx, obK_rt, exK_nx, exK_rt, cmp_lt, cmp_le, cmp_gt, cmp_ge, id_eq, Bool.false_eq_true, reduceIte, Bool.not_true, Bool.not_false, Bool.false_xor, Bool.true_xor, decide_eq_true_eq]
        have hr : ∃ s, oRepr (eL eA [eC cs, eTab t, eD [d], th]) = some s := by
          refine repr_ok (fun p hp => ?_) (by simp)
          simp only [List.mem_cons, List.not_mem_nil, or_false] at hp
          rcases hp with rfl | rfl | rfl | rfl <;> assumption
        refine gd_lk.mpr ⟨_, p_told (.g G) hth hr, ?_⟩
        try simp (implicitDefEqProofs := false) only [↓gd_bpk, ↓gd_bk, ↓gd_pk, ↓gd_ifT, ↓gd_ifF, ↓gd_ob, ↓gd_ex, obK_nx, obK_rt, exK_nx, exK_rt, cmp_lt, cmp_le, cmp_gt, cmp_ge, id_eq, Bool.false_eq_true, reduceIte, Bool.not_true, Bool.not_false, Bool.false_xor, Bool.true_xor, decide_eq_true_eq]
        rw [if_neg (by simp)]
        have := hL.2
        simp only [List.length_nil] at this
        omega
    · try simp (implicitDefEqProofs := false) only [↓gd_bpk, ↓gd_bk, ↓gd_pk, ↓gd_ifT, ↓gd_ifF, ↓gd_ob, ↓gd_ex, obK_nx, obK_rt, exK_nx, exK_rt, cmp_lt, cmp_le, cmp_gt, cmp_ge, id_eq, Bool.false_eq_true, reduceIte, Bool.not_true, Bool.not_false, Bool.false_xor, Bool.true_xor, decide_eq_true_eq]
      simp only [List.length_nil] at hJ
      omega
  · try simp (implicitDefEqProofs := false) only [↓gd_bpk, ↓gd_bk, ↓gd_pk, ↓gd_ifT, ↓gd_ifF, ↓gd_ob, ↓gd_ex, obK_nx, obK_rt, exK_nx, exK_rt, cmp_lt, cmp_le, cmp_gt, cmp_ge, id_eq, Bool.false_eq_true, reduceIte, Bool.not_true, Bool.not_false, Bool.false_xor, Bool.true_xor, decide_eq_true_eq]
end Q92
end
section
set_option maxHeartbeats 0
namespace Q92
open PySem PySem.Spec PyProof.Rows L2
abbrev rwK := PySem.Challenge.rw_surekeys_k92_refusals_of_counts
def lawAt : Nat := rwK.prog.main.body.length - 1
abbrev R : PySem.W.OpenRow := PySem.W.OpenLaw.row rwK
abbrev hk : PySem.W.Hook := He.hookD 4 fa fn
def loose : List Str := (PySem.Challenge.pw_surekeys_k92_refusals_of_counts.main.scope.names.filterMap fun y => if y.2 = .local ∧ y.1 ≠ ("law" : Str) ∧ y.1 ≠ ("__name__" : Str) then some y.1 else none)
def obsK (s : PySem.W.SharedT) : He.AlD := He.obsDG 4 fa fn (HandSHeadRun.getT s)
theorem obsK_eq (s : PySem.W.SharedT) : obsK s = hk.obs s.abs := He.obsDG_eq (HandSHeadRun.getT_eq s)
theorem run (w : World) : HandSHeadRun.RunEq R (PySem.W.view R.prog [67]) hk obsK 6000 loose w := by
  intro os
  kernel_rfl
end Q92
end
section
set_option maxHeartbeats 0
open PySem PySem.W PySem.Calls PyProof.Rows
theorem PySem.Challenge.cw_surekeys_k92_refusals_of_counts_holds : PySem.Challenge.rw_surekeys_k92_refusals_of_counts.Holds := by
  w_on; o_law
  refine HandSHeadRun.head_any (r := OpenLaw.row PySem.Challenge.rw_surekeys_k92_refusals_of_counts) (q := view (OpenLaw.row PySem.Challenge.rw_surekeys_k92_refusals_of_counts).prog [67]) (H := Q92.hk) (ob := Q92.obsK) (M := 6000) (loose := Q92.loose) (d := HandSHeadRun.topDef (OpenLaw.row PySem.Challenge.rw_surekeys_k92_refusals_of_counts).prog 67) (kwd := []) Q92.obsK_eq
    (by kernel_rfl) (fun s => by kernel_rfl) Q92.run (by kernel_rfl) (by kernel_rfl) (by kernel_rfl) (by rfl) (by first | assumption | decide +kernel) (by decide +kernel) ⟨rfl, rfl, rfl, rfl, rfl, by decide +kernel⟩ ?hw ?hc
  case hw => w_witness2
  case hc =>
    refine SK.walkG (l := PySem.Challenge.rw_surekeys_k92_refusals_of_counts) (n := 63) (k := Q92.law_k) (x := "script") rfl (by decide) (by kernel_rfl) ⟨⟨rfl, by decide, by decide⟩, rfl⟩ ?F
    intro w mg f h Y G hmg0
    obtain ⟨K, KX, c⟩ := Y
    have hmg : mg ("law" : PySem.Str) = some (.ref f) := by
      have e : (HandSHeadRun.topDef (OpenLaw.row PySem.Challenge.rw_surekeys_k92_refusals_of_counts).prog 67).name = ("law" : PySem.Str) := by kernel_rfl
      rw [← e]
      exact hmg0
    have W : Q92.Wd K mg := ⟨h, KX, G, c⟩
    have e := hmg.symm.trans W.g_law
    cases e
    obtain ⟨fd, hb, hF⟩ := Q92.k_law (P := (PySem.Challenge.rw_surekeys_k92_refusals_of_counts).prog) (w := w) W
    exact ⟨K, fd, _, KX, hb, fun a ns hl => ⟨a, ns, rfl, rfl, hl, rfl, Q92.plain_law, fun _ => rfl⟩, fun base _ _ => hF base⟩
end
