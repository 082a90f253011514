import PyProof.Rows.All
import Wide.All
import OpenK.AllK
import Wide.FinOn
import HandS.ForMost
import HandS.Exc
import HandS.TryOnly
import HandS.ExcOwn
import HandS.WordsExc
import HandS.Walk
import HandS.Conv
import HandS.TupAny
import HandS.TupMul
import HandS.Wide
import HandS.TupLe
import HandS.Flow
import HandS.Deep
import HandS.IsInst
import HandS.Style
import HandS.SortInts
import HandS.CallSlots
import HandS.Codes
import HandS.WideMore
import HandS.More
import HandS.TryMany
import HandS.Replace
import HandS.Text
import HandS.ExcIs
import HandS.Iter
import HandS.Zip0
import PyProof.Draws
import PyProof.EnumMake
import PyProof.EnumFor
import KE.DataMinMax
import HandS.SetFor
import HandS.ReCall
import HandS.Strs
import PyProof.SumWalkG
import PyProof.WalksMore
import KE.SortData
import PyProof.Rows.StrMul
import KE.KItemsList
import HandS.Small
import HandS.TupSets
import PySem.Challenge.RW_creasewrit_k16_arches_counted
set_option Elab.async false
set_option linter.all false
set_option maxRecDepth 100000
set_option maxHeartbeats 4000000
/-! The D layer, part 0: new tuples of which is known that they have no dict. -/
namespace Dl
open PySem PySem.Spec PyProof.Rows L2
/-- a new tuple's entry: its object has no dict -/
def TF (xs : List V) (o : HO) : Prop := ∃ ob : Obj, ob.dict = none ∧ o = .frz ob (.tup xs)
/-- a tuple whose object has no dict -/
def TupN (K : PySem.W.Frag) (H : Hp) (a : Addr) (xs : List V) : Prop :=
  (∃ ob : Obj, ob.dict = none ∧ H a = some (.frz ob (.tup xs))) ∨
    ∃ (o : Obj) (its : Array Value) (n : Nat), K.lookup a = some o ∧ o.cls = .type "tuple" ∧ o.dict = none ∧ o.data = .seq its n ∧ its.size ≤ sizeLine ∧ Vals xs its.toList
theorem TupN.sq {K : PySem.W.Frag} {H : Hp} {a : Addr} {xs : List V} (h : TupN K H a xs) : SqT K H a xs := by
  rcases h with ⟨ob, _, h⟩ | ⟨o, its, n, h1, h2, _, h3, h4, h5⟩
  · exact .inl (.inr ⟨ob, h⟩)
  · exact .inr ⟨o, its, n, h1, h2, h3, h4, h5⟩
section
variable {X : Cx} {σ : List (Option V)} {H : Hp} {s : Shared} {pins : List (Addr × Obj)} {xs : List V} {its : List Value}
theorem laidT (I : Inv X pins σ H s) (r : Vals xs its) (hz : xs.length ≤ sizeLine) : ∃ o, TF xs o ∧ Inv X pins σ (upd H s.heap.objs.size o) { s with heap := s.heap.push { cls := .type "tuple", data := .seq its.toArray } } :=
  ⟨.frz { cls := .type "tuple", data := .seq its.toArray } (.tup xs), ⟨_, rfl, rfl⟩, I.laid (t' := s.toks) (fun b u e => Heap.get?_push_of_some _ e) (Nat.le_refl _) ⟨Heap.get?_push_size _ rfl, hz, its, r, IsTup.new _ _⟩⟩
/-- what is left to show where a tuple is made -/
def nT (Q : VK) (H : Hp) (xs : List V) : Prop := ∀ p o, H p = none → TF xs o → Q (.ref p) (upd H p o)
theorem eTN {Q : VK} (I : Inv X pins σ H s) (r : Vals xs its) (hz : xs.length ≤ sizeLine) (q : nT Q H xs) : EP X pins σ Q (.ref s.heap.objs.size) { s with heap := s.heap.push { cls := .type "tuple", data := .seq its.toArray } } := by
  obtain ⟨o, t, J⟩ := laidT I r hz
  exact ⟨.ref s.heap.objs.size, _, J, rfl, q _ o (I.hok.fresh (Nat.le_refl _)) t⟩
end
section
variable {X : Cx} {es : List Expr} {t : TA} {pos : Pos}
def tTupN (t : TA) : TE := fun σ H Q => t σ H fun xs H1 => xs.length ≤ sizeLine ∧ nT Q H1 xs
theorem pe_tupN {x1} (h : PA X es t) : PE X (.Tuple es x1 pos) (tTupN t) :=
  ⟨fun pins s σ H Q I hq => wpAny_Tuple_spliced (thn (h.run pos pins s σ H _ I hq) fun us s1 ⟨xs, H1, I1, r, z, q⟩ => ⟨by rw [← r.length]; exact z, eTN I1 r z q⟩)⟩
def rCatN (K : PySem.W.Frag) : R2 := fun x y H Q => ∃ a b xs ys, x = .ref a ∧ y = .ref b ∧ SqT K H a xs ∧ SqT K H b ys ∧ xs.length + ys.length ≤ sizeLine ∧
  (xs = [] → Q (.ref b) H) ∧ (xs ≠ [] → ys = [] → Q (.ref a) H) ∧ (xs ≠ [] → ys ≠ [] → nT Q H (xs ++ ys))
theorem op_catN : OpR X (binaryOp .Add) (rCatN X.K) := by
  intro pins s σ H x y v u Q I rx ry h
  obtain ⟨a, b, xs, ys, rfl, rfl, ha, hb, hz, q0, q1, q2⟩ := h
  cases rx
  cases ry
  obtain ⟨its, r1, p1, _⟩ := I.tuple ha
  obtain ⟨its2, r2, p2, _⟩ := I.tuple hb
  by_cases hx : xs = []
  · subst hx
    cases r1
    exact cat_tup0 p1 p2 ⟨.ref b, H, I, rfl, q0 rfl⟩
  · exact HT.cat_tup p1 p2 (fun z => hx (r1.nil_iff.mp z)) (fun z => ⟨.ref a, H, I, rfl, q1 hx (r2.nil_iff.mp z)⟩) (fun z => eTN I (r1.append r2) (by rw [List.length_append]; exact hz) (q2 hx fun w => z (r2.nil_iff.mpr w))) (by rw [← r1.length, ← r2.length]; exact hz)
def rSlN (K : PySem.W.Frag) : V → Option Int → Option Int → Hp → VK → Prop := fun x lo hi H Q => ∃ a xs, x = .ref a ∧ SqT K H a xs ∧
  (HT.sIx xs.length 0 lo = 0 ∧ HT.sIx xs.length xs.length hi = xs.length → Q (.ref a) H) ∧ (¬ (HT.sIx xs.length 0 lo = 0 ∧ HT.sIx xs.length xs.length hi = xs.length) → nT Q H (cutV xs lo hi))
theorem sl_tupN : SlR X (rSlN X.K) := by
  intro pins s σ H x v vl vu lo hi sl Q I rx hs pl pu h
  obtain ⟨a, xs, rfl, hx, q1, q2⟩ := h
  cases rx
  obtain ⟨its, r, ht, hz⟩ := I.tuple hx
  have hlen : its.toArray.size = xs.length := by rw [List.size_toArray]; exact r.length.symm
  refine ⟨"tuple", _, PyProof.Rows.slot_tuple_getitem.lookup, ht.typeIs, ?_⟩
  by_cases hw : HT.sIx xs.length 0 lo = 0 ∧ HT.sIx xs.length xs.length hi = xs.length
  · exact getItem_tuple_whole ht hs pl pu (by rw [hlen]; exact hw) ⟨.ref a, H, I, rfl, q1 hw⟩
  · refine HT.getItem_tuple_cut ht hs pl pu (by rw [hlen]; exact hw) ?_ (by rw [hlen]; exact hz)
    rw [hlen]
    exact eTN I ((r.drop (HT.sIx xs.length 0 lo)).take (HT.sIx xs.length xs.length hi - HT.sIx xs.length 0 lo)) (Nat.le_trans (cutV_length xs lo hi) hz) (q2 hw)
theorem call_tuple_ofN : CallR X (.type "tuple") (fun xs H Q => ∃ p ys, xs = [.ref p] ∧ ((SqL X.K H p ys ∧ nT Q H ys) ∨ (SqT X.K H p ys ∧ Q (.ref p) H))) := by
  intro pins s σ H xs us Q I r h
  obtain ⟨p, ys, rfl, h⟩ := h
  obtain ⟨u, rfl, rx⟩ := vals1 r
  cases rx
  rcases h with ⟨hq, q⟩ | ⟨hq, q⟩
  · obtain ⟨its, r', pl, hz⟩ := I.list hq
    have hlen := r'.length
    exact call_tuple_list pl.isList (fun h' kp => eTN (s := { s with heap := h' }) (I.kept (t' := s.toks) kp) r' hz q) (by simp only [List.size_toArray] <;> omega)
  · obtain ⟨its, r', pl, hz⟩ := I.tuple hq
    exact call_tuple_same pl ⟨.ref p, H, I, rfl, q⟩
def rRepN (K : PySem.W.Frag) : R2 := fun x y H Q => ∃ l k xs, x = .ref l ∧ y = .int k ∧ SqT K H l xs ∧ xs ≠ [] ∧ 2 ≤ k ∧ k ≤ 1000 ∧ xs.length ≤ 1000 ∧ nT Q H (List.replicate k.toNat xs).flatten
theorem rep_len {α : Type} {xs : List α} {k : Int} (h2 : k ≤ 1000) (hz : xs.length ≤ 1000) : (List.replicate k.toNat xs).flatten.length ≤ sizeLine := by
  have a : k.toNat * xs.length ≤ 1000 * 1000 := Nat.mul_le_mul (by omega) hz
  rw [PyProof.Rows.lm_len_rep_flat, sizeLine_eq]
  omega
theorem op_repN : OpR X (binaryOp .Mult) (rRepN X.K) := by
  intro pins s σ H x y v u Q I rx ry h
  obtain ⟨l, k, xs, rfl, rfl, hT, hne, h1, h2, hz, q⟩ := h
  cases rx
  obtain ⟨t, rfl⟩ := ry
  obtain ⟨its, r, ⟨⟨cls, dd, data, sl⟩, ho, hc, n, hd⟩, hs⟩ := I.tuple hT
  simp only at hc hd
  subst hc hd
  have hle := r.length
  have em : its.toArray.isEmpty = false := by
    cases its with
    | nil => exact absurd (List.eq_nil_of_length_eq_zero hle) hne
    | cons a b => rfl
  have hsz : its.toArray.size = xs.length := by rw [List.size_toArray, hle]
  have hm : ((its.toArray.size : Nat) : Int) * k ≤ 1000000 := by
    have a1 : ((xs.length : Nat) : Int) * k ≤ 1000 * k := Int.mul_le_mul_of_nonneg_right (by omega) (by omega)
    rw [hsz]
    omega
  have e := eTN (Q := Q) I (r.rep k.toNat) (rep_len h2 hz) q
  rw [← size_rep] at e
  refine wpAny_binaryOp_repeat_ref (T := "tuple") (U := "int") (by decide) ⟨_, ho, rfl⟩ (fun s' => typeIs_int s' k t) noFill_tuple_mul F.fills_int_mul F.slot_int_rmul repeat_tuple F.slot_int_index.lookup
    (call_meets F.slot_int_rmul (typeIs_int s k t) F.entry_int_rmul (F.args_int_rmul_2 _ _) (int_rmul_tuple k t l its.toArray n dd sl)
      ⟨ho, rfl, ⟨_, ho, rfl⟩, call_meets F.slot_tuple_mul ⟨_, ho, rfl⟩ F.entry_tuple_mul (F.args_tuple_mul_2 _ _) (tuple_mulW l its.toArray n dd sl k t ?_ ?_ ?_ (by omega) ?_ ?_) ⟨ho, e⟩⟩)
  · rw [decide_eq_false (by omega), decide_eq_false (by omega)] <;> rfl
  · rw [em, Bool.false_or]
    exact beq_eq_false_iff_ne.mpr (by omega)
  · rw [em, Bool.or_false]
    exact decide_eq_false (by omega)
  · unfold Builtin.Tuple.tupleTooMany
    rw [sizeLine_eq]
    exact decide_eq_false (by omega)
  · rw [size_rep, List.size_toArray]
    refine Nat.le_trans (Nat.le_of_eq ?_) (rep_len (xs := xs) h2 hz)
    rw [PyProof.Rows.lm_len_rep_flat, PyProof.Rows.lm_len_rep_flat, hle]
variable {e : Expr} {te : L2.St → Hp → (Int → Int → Hp → Prop) → Prop}
def tTupRgN (te : L2.St → Hp → (Int → Int → Hp → Prop) → Prop) : TE := fun σ H Q => te σ H fun a b H1 => RgOk a b ∧ nT Q H1 (rgV a b)
theorem pe_tupRgN {p pos : Pos} (hc : X.calm = true) (hg : Gl X "tuple") (hm : X.mg "tuple" = none) (he : PRg X e te) (na : starEach [e] X.env = (false, eval e X.env) :: starEach [] X.env := by rfl) : PE X (.Call (.Name "tuple" p) [e] [] pos) (tTupRgN te) := by
  refine ⟨fun pins s σ H Q I h => ?_⟩
  refine Call_ (ld_blt I hg hm boot_tuple (PyProof.Rows.callWith_type1 (args_cons (thn (he pins s σ H _ I h) fun x s1 ⟨r, a, b, t, u, v, H1, ex, hr, I1, ⟨b1, b2, b3, b4, b5⟩, q⟩ => args_nil ?_) na) na))
  subst ex
  refine call_tuple_range (n := (b - a).toNat) (I1.ok.hd hc) hr (small_one b1 b2 b3 b4) (rangeSize_nat a b) b5 fun h' tk acc hk hi => ?_
  have ee := eTN (s := { s1 with heap := h', toks := tk }) (Q := Q) (I1.kept (t' := tk) hk) (vals_rg hi) (by rw [rgV_length, sizeLine_eq]; omega) q
  rw [Array.toArray_toList] at ee
  exact ee
end
end Dl
/-! The D layer, part 1: pure data, how values bear it, environments, judgements. -/
namespace Dl
open PySem PySem.Spec PyProof.Rows L2

/-! ### data -/
inductive Dat where
  | non | bl (b : Bool) | int (i : Int) | str (s : Str)
  | tup (l : List Dat) | lst (l : List Dat) | frz (l : List Dat) | obj (c : Nat) (l : List Dat) | dct (ks : List (Sum Int Str)) (l : List Dat) | rng (i c : Int) (n : Nat)
inductive Res (α : Type) where
  | ok (a : α) | exc (c : Nat) | stuck
def Res.bind {α β : Type} : Res α → (α → Res β) → Res β
  | .ok a, k => k a
  | .exc c, _ => .exc c
  | .stuck, _ => .stuck
def ofO {α : Type} : Option α → Res α
  | some a => .ok a
  | none => .stuck
abbrev Sg := L2.St
abbrev DEnv := List (Option Dat)
/-- classes of objects, their attributes in order; classes of exceptions -/
structure CT where
  addr : Nat → Addr
  names : Nat → List Str
  exc : Nat → Value

/-! ### heaps -/
def Ex (H H' : Hp) : Prop := ∀ a o, H a = some o → H' a = some o
theorem Ex.refl (H : Hp) : Ex H H := fun _ _ h => h
theorem Ex.trans {H H1 H2 : Hp} (a : Ex H H1) (b : Ex H1 H2) : Ex H H2 := fun x o h => b x o (a x o h)
theorem Ex.new {H : Hp} {p : Addr} {o : HO} (h : H p = none) : Ex H (upd H p o) := fun a u e => by
  rw [upd_ne (ne_of_none e h)]
  exact e
theorem Ex.fresh {H H' : Hp} {p : Addr} (e : Ex H H') (h : H' p = none) : H p = none := by
  cases h1 : H p with
  | none => rfl
  | some o =>
    rw [e p o h1] at h
    cases h
def hide (H : Hp) (S : List Addr) : Hp := fun a => if a ∈ S then none else H a
theorem hide_ex {H : Hp} {S : List Addr} : Ex (hide H S) H := fun a o h => by
  unfold hide at h
  split at h
  · cases h
  · exact h
theorem hide_get {H : Hp} {S : List Addr} {a : Addr} {o : HO} (h : H a = some o) (n : a ∉ S) : hide H S a = some o := by
  unfold hide
  rw [if_neg n]
  exact h
theorem hide_mono {H H' : Hp} {S : List Addr} (e : Ex H H') : Ex (hide H S) (hide H' S) := fun a o h => by
  unfold hide at h ⊢
  split at h
  · cases h
  · rename_i n
    rw [if_neg n]
    exact e a o h
theorem hide_sub {H : Hp} {S S' : List Addr} (h : ∀ p ∈ S, p ∈ S') : Ex (hide H S') (hide H S) := fun a o e => by
  unfold hide at e ⊢
  split at e
  · cases e
  · rename_i n
    rw [if_neg fun z => n (h a z)]
    exact e
theorem hide_upd {H : Hp} {S : List Addr} {p : Addr} {o : HO} (h : p ∈ S) : hide (upd H p o) S = hide H S := by
  funext a
  unfold hide
  by_cases z : a ∈ S
  · rw [if_pos z, if_pos z]
  · rw [if_neg z, if_neg z, upd_ne fun e => z (by rw [e]; exact h)]
/-- one more is hidden that was not there -/
theorem hide_new {H H' : Hp} {S : List Addr} {p : Addr} (e : Ex H H') (h : H p = none) : Ex (hide H S) (hide H' (p :: S)) := fun a o q => by
  have n : a ∉ S := fun z => by
    unfold hide at q
    rw [if_pos z] at q
    cases q
  have q' := hide_ex a o q
  refine hide_get (e a o q') ?_
  intro z
  rcases List.mem_cons.mp z with z | z
  · exact ne_of_none q' h z
  · exact n z
theorem ex_rd {H H' : Hp} {a : Addr} {u : HO} (e : Ex H H') (h : Rd H a u) : Rd H' a u := by
  rcases h with h | ⟨o, h⟩
  · exact Or.inl (e a _ h)
  · exact Or.inr ⟨o, e a _ h⟩
theorem ex_l {K : PySem.W.Frag} {H H' : Hp} {a : Addr} {xs : List V} (e : Ex H H') (h : SqL K H a xs) : SqL K H' a xs := by
  rcases h with h | h
  · exact Or.inl (ex_rd e h)
  · exact Or.inr h
theorem ex_t {K : PySem.W.Frag} {H H' : Hp} {a : Addr} {xs : List V} (e : Ex H H') (h : SqT K H a xs) : SqT K H' a xs := by
  rcases h with h | h
  · exact Or.inl (ex_rd e h)
  · exact Or.inr h

theorem ex_n {K : PySem.W.Frag} {H H' : Hp} {a : Addr} {xs : List V} (e : Ex H H') (h : TupN K H a xs) : TupN K H' a xs := by
  rcases h with ⟨ob, d, h⟩ | h
  · exact Or.inl ⟨ob, d, e a _ h⟩
  · exact Or.inr h

/-! ### values that bear data -/
/-- a range object: n items from i on, by steps of c -/
def RgO (a : Addr) (i c : Int) (n : Nat) : HO := .ext fun h => ∃ (j : Int) (t u v : Tok), IsRange h a i j c t u v ∧ Builtin.Range.small i j c = true ∧ Builtin.Range.rangeSize i j c = n
mutual
inductive Rep (K : PySem.W.Frag) (T : CT) (H : Hp) : V → Dat → Prop
  | non : Rep K T H .non .non
  | bl (b : Bool) : Rep K T H (.bl b) (.bl b)
  | int (i : Int) : Rep K T H (.int i) (.int i)
  | str (x : Str) : Rep K T H (.str x) (.str x)
  | tup {a : Addr} {vs : List V} {ds : List Dat} : TupN K H a vs → Reps K T H vs ds → Rep K T H (.ref a) (.tup ds)
  | lst {a : Addr} {vs : List V} {ds : List Dat} : H a = some (.lst vs) → Reps K T H vs ds → Rep K T H (.ref a) (.lst ds)
  | frz {a : Addr} {vs : List V} {ds : List Dat} : SqL K H a vs → Reps K T H vs ds → Rep K T H (.ref a) (.frz ds)
  | obj {a dx : Addr} {c : Nat} {fs : List (Str × V)} {ds : List Dat} : H a = some (.ins (T.addr c) dx fs) → fs.map (·.1) = T.names c → Reps K T H (fs.map (·.2)) ds → Rep K T H (.ref a) (.obj c ds)
  | dct {a : Addr} {kvs : List (Key × V)} {ks : List (Sum Int Str)} {ds : List Dat} : H a = some (.dK kvs) → kvs.map (·.1) = ks → Reps K T H (kvs.map (·.2)) ds → Rep K T H (.ref a) (.dct ks ds)
  | rng {a : Addr} {i c : Int} {n : Nat} : H a = some (RgO a i c n) → Rep K T H (.ref a) (.rng i c n)
inductive Reps (K : PySem.W.Frag) (T : CT) (H : Hp) : List V → List Dat → Prop
  | nil : Reps K T H [] []
  | cons {v : V} {vs : List V} {d : Dat} {ds : List Dat} : Rep K T H v d → Reps K T H vs ds → Reps K T H (v :: vs) (d :: ds)
end
section
variable {K : PySem.W.Frag} {T : CT} {H H' : Hp}
mutual
theorem Rep.mono (e : Ex H H') : ∀ {v : V} {d : Dat}, Rep K T H v d → Rep K T H' v d
  | _, _, .non => .non
  | _, _, .bl b => .bl b
  | _, _, .int i => .int i
  | _, _, .str x => .str x
  | _, _, .tup h r => .tup (ex_n e h) (Reps.mono e r)
  | _, _, .lst h r => .lst (e _ _ h) (Reps.mono e r)
  | _, _, .frz h r => .frz (ex_l e h) (Reps.mono e r)
  | _, _, .obj h n r => .obj (e _ _ h) n (Reps.mono e r)
  | _, _, .dct h n r => .dct (e _ _ h) n (Reps.mono e r)
  | _, _, .rng h => .rng (e _ _ h)
theorem Reps.mono (e : Ex H H') : ∀ {vs : List V} {ds : List Dat}, Reps K T H vs ds → Reps K T H' vs ds
  | _, _, .nil => .nil
  | _, _, .cons h r => .cons (Rep.mono e h) (Reps.mono e r)
end
theorem Reps.length : ∀ {vs : List V} {ds : List Dat}, Reps K T H vs ds → vs.length = ds.length
  | _, _, .nil => rfl
  | _, _, .cons _ r => by simp [Reps.length r]
theorem Reps.get : ∀ {vs : List V} {ds : List Dat} {i : Nat} {d : Dat}, Reps K T H vs ds → ds[i]? = some d → ∃ v, vs[i]? = some v ∧ Rep K T H v d
  | _, _, _, _, .nil, e => by simp at e
  | _, _, 0, _, .cons h _, e => by
    simp at e
    subst e
    exact ⟨_, rfl, h⟩
  | _, _, i + 1, _, .cons _ r, e => by
    obtain ⟨v, h1, h2⟩ := Reps.get (i := i) r (by simpa using e)
    exact ⟨v, by simpa using h1, h2⟩
theorem Reps.getV : ∀ {vs : List V} {ds : List Dat} {i : Nat} {v : V}, Reps K T H vs ds → vs[i]? = some v → ∃ d, ds[i]? = some d ∧ Rep K T H v d
  | _, _, _, _, .nil, e => by simp at e
  | _, _, 0, _, .cons h _, e => by
    simp at e
    subst e
    exact ⟨_, rfl, h⟩
  | _, _, i + 1, _, .cons _ r, e => by
    obtain ⟨v, h1, h2⟩ := Reps.getV (i := i) r (by simpa using e)
    exact ⟨v, by simpa using h1, h2⟩
theorem Reps.append : ∀ {vs ws : List V} {ds es : List Dat}, Reps K T H vs ds → Reps K T H ws es → Reps K T H (vs ++ ws) (ds ++ es)
  | _, _, _, _, .nil, s => s
  | _, _, _, _, .cons h r, s => .cons h (Reps.append r s)
theorem Reps.take : ∀ {vs : List V} {ds : List Dat} (n : Nat), Reps K T H vs ds → Reps K T H (vs.take n) (ds.take n)
  | _, _, 0, _ => .nil
  | _, _, _ + 1, .nil => .nil
  | _, _, n + 1, .cons h r => .cons h (Reps.take n r)
theorem Reps.drop : ∀ {vs : List V} {ds : List Dat} (n : Nat), Reps K T H vs ds → Reps K T H (vs.drop n) (ds.drop n)
  | _, _, 0, r => r
  | _, _, _ + 1, .nil => .nil
  | _, _, n + 1, .cons _ r => Reps.drop n r
theorem Reps.set {v : V} {d : Dat} (h : Rep K T H v d) : ∀ {vs : List V} {ds : List Dat} (i : Nat), Reps K T H vs ds → Reps K T H (vs.set i v) (ds.set i d)
  | _, _, _, .nil => .nil
  | _, _, 0, .cons _ r => .cons h r
  | _, _, i + 1, .cons q r => .cons q (Reps.set h i r)
theorem Reps.reverse : ∀ {vs : List V} {ds : List Dat}, Reps K T H vs ds → Reps K T H vs.reverse ds.reverse
  | _, _, .nil => .nil
  | _, _, .cons h r => by
    rw [List.reverse_cons, List.reverse_cons]
    exact Reps.append (Reps.reverse r) (.cons h .nil)
theorem Reps.flatten_replicate {vs : List V} {ds : List Dat} (r : Reps K T H vs ds) : ∀ n : Nat, Reps K T H (List.replicate n vs).flatten (List.replicate n ds).flatten
  | 0 => .nil
  | n + 1 => by
    rw [List.replicate_succ, List.replicate_succ, List.flatten_cons, List.flatten_cons]
    exact Reps.append r (Reps.flatten_replicate r n)
theorem Reps.one {v : V} {d : Dat} (h : Rep K T H v d) : Reps K T H [v] [d] := .cons h .nil

/-! ### what may change: hidden -/
def mutO : HO → Bool
  | .lst _ => true
  | .ins _ _ _ => true
  | .dK _ => true
  | .dT _ => true
  | .set _ _ => true
  | _ => false
def Hid (H : Hp) (S : List Addr) : Prop := ∀ p ∈ S, ∃ o, H p = some o ∧ mutO o = true
theorem Hid.mono {S : List Addr} (h : Hid H S) (e : Ex H H') : Hid H' S := fun p hp => let ⟨o, a, b⟩ := h p hp; ⟨o, e p o a, b⟩
theorem Hid.not {S : List Addr} {p : Addr} (h : Hid H S) (n : H p = none) : p ∉ S := fun z => by
  obtain ⟨o, a, _⟩ := h p z
  rw [n] at a
  cases a
theorem Hid.notTup {S : List Addr} {p : Addr} {xs : List V} (h : Hid H S) (n : Rd H p (.tup xs)) : p ∉ S := fun z => by
  obtain ⟨o, a, b⟩ := h p z
  rcases n with n | ⟨q, n⟩
  · rw [n] at a
    cases a
    cases b
  · rw [n] at a
    cases a
    cases b
theorem rep_newL {S : List Addr} {p : Addr} {vs : List V} {ds : List Dat} (m : Hid H S) (n : H p = none) (r : Reps K T (hide H S) vs ds) : Rep K T (hide (upd H p (.lst vs)) S) (.ref p) (.lst ds) :=
  .lst (hide_get upd_same (m.not n)) (r.mono (hide_mono (Ex.new n)))
theorem rep_newT {S : List Addr} {p : Addr} {o : HO} {vs : List V} {ds : List Dat} (m : Hid H S) (n : H p = none) (t : TF vs o) (r : Reps K T (hide H S) vs ds) : Rep K T (hide (upd H p o) S) (.ref p) (.tup ds) := by
  obtain ⟨ob, d, rfl⟩ := t
  exact .tup (.inl ⟨ob, d, hide_get upd_same (m.not n)⟩) (r.mono (hide_mono (Ex.new n)))
/-- data without lists and objects: what is hidden does not touch it -/
def flat : Dat → Bool
  | .lst _ => false
  | .frz _ => false
  | .obj _ _ => false
  | .dct _ _ => false
  | .rng _ _ _ => false
  | .tup l => flats l
  | _ => true
where flats : List Dat → Bool
  | [] => true
  | d :: r => flat d && flats r
mutual
theorem Rep.bare {S : List Addr} (m : Hid H S) : ∀ {v : V} {d : Dat}, flat d = true → Rep K T H v d → Rep K T (hide H S) v d
  | _, _, _, .non => .non
  | _, _, _, .bl b => .bl b
  | _, _, _, .int i => .int i
  | _, _, _, .str x => .str x
  | _, .tup ds, f, .tup h r => by
    have f' : flat.flats ds = true := by simpa [flat] using f
    refine .tup ?_ (Reps.bare m f' r)
    rcases h with ⟨o, d, h⟩ | h
    · exact .inl ⟨o, d, hide_get h (m.notTup (.inr ⟨o, h⟩))⟩
    · exact .inr h
  | _, _, f, .lst _ _ => by simp [flat] at f
  | _, _, f, .frz _ _ => by simp [flat] at f
  | _, _, f, .obj _ _ _ => by simp [flat] at f
  | _, _, f, .dct _ _ _ => by simp [flat] at f
  | _, _, f, .rng _ => by simp [flat] at f
theorem Reps.bare {S : List Addr} (m : Hid H S) : ∀ {vs : List V} {ds : List Dat}, flat.flats ds = true → Reps K T H vs ds → Reps K T (hide H S) vs ds
  | _, _, _, .nil => .nil
  | _, d :: ds, f, .cons h r => by
    have f' : flat d = true ∧ flat.flats ds = true := by simpa [flat.flats] using f
    exact .cons (Rep.bare m f'.1 h) (Reps.bare m f'.2 r)
end
end

/-! ### what an owned slot holds -/
inductive OwnR (K : PySem.W.Frag) (T : CT) (H : Hp) : HO → Dat → Prop
  | lst {vs : List V} {ds : List Dat} : Reps K T H vs ds → OwnR K T H (.lst vs) (.lst ds)
  | dct {kvs : List (Key × V)} {ks : List (Sum Int Str)} {ds : List Dat} : kvs.map (·.1) = ks → Reps K T H (kvs.map (·.2)) ds → OwnR K T H (.dK kvs) (.dct ks ds)
theorem OwnR.mono {K : PySem.W.Frag} {T : CT} {H H' : Hp} {o : HO} {d : Dat} (e : Ex H H') (r : OwnR K T H o d) : OwnR K T H' o d := by
  cases r with
  | lst r => exact .lst (r.mono e)
  | dct h r => exact .dct h (r.mono e)
theorem OwnR.rep {K : PySem.W.Frag} {T : CT} {H : Hp} {o : HO} {d : Dat} {a : Addr} (h : H a = some o) (r : OwnR K T H o d) : Rep K T H (.ref a) d := by
  cases r with
  | lst r => exact .lst h r
  | dct hk r => exact .dct h hk r
/-! ### environments -/
structure RE (K : PySem.W.Frag) (T : CT) (ow : List Nat) (σ : Sg) (ρ : DEnv) (H : Hp) (S : List Addr) : Prop where
  mt : Hid H S
  len : σ.length = ρ.length
  fro : ∀ (i : Nat) (d : Dat), i ∉ ow → ρ[i]? = some (some d) → ∃ v, σ[i]? = some (some v) ∧ Rep K T (hide H S) v d
  own : ∀ (i : Nat) (d : Dat), i ∈ ow → ρ[i]? = some (some d) → ∃ (p : Addr) (o : HO), σ[i]? = some (some (.ref p)) ∧ OwnR K T (hide H S) o d ∧ p ∈ S ∧ H p = some o
  inj : ∀ (i j : Nat) (d e : Dat) (p : Addr), i ∈ ow → j ∈ ow → ρ[i]? = some (some d) → ρ[j]? = some (some e) → σ[i]? = some (some (.ref p)) → σ[j]? = some (some (.ref p)) → i = j
section
variable {K : PySem.W.Frag} {T : CT} {H H' : Hp} {ow : List Nat} {σ : Sg} {ρ : DEnv} {S : List Addr}
theorem RE.mono (r : RE K T ow σ ρ H S) (e : Ex H H') : RE K T ow σ ρ H' S :=
  ⟨r.mt.mono e, r.len, fun i d hi hd => let ⟨v, a, b⟩ := r.fro i d hi hd; ⟨v, a, b.mono (hide_mono e)⟩,
    fun i d hi hd => let ⟨p, o, a, y, c, x⟩ := r.own i d hi hd; ⟨p, o, a, y.mono (hide_mono e), c, e p _ x⟩, r.inj⟩

/-! ### what is wanted behind an expression -/
def Want (K : PySem.W.Frag) (T : CT) (W : WX) (σ : Sg) (H : Hp) (S : List Addr) : Res Dat → VK → Prop
  | .ok d, Q => ∀ v H', Ex H H' → Rep K T (hide H' S) v d → Q v H'
  | .exc c, _ => ∀ H', Ex H H' → W (T.exc c) none σ H'
  | .stuck, _ => False
def WantB (T : CT) (W : WX) (σ : Sg) (H : Hp) : Res Bool → (Bool → Hp → Prop) → Prop
  | .ok d, Q => ∀ H', Ex H H' → Q d H'
  | .exc c, _ => ∀ H', Ex H H' → W (T.exc c) none σ H'
  | .stuck, _ => False
def WantA (K : PySem.W.Frag) (T : CT) (W : WX) (σ : Sg) (H : Hp) (S : List Addr) : Res (List Dat) → (List V → Hp → Prop) → Prop
  | .ok ds, Q => ∀ vs H', Ex H H' → Reps K T (hide H' S) vs ds → Q vs H'
  | .exc c, _ => ∀ H', Ex H H' → W (T.exc c) none σ H'
  | .stuck, _ => False
/-- a new list -/
def WantF (K : PySem.W.Frag) (T : CT) (W : WX) (σ : Sg) (H : Hp) (S : List Addr) : Res (List Dat) → VK → Prop
  | .ok ds, Q => ∀ p vs H', Ex H H' → H p = none → H' p = some (.lst vs) → Reps K T (hide H' (p :: S)) vs ds → Q (.ref p) H'
  | .exc c, _ => ∀ H', Ex H H' → W (T.exc c) none σ H'
  | .stuck, _ => False
def tD (K : PySem.W.Frag) (T : CT) (W : WX) (ow : List Nat) (f : DEnv → Res Dat) : TE := fun σ H Q => ∃ ρ S, RE K T ow σ ρ H S ∧ Want K T W σ H S (f ρ) Q
def tDF (K : PySem.W.Frag) (T : CT) (W : WX) (ow : List Nat) (f : DEnv → Res (List Dat)) : TE := fun σ H Q => ∃ ρ S, RE K T ow σ ρ H S ∧ WantF K T W σ H S (f ρ) Q
def tDB (K : PySem.W.Frag) (T : CT) (W : WX) (ow : List Nat) (f : DEnv → Res Bool) : TT := fun σ H Q => ∃ ρ S, RE K T ow σ ρ H S ∧ WantB T W σ H (f ρ) Q
def tDA (K : PySem.W.Frag) (T : CT) (W : WX) (ow : List Nat) (f : DEnv → Res (List Dat)) : TA := fun σ H Q => ∃ ρ S, RE K T ow σ ρ H S ∧ WantA K T W σ H S (f ρ) Q
end
def DE (X : Cx) (T : CT) (W : WX) (ow : List Nat) (e : Expr) (f : DEnv → Res Dat) : Prop := PE X e (tD X.K T W ow f)
def DF (X : Cx) (T : CT) (W : WX) (ow : List Nat) (e : Expr) (f : DEnv → Res (List Dat)) : Prop := PE X e (tDF X.K T W ow f)
def DT (X : Cx) (T : CT) (W : WX) (ow : List Nat) (e : Expr) (f : DEnv → Res Bool) : Prop := PT X e (tDB X.K T W ow f)
def DA (X : Cx) (T : CT) (W : WX) (ow : List Nat) (es : List Expr) (f : DEnv → Res (List Dat)) : Prop := PA X es (tDA X.K T W ow f)

section
variable {X : Cx} {T : CT} {W : WX} {ow : List Nat} {e a b : Expr} {es : List Expr} {pos : Pos}
theorem pe_imp {t t' : TE} (h : PE X e t) (i : ∀ σ H Q, t' σ H Q → t σ H Q) : PE X e t' := ⟨fun pins s σ H Q I q => h.run pins s σ H Q I (i σ H Q q)⟩
theorem pt_imp {t t' : TT} (h : PT X e t) (i : ∀ σ H Q, t' σ H Q → t σ H Q) : PT X e t' := ⟨fun pins s σ H Q I q => h.run pins s σ H Q I (i σ H Q q)⟩
theorem pw_imp {t t' : TT} (h : PW X e t) (i : ∀ σ H Q, t' σ H Q → t σ H Q) : PW X e t' := ⟨fun wh pins s σ H Q I q => h.run wh pins s σ H Q I (i σ H Q q)⟩
theorem pa_imp {t t' : TA} (h : PA X es t) (i : ∀ σ H Q, t' σ H Q → t σ H Q) : PA X es t' := ⟨fun pos pins s σ H Q I q => h.run pos pins s σ H Q I (i σ H Q q)⟩
theorem ps_imp {st : Stmt} {t t' : TS} (h : PS X st t) (i : ∀ D σ H, t' D σ H → t D σ H) : PS X st t' := ⟨fun pins s σ H D I q => h.run pins s σ H D I (i D σ H q)⟩
theorem pss_imp {st : List Stmt} {t t' : TS} (h : PSs X st t) (i : ∀ D σ H, t' D σ H → t D σ H) : PSs X st t' := ⟨fun pins s σ H D I q => h.run pins s σ H D I (i D σ H q)⟩
end

section
variable {K : PySem.W.Frag} {T : CT} {W : WX} {H : Hp} {ow : List Nat} {σ : Sg} {ρ : DEnv} {S : List Addr}
/-- the first part of a bind, then the rest -/
theorem tD_bind {α : Type} {fa : DEnv → Res Dat} {k : Dat → Res α} {P : Hp → Res α → Prop} {R : VK} (re : RE K T ow σ ρ H S) (w : P H ((fa ρ).bind k)) (hx : ∀ c, P H (.exc c) → ∀ H', Ex H H' → W (T.exc c) none σ H') (hs : ¬ P H .stuck)
    (hk : ∀ v d H1, P H (k d) → Ex H H1 → Rep K T (hide H1 S) v d → R v H1) : tD K T W ow fa σ H R := by
  refine ⟨ρ, S, re, ?_⟩
  cases q : fa ρ with
  | ok d =>
    rw [q] at w
    exact fun v H' e r => hk v d H' w e r
  | exc c =>
    rw [q] at w
    exact hx c w
  | stuck =>
    rw [q] at w
    exact absurd w hs
theorem Want.mono {r : Res Dat} {Q : VK} {H' : Hp} (w : Want K T W σ H S r Q) (e : Ex H H') : Want K T W σ H' S r Q := by
  cases r with
  | ok d => exact fun v H2 e2 q => w v H2 (e.trans e2) q
  | exc c => exact fun H2 e2 => w H2 (e.trans e2)
  | stuck => exact w
theorem WantB.mono {r : Res Bool} {Q : Bool → Hp → Prop} {H' : Hp} (w : WantB T W σ H r Q) (e : Ex H H') : WantB T W σ H' r Q := by
  cases r with
  | ok d => exact fun H2 e2 => w H2 (e.trans e2)
  | exc c => exact fun H2 e2 => w H2 (e.trans e2)
  | stuck => exact w
theorem WantA.mono {r : Res (List Dat)} {Q : List V → Hp → Prop} {H' : Hp} (w : WantA K T W σ H S r Q) (e : Ex H H') : WantA K T W σ H' S r Q := by
  cases r with
  | ok d => exact fun v H2 e2 q => w v H2 (e.trans e2) q
  | exc c => exact fun H2 e2 => w H2 (e.trans e2)
  | stuck => exact w
theorem WantF.mono {r : Res (List Dat)} {Q : VK} {H' : Hp} (w : WantF K T W σ H S r Q) (e : Ex H H') : WantF K T W σ H' S r Q := by
  cases r with
  | ok d => exact fun p v H2 e2 n h q => w p v H2 (e.trans e2) (e.fresh n) h q
  | exc c => exact fun H2 e2 => w H2 (e.trans e2)
  | stuck => exact w
/-- the parts of an expression, one after the other -/
theorem Want.part {fa : DEnv → Res Dat} {k : Dat → Res Dat} {Q R : VK} (re : RE K T ow σ ρ H S) (w : Want K T W σ H S ((fa ρ).bind k) Q)
    (hk : ∀ v d H1, Want K T W σ H1 S (k d) Q → RE K T ow σ ρ H1 S → Ex H H1 → Rep K T (hide H1 S) v d → R v H1) : tD K T W ow fa σ H R :=
  tD_bind (P := fun H r => Want K T W σ H S r Q) re w (fun _ w => w) (fun w => w) fun v d H1 w e r => hk v d H1 (w.mono e) (re.mono e) e r
theorem WantB.part {fa : DEnv → Res Dat} {k : Dat → Res Bool} {Q : Bool → Hp → Prop} {R : VK} (re : RE K T ow σ ρ H S) (w : WantB T W σ H ((fa ρ).bind k) Q)
    (hk : ∀ v d H1, WantB T W σ H1 (k d) Q → RE K T ow σ ρ H1 S → Ex H H1 → Rep K T (hide H1 S) v d → R v H1) : tD K T W ow fa σ H R :=
  tD_bind (P := fun H r => WantB T W σ H r Q) re w (fun _ w => w) (fun w => w) fun v d H1 w e r => hk v d H1 (w.mono e) (re.mono e) e r
theorem WantA.part {fa : DEnv → Res Dat} {k : Dat → Res (List Dat)} {Q : List V → Hp → Prop} {R : VK} (re : RE K T ow σ ρ H S) (w : WantA K T W σ H S ((fa ρ).bind k) Q)
    (hk : ∀ v d H1, WantA K T W σ H1 S (k d) Q → RE K T ow σ ρ H1 S → Ex H H1 → Rep K T (hide H1 S) v d → R v H1) : tD K T W ow fa σ H R :=
  tD_bind (P := fun H r => WantA K T W σ H S r Q) re w (fun _ w => w) (fun w => w) fun v d H1 w e r => hk v d H1 (w.mono e) (re.mono e) e r
theorem WantF.part {fa : DEnv → Res Dat} {k : Dat → Res (List Dat)} {Q R : VK} (re : RE K T ow σ ρ H S) (w : WantF K T W σ H S ((fa ρ).bind k) Q)
    (hk : ∀ v d H1, WantF K T W σ H1 S (k d) Q → RE K T ow σ ρ H1 S → Ex H H1 → Rep K T (hide H1 S) v d → R v H1) : tD K T W ow fa σ H R :=
  tD_bind (P := fun H r => WantF K T W σ H S r Q) re w (fun _ w => w) (fun w => w) fun v d H1 w e r => hk v d H1 (w.mono e) (re.mono e) e r
/-- a test first -/
theorem Want.partB {fa : DEnv → Res Bool} {k : Bool → Res Dat} {Q : VK} {R : Bool → Hp → Prop} (re : RE K T ow σ ρ H S) (w : Want K T W σ H S ((fa ρ).bind k) Q)
    (hk : ∀ d H1, Want K T W σ H1 S (k d) Q → RE K T ow σ ρ H1 S → Ex H H1 → R d H1) : tDB K T W ow fa σ H R := by
  refine ⟨ρ, S, re, ?_⟩
  cases q : fa ρ with
  | ok d =>
    rw [q] at w
    exact fun H' e => hk d H' (w.mono e) (re.mono e) e
  | exc c =>
    rw [q] at w
    exact w
  | stuck =>
    rw [q] at w
    exact w.elim
theorem WantB.partB {fa : DEnv → Res Bool} {k : Bool → Res Bool} {Q R : Bool → Hp → Prop} (re : RE K T ow σ ρ H S) (w : WantB T W σ H ((fa ρ).bind k) Q)
    (hk : ∀ d H1, WantB T W σ H1 (k d) Q → RE K T ow σ ρ H1 S → Ex H H1 → R d H1) : tDB K T W ow fa σ H R := by
  refine ⟨ρ, S, re, ?_⟩
  cases q : fa ρ with
  | ok d =>
    rw [q] at w
    exact fun H' e => hk d H' (w.mono e) (re.mono e) e
  | exc c =>
    rw [q] at w
    exact w
  | stuck =>
    rw [q] at w
    exact w.elim
theorem WantF.partB {fa : DEnv → Res Bool} {k : Bool → Res (List Dat)} {Q : VK} {R : Bool → Hp → Prop} (re : RE K T ow σ ρ H S) (w : WantF K T W σ H S ((fa ρ).bind k) Q)
    (hk : ∀ d H1, WantF K T W σ H1 S (k d) Q → RE K T ow σ ρ H1 S → Ex H H1 → R d H1) : tDB K T W ow fa σ H R := by
  refine ⟨ρ, S, re, ?_⟩
  cases q : fa ρ with
  | ok d =>
    rw [q] at w
    exact fun H' e => hk d H' (w.mono e) (re.mono e) e
  | exc c =>
    rw [q] at w
    exact w
  | stuck =>
    rw [q] at w
    exact w.elim
/-- arguments first -/
theorem Want.partA {fa : DEnv → Res (List Dat)} {k : List Dat → Res Dat} {Q : VK} {R : List V → Hp → Prop} (re : RE K T ow σ ρ H S) (w : Want K T W σ H S ((fa ρ).bind k) Q)
    (hk : ∀ vs ds H1, Want K T W σ H1 S (k ds) Q → RE K T ow σ ρ H1 S → Ex H H1 → Reps K T (hide H1 S) vs ds → R vs H1) : tDA K T W ow fa σ H R := by
  refine ⟨ρ, S, re, ?_⟩
  cases q : fa ρ with
  | ok d =>
    rw [q] at w
    exact fun vs H' e r => hk vs d H' (w.mono e) (re.mono e) e r
  | exc c =>
    rw [q] at w
    exact w
  | stuck =>
    rw [q] at w
    exact w.elim
theorem WantA.partA {fa : DEnv → Res (List Dat)} {k : List Dat → Res (List Dat)} {Q R : List V → Hp → Prop} (re : RE K T ow σ ρ H S) (w : WantA K T W σ H S ((fa ρ).bind k) Q)
    (hk : ∀ vs ds H1, WantA K T W σ H1 S (k ds) Q → RE K T ow σ ρ H1 S → Ex H H1 → Reps K T (hide H1 S) vs ds → R vs H1) : tDA K T W ow fa σ H R := by
  refine ⟨ρ, S, re, ?_⟩
  cases q : fa ρ with
  | ok d =>
    rw [q] at w
    exact fun vs H' e r => hk vs d H' (w.mono e) (re.mono e) e r
  | exc c =>
    rw [q] at w
    exact w
  | stuck =>
    rw [q] at w
    exact w.elim
theorem WantF.partA {fa : DEnv → Res (List Dat)} {k : List Dat → Res (List Dat)} {Q : VK} {R : List V → Hp → Prop} (re : RE K T ow σ ρ H S) (w : WantF K T W σ H S ((fa ρ).bind k) Q)
    (hk : ∀ vs ds H1, WantF K T W σ H1 S (k ds) Q → RE K T ow σ ρ H1 S → Ex H H1 → Reps K T (hide H1 S) vs ds → R vs H1) : tDA K T W ow fa σ H R := by
  refine ⟨ρ, S, re, ?_⟩
  cases q : fa ρ with
  | ok d =>
    rw [q] at w
    exact fun vs H' e r => hk vs d H' (w.mono e) (re.mono e) e r
  | exc c =>
    rw [q] at w
    exact w
  | stuck =>
    rw [q] at w
    exact w.elim
/-- a new list is a value like others -/
theorem WantF.of {r : Res (List Dat)} {Q : VK} (w : Want K T W σ H S (r.bind fun l => .ok (.lst l)) Q) (m : Hid H S) : WantF K T W σ H S r Q := by
  cases r with
  | ok l =>
    intro p vs H' e n h q
    refine w (.ref p) H' e (.lst (hide_get h (m.not n)) (q.mono (hide_sub fun x hx => List.mem_cons_of_mem _ hx)))
  | exc c => exact w
  | stuck => exact w
end
end Dl
/-! The D layer, part 2: expressions. -/
namespace Dl
open PySem PySem.Spec PyProof.Rows L2

/-! ### names and constants -/
def vVar (i : Nat) : DEnv → Res Dat := fun ρ => match ρ[i]? with
  | some (some d) => .ok d
  | _ => .stuck
def vC (d : Dat) : DEnv → Res Dat := fun _ => .ok d
section
variable {X : Cx} {T : CT} {W : WX} {ow : List Nat} {e a b c : Expr} {es : List Expr} {pos : Pos} {fa fb fc : DEnv → Res Dat}
theorem de_var (i : Nat) {x : Str} (hN : X.N[i]? = some x := by rfl) (hv : Vis X.env.scope x := by first | exact Or.inl rfl | exact Or.inr (Or.inl rfl) | exact Or.inr (Or.inr rfl)) (hi : i ∉ ow := by decide) (hd : (x == ("__debug__" : Str)) = false := by decide)
    (hcd : (x == ("__classdict__" : Str)) = false := by decide) : DE X T W ow (.Name x pos) (vVar i) := pe_imp (pe_var hN hv hd hcd) fun σ H Q h => by
  obtain ⟨ρ, S, re, w⟩ := h
  unfold vVar at w
  split at w
  · rename_i d e
    obtain ⟨v, h1, h2⟩ := re.fro i d hi e
    exact ⟨v, h1, w v H (Ex.refl H) h2⟩
  · exact w.elim
theorem de_const {v : V} {d : Dat} (h : PE X e (tC v)) (r : ∀ H, Rep X.K T H v d) : DE X T W ow e (vC d) := pe_imp h fun σ H Q h => by
  obtain ⟨ρ, S, re, w⟩ := h
  exact w v H (Ex.refl H) (r _)
theorem de_int {i : Int} {j} : DE X T W ow (.Constant (.int i) j pos) (vC (.int i)) := de_const pe_int fun _ => .int i
theorem de_bl {k : Bool} {j} : DE X T W ow (.Constant (.bool k) j pos) (vC (.bl k)) := de_const pe_bl fun _ => .bl k
theorem de_non {j} : DE X T W ow (.Constant .none j pos) (vC .non) := de_const pe_non fun _ => .non
theorem de_str {x : Str} {j} : DE X T W ow (.Constant (.str x) j pos) (vC (.str x)) := de_const pe_str fun _ => .str x
/-- a constant of the module -/
structure GC (K : PySem.W.Frag) (T : CT) (mg : Str → Option Value) (x : Str) (d : Dat) : Prop where
  ex : ∃ v u, mg x = some u ∧ RelV v u ∧ ∀ H, Rep K T H v d
theorem GC.int {K : PySem.W.Frag} {T : CT} {mg : Str → Option Value} {x : Str} {i : Int} {t : Tok} (h : mg x = some (.int i t)) : GC K T mg x (.int i) := ⟨.int i, _, h, ⟨t, rfl⟩, fun _ => .int i⟩
theorem GC.str {K : PySem.W.Frag} {T : CT} {mg : Str → Option Value} {x : Str} {i : Str} {t : Tok} (h : mg x = some (.str i t)) : GC K T mg x (.str i) := ⟨.str i, _, h, ⟨t, rfl⟩, fun _ => .str i⟩
theorem de_glob {x : Str} {d : Dat} (g : GC X.K T X.mg x d) (hg : Gl X x := by rfl) (hd : (x == ("__debug__" : Str)) = false := by decide) : DE X T W ow (.Name x pos) (vC d) := by
  obtain ⟨v, u, h1, h2, h3⟩ := g.ex
  exact de_const (pe_glob hg h1 h2 hd) h3

/-! ### two-place operators -/
def R2D (K : PySem.W.Frag) (T : CT) (r : R2) (g : Dat → Dat → Option Dat) : Prop := ∀ (S : List Addr) (H : Hp) (x y : V) (dx dy d : Dat) (Q : VK), Hid H S → Rep K T (hide H S) x dx → Rep K T (hide H S) y dy → g dx dy = some d →
  (∀ v H', Ex H H' → Rep K T (hide H' S) v d → Q v H') → r x y H Q
def vOp (g : Dat → Dat → Option Dat) (fa fb : DEnv → Res Dat) : DEnv → Res Dat := fun ρ => (fa ρ).bind fun x => (fb ρ).bind fun y => ofO (g x y)
theorem R2D.read {r : R2} {g : Dat → Dat → Option Dat} {K : PySem.W.Frag} {σ : Sg} {H : Hp} {Q : VK} (rd : R2D K T r g) (h : tD K T W ow (vOp g fa fb) σ H Q) :
    tD K T W ow fa σ H fun x H1 => tD K T W ow fb σ H1 fun y H2 => r x y H2 Q := by
  obtain ⟨ρ, S, re, w⟩ := h
  refine Want.part re w fun x dx H1 w1 re1 e1 rx => ?_
  refine Want.part re1 w1 fun y dy H2 w2 re2 e2 ry => ?_
  cases q : g dx dy with
  | none =>
    rw [q] at w2
    exact w2.elim
  | some d =>
    rw [q] at w2
    exact rd S H2 x y dx dy d Q re2.mt (rx.mono (hide_mono e2)) ry q w2
theorem de_op {op : Operator} {r : R2} {g : Dat → Dat → Option Dat} (ho : OpR X (binaryOp op) r) (rd : R2D X.K T r g) (ha : DE X T W ow a fa) (hb : DE X T W ow b fb) : DE X T W ow (.BinOp a op b pos) (vOp g fa fb) :=
  pe_imp (pe_op ho ha hb) fun _ _ _ h => rd.read h
theorem de_cmp {op : CmpOp} {r : R2} {g : Dat → Dat → Option Dat} (ho : OpR X (compareOp op) r) (rd : R2D X.K T r g) (ha : DE X T W ow a fa) (hb : DE X T W ow b fb) (hm : behindInMarks op b = false) : DE X T W ow (.Compare a [op] [b] pos) (vOp g fa fb) :=
  pe_imp (pe_cmpR ho ha hb hm) fun _ _ _ h => rd.read h

/-- what a test asks of a value -/
def blOf : Dat → Option Bool
  | .bl b => some b
  | _ => none
def vTest (fa : DEnv → Res Dat) : DEnv → Res Bool := fun ρ => (fa ρ).bind fun x => ofO (blOf x)
theorem test_read {K : PySem.W.Frag} {σ : Sg} {H : Hp} {Q : Bool → Hp → Prop} (h : tDB K T W ow (vTest fa) σ H Q) : tD K T W ow fa σ H fun x H' => ∃ k, x = .bl k ∧ Q k H' := by
  obtain ⟨ρ, S, re, w⟩ := h
  refine WantB.part re w fun x dx H1 w1 re1 e1 rx => ?_
  cases rx with
  | bl k => exact ⟨k, rfl, w1 H1 (Ex.refl H1)⟩
  | _ => exact w1.elim
theorem dt_cmp {op : CmpOp} {r : R2} {g : Dat → Dat → Option Dat} (ho : OpR X (compareOp op) r) (rd : R2D X.K T r g) (ha : DE X T W ow a fa) (hb : DE X T W ow b fb) (hm : behindInMarks op b = false) : DT X T W ow (.Compare a [op] [b] pos) (vTest (vOp g fa fb)) :=
  pt_imp (pt_cmpR ho ha hb hm) fun σ H Q h => by
    obtain ⟨ρ, S, re, w⟩ := h
    refine rd.read (Q := fun x H' => ∃ k, x = .bl k ∧ Q k H') ?_
    exact test_read ⟨ρ, S, re, w⟩
/-- an expression that gives a bool, as a test -/
theorem dt_val (ha : DE X T W ow e fa) (he : ∀ whole, isTrue e X.env whole = (do let v ← whole; standAt e.pos; holding [v] (truthy v)) := by intro _; rfl) : DT X T W ow e (vTest fa) :=
  pt_imp (pt_val ha he) fun _ _ _ h => test_read h
/-- by truth -/
def truD : Dat → Option Bool
  | .non => some false
  | .bl b => some b
  | .int i => some (i != 0)
  | .str s => if s.length ≤ sizeLine then some ((s.length : Int) != 0) else none
  | .tup l => some !l.isEmpty
  | .lst l => some !l.isEmpty
  | _ => none
theorem truD_ok {K : PySem.W.Frag} {H H' : Hp} {x : V} {d : Dat} {k : Bool} (e : Ex H H') (r : Rep K T H x d) (h : truD d = some k) : TruV K x H' k := by
  have emp : ∀ {vs : List V} {ds : List Dat}, Reps K T H vs ds → (!vs.isEmpty) = !ds.isEmpty := fun r => by cases r <;> rfl
  cases r with
  | non => exact (Option.some.inj h).symm
  | bl b => exact (Option.some.inj h).symm
  | int i => exact (Option.some.inj h).symm
  | str s =>
    simp only [truD] at h
    by_cases z : s.length ≤ sizeLine
    · rw [if_pos z] at h
      exact ⟨z, (Option.some.inj h).symm⟩
    · rw [if_neg z] at h
      cases h
  | tup hs r => exact .inr (.inl ⟨_, ex_t e hs.sq, by rw [emp r]; exact (Option.some.inj h).symm⟩)
  | lst hs r => exact .inl ⟨_, .inl (.inl (e _ _ hs)), by rw [emp r]; exact (Option.some.inj h).symm⟩
  | frz hs r => cases h
  | obj _ _ _ => cases h
  | dct _ _ _ => cases h
  | rng _ => cases h
def vTru (fa : DEnv → Res Dat) : DEnv → Res Bool := fun ρ => (fa ρ).bind fun x => ofO (truD x)
theorem dt_truth (ha : DE X T W ow e fa) (he : ∀ whole, isTrue e X.env whole = (do let v ← whole; standAt e.pos; holding [v] (truthy v)) := by intro _; rfl) : DT X T W ow e (vTru fa) :=
  pt_imp (pt_truth ha he) fun σ H Q h => by
    obtain ⟨ρ, S, re, w⟩ := h
    refine WantB.part re w fun x dx H1 w1 re1 e1 rx => ?_
    cases q : truD dx with
    | none =>
      rw [q] at w1
      exact w1.elim
    | some k =>
      rw [q] at w1
      exact ⟨k, truD_ok hide_ex rx q, w1 H1 (Ex.refl H1)⟩
/-- and, or, not as tests -/
def vAndT (f g : DEnv → Res Bool) : DEnv → Res Bool := fun ρ => (f ρ).bind fun x => if x = true then g ρ else .ok false
def vOrT (f g : DEnv → Res Bool) : DEnv → Res Bool := fun ρ => (f ρ).bind fun x => if x = true then .ok true else g ρ
def vNotT (f : DEnv → Res Bool) : DEnv → Res Bool := fun ρ => (f ρ).bind fun x => .ok (!x)
/-- a chain of and, or -/
def DW (X : Cx) (T : CT) (W : WX) (ow : List Nat) (e : Expr) (f : DEnv → Res Bool) : Prop := PW X e (tDB X.K T W ow f)
theorem DW.dt {f : DEnv → Res Bool} (h : DW X T W ow e f) : DT X T W ow e f := PW.pt h
variable {ta tb : DEnv → Res Bool} {rest : List Expr}
theorem dw_and1 (ha : DT X T W ow a ta) : DW X T W ow (.BoolOp .And [a] pos) ta := pw_and1 ha
theorem dw_or1 (ha : DT X T W ow a ta) : DW X T W ow (.BoolOp .Or [a] pos) ta := pw_or1 ha
theorem dw_and (ha : DT X T W ow a ta) (hb : DW X T W ow (.BoolOp .And (b :: rest) pos) tb) : DW X T W ow (.BoolOp .And (a :: b :: rest) pos) (vAndT ta tb) := pw_imp (pw_and ha hb) fun σ H Q h => by
  obtain ⟨ρ, S, re, w⟩ := h
  refine WantB.partB re w fun k H1 w1 re1 e1 => ?_
  cases k with
  | true => exact ⟨ρ, S, re1, w1⟩
  | false => exact w1 H1 (Ex.refl H1)
theorem dw_or (ha : DT X T W ow a ta) (hb : DW X T W ow (.BoolOp .Or (b :: rest) pos) tb) : DW X T W ow (.BoolOp .Or (a :: b :: rest) pos) (vOrT ta tb) := pw_imp (pw_or ha hb) fun σ H Q h => by
  obtain ⟨ρ, S, re, w⟩ := h
  refine WantB.partB re w fun k H1 w1 re1 e1 => ?_
  cases k with
  | true => exact w1 H1 (Ex.refl H1)
  | false => exact ⟨ρ, S, re1, w1⟩
theorem dt_not (ha : DT X T W ow a ta) : DT X T W ow (.UnaryOp .Not a pos) (vNotT ta) := pt_imp (pt_not ha) fun σ H Q h => by
  obtain ⟨ρ, S, re, w⟩ := h
  exact WantB.partB re w fun k H1 w1 re1 e1 => w1 H1 (Ex.refl H1)
/-- and, or, not as values: all but the last are bools -/
def vAnd (fa fb : DEnv → Res Dat) : DEnv → Res Dat := fun ρ => (fa ρ).bind fun x => match x with
  | .bl true => fb ρ
  | .bl false => .ok (.bl false)
  | _ => .stuck
def vOr (fa fb : DEnv → Res Dat) : DEnv → Res Dat := fun ρ => (fa ρ).bind fun x => match x with
  | .bl true => .ok (.bl true)
  | .bl false => fb ρ
  | _ => .stuck
def notD : Dat → Option Dat
  | .bl b => some (.bl !b)
  | _ => none
def v1 (g : Dat → Option Dat) (fa : DEnv → Res Dat) : DEnv → Res Dat := fun ρ => (fa ρ).bind fun x => ofO (g x)
theorem de_one {op} (h : DE X T W ow a fa) : DE X T W ow (.BoolOp op [a] pos) fa := pe_one h
theorem de_and (ha : DE X T W ow a fa) (hb : DE X T W ow (.BoolOp .And (b :: rest) pos) fb) : DE X T W ow (.BoolOp .And (a :: b :: rest) pos) (vAnd fa fb) := pe_imp (pe_and ha hb) fun σ H Q h => by
  obtain ⟨ρ, S, re, w⟩ := h
  refine Want.part re w fun x dx H1 w1 re1 e1 rx => ?_
  cases rx with
  | bl k =>
    cases k with
    | true => exact ⟨true, rfl, ρ, S, re1, w1⟩
    | false => exact ⟨false, rfl, w1 _ H1 (Ex.refl H1) (.bl false)⟩
  | _ => exact w1.elim
theorem de_or (ha : DE X T W ow a fa) (hb : DE X T W ow (.BoolOp .Or (b :: rest) pos) fb) : DE X T W ow (.BoolOp .Or (a :: b :: rest) pos) (vOr fa fb) := pe_imp (pe_or ha hb) fun σ H Q h => by
  obtain ⟨ρ, S, re, w⟩ := h
  refine Want.part re w fun x dx H1 w1 re1 e1 rx => ?_
  cases rx with
  | bl k =>
    cases k with
    | true => exact ⟨true, rfl, w1 _ H1 (Ex.refl H1) (.bl true)⟩
    | false => exact ⟨false, rfl, ρ, S, re1, w1⟩
  | _ => exact w1.elim
theorem de_not (ha : DE X T W ow a fa) : DE X T W ow (.UnaryOp .Not a pos) (v1 notD fa) := pe_imp (pe_not ha) fun σ H Q h => by
  obtain ⟨ρ, S, re, w⟩ := h
  refine Want.part re w fun x dx H1 w1 re1 e1 rx => ?_
  cases rx with
  | bl k => exact ⟨k, rfl, w1 _ H1 (Ex.refl H1) (.bl _)⟩
  | _ => exact w1.elim
/-- a if t else b -/
def vIf (t : DEnv → Res Bool) (fa fb : DEnv → Res Dat) : DEnv → Res Dat := fun ρ => (t ρ).bind fun x => if x = true then fa ρ else fb ρ
theorem de_if (hc : DT X T W ow c ta) (ha : DE X T W ow a fa) (hb : DE X T W ow b fb) : DE X T W ow (.IfExp c a b pos) (vIf ta fa fb) := pe_imp (pe_ifExp hc ha hb) fun σ H Q h => by
  obtain ⟨ρ, S, re, w⟩ := h
  refine Want.partB re w fun k H1 w1 re1 e1 => ?_
  cases k with
  | true => exact ⟨ρ, S, re1, w1⟩
  | false => exact ⟨ρ, S, re1, w1⟩
def vIfF (t : DEnv → Res Bool) (fa fb : DEnv → Res (List Dat)) : DEnv → Res (List Dat) := fun ρ => (t ρ).bind fun x => if x = true then fa ρ else fb ρ
theorem df_if {fa fb : DEnv → Res (List Dat)} (hc : DT X T W ow c ta) (ha : DF X T W ow a fa) (hb : DF X T W ow b fb) : DF X T W ow (.IfExp c a b pos) (vIfF ta fa fb) := pe_imp (pe_ifExp hc ha hb) fun σ H Q h => by
  obtain ⟨ρ, S, re, w⟩ := h
  refine WantF.partB re w fun k H1 w1 re1 e1 => ?_
  cases k with
  | true => exact ⟨ρ, S, re1, w1⟩
  | false => exact ⟨ρ, S, re1, w1⟩
/-- a new list as a value -/
def vL (f : DEnv → Res (List Dat)) : DEnv → Res Dat := fun ρ => (f ρ).bind fun l => .ok (.lst l)
theorem de_f {f : DEnv → Res (List Dat)} (h : DF X T W ow e f) : DE X T W ow e (vL f) := pe_imp h fun σ H Q h => by
  obtain ⟨ρ, S, re, w⟩ := h
  exact ⟨ρ, S, re, WantF.of w re.mt⟩
/-! ### arguments, displays -/
def aNil : DEnv → Res (List Dat) := fun _ => .ok []
def aCons (f : DEnv → Res Dat) (g : DEnv → Res (List Dat)) : DEnv → Res (List Dat) := fun ρ => (f ρ).bind fun x => (g ρ).bind fun l => .ok (x :: l)
theorem da_nil : DA X T W ow [] aNil := pa_imp pa_nil fun σ H Q h => by
  obtain ⟨ρ, S, re, w⟩ := h
  exact w [] H (Ex.refl H) .nil
theorem da_cons {fs : DEnv → Res (List Dat)} (h : DE X T W ow e fa) (hs : DA X T W ow es fs) (hst : starEach (e :: es) X.env = (false, eval e X.env) :: starEach es X.env := by rfl) : DA X T W ow (e :: es) (aCons fa fs) := pa_imp (pa_cons h hs hst) fun σ H Q h => by
  obtain ⟨ρ, S, re, w⟩ := h
  refine WantA.part re w fun x dx H1 w1 re1 e1 rx => ?_
  refine WantA.partA re1 w1 fun vs ds H2 w2 re2 e2 rs => ?_
  exact w2 _ H2 (Ex.refl H2) (.cons (rx.mono (hide_mono e2)) rs)
def vTup (f : DEnv → Res (List Dat)) : DEnv → Res Dat := fun ρ => (f ρ).bind fun l => if l.length ≤ 1000 then .ok (.tup l) else .stuck
def fLst (f : DEnv → Res (List Dat)) : DEnv → Res (List Dat) := fun ρ => (f ρ).bind fun l => if l.length ≤ 1000 then .ok l else .stuck
theorem de_tup {x1} {fs : DEnv → Res (List Dat)} (hs : DA X T W ow es fs) : DE X T W ow (.Tuple es x1 pos) (vTup fs) := pe_imp (pe_tupN hs) fun σ H Q h => by
  obtain ⟨ρ, S, re, w⟩ := h
  refine Want.partA re w fun vs ds H1 w1 re1 e1 rs => ?_
  split at w1
  · rename_i hl
    refine ⟨Nat.le_trans (by rw [rs.length]; exact hl) (by decide : 1000 ≤ sizeLine), fun p o hp t => ?_⟩
    exact w1 _ _ (Ex.new hp) (rep_newT re1.mt hp t rs)
  · exact w1.elim
theorem df_lst {fs : DEnv → Res (List Dat)} (hs : DA X T W ow es fs) : DF X T W ow (.List es pos) (fLst fs) := pe_imp (pe_lst hs) fun σ H Q h => by
  obtain ⟨ρ, S, re, w⟩ := h
  refine WantF.partA re w fun vs ds H1 w1 re1 e1 rs => ?_
  split at w1
  · rename_i hl
    refine ⟨Nat.le_trans (by rw [rs.length]; exact hl) (by decide : 1000 ≤ sizeLine), fun p hp => ?_⟩
    exact w1 p vs _ (Ex.new hp) hp upd_same (rs.mono (hide_new (Ex.new hp) hp))
  · exact w1.elim
end
end Dl
/-! The D layer, part 3: operators, items, slices, built-ins. -/
namespace Dl
open PySem PySem.Spec PyProof.Rows L2

/-! ### arithmetic -/
def addD : Dat → Dat → Option Dat
  | .int i, .int j => some (.int (i + j))
  | .str a, .str b => if a.length + b.length ≤ sizeLine then some (.str (a ++ b)) else none
  | .tup a, .tup b => if a.length + b.length ≤ sizeLine then some (.tup (a ++ b)) else none
  | .lst a, .lst b => if a.length + b.length ≤ sizeLine then some (.lst (a ++ b)) else none
  | _, _ => none
def intOp (g : Int → Int → Option Int) : Dat → Dat → Option Dat
  | .int i, .int j => (g i j).map .int
  | _, _ => none
def subD := intOp fun i j => some (i - j)
def fdivI (i j : Int) : Option Int := if 0 < j then (if j.natAbs.log2 < 9000 then some (i / j) else none) else if j ≠ 0 ∧ j.natAbs < 1073741824 then some (i.fdiv j) else none
def fdivD := intOp fdivI
def modI (i j : Int) : Option Int := if 0 < j then some (i % j) else if j ≠ 0 then some (i.fmod j) else none
def modD := intOp modI
def powI (i j : Int) : Option Int := if 0 ≤ j ∧ j ≤ 1000 ∧ i.natAbs < 2 ^ 64 then some (i ^ j.toNat) else none
def powD := intOp powI
def mulOk (i j : Int) : Bool := decide (i.natAbs < 2 ^ 64) || decide (j.natAbs < 2 ^ 64) || decide (i.natAbs.log2 + j.natAbs.log2 < 1000000)
def mulD : Dat → Dat → Option Dat
  | .int i, .int j => if mulOk i j then some (.int (i * j)) else none
  | .lst l, .int k => if k ≤ 100000 ∧ -100000 ≤ k ∧ l.length ≤ 100 then some (.lst (List.replicate k.toNat l).flatten) else none
  | .tup l, .int k => if 2 ≤ k ∧ k ≤ 1000 ∧ l.length ≤ 1000 ∧ l.isEmpty = false then some (.tup (List.replicate k.toNat l).flatten) else none
  | _, _ => none
def negD : Dat → Option Dat
  | .int i => some (.int (-i))
  | _ => none
section
variable {K : PySem.W.Frag} {T : CT}
theorem intOp_some {g : Int → Int → Option Int} {dx dy d : Dat} (h : intOp g dx dy = some d) : ∃ i j k, dx = .int i ∧ dy = .int j ∧ g i j = some k ∧ d = .int k := by
  unfold intOp at h
  split at h
  · rename_i i j
    cases q : g i j with
    | none =>
      rw [q] at h
      cases h
    | some k =>
      rw [q] at h
      exact ⟨i, j, k, rfl, rfl, q, (Option.some.inj h).symm⟩
  · cases h
theorem rd_int {r : R2} {g : Int → Int → Option Int} (h : ∀ i j k H (Q : VK), g i j = some k → Q (.int k) H → r (.int i) (.int j) H Q) : R2D K T r (intOp g) := fun S H x y dx dy d Q m rx ry e q => by
  obtain ⟨i, j, k, rfl, rfl, e2, rfl⟩ := intOp_some e
  cases rx
  cases ry
  exact h i j k H Q e2 (q _ H (Ex.refl H) (.int k))
theorem rd_sub : R2D K T (rI0 fun i j => .int (i - j)) subD := rd_int fun i j k H Q e q => ⟨i, j, rfl, rfl, by cases e; exact q⟩
def rFdivAll : R2 := fun x y H Q => rI CDivW (fun i j => .int (i / j)) x y H Q ∨ rI CDivN (fun i j => .int (i.fdiv j)) x y H Q
theorem op_fdivAll {X : Cx} : OpR X (binaryOp .FloorDiv) rFdivAll := op_fdivW.or op_fdivN
theorem rd_fdiv : R2D K T rFdivAll fdivD := rd_int fun i j k H Q e q => by
  unfold fdivI at e
  split at e
  · split at e
    · rename_i h1 h2
      exact .inl ⟨i, j, rfl, rfl, ⟨h1, h2⟩, by cases e; exact q⟩
    · cases e
  · split at e
    · rename_i h1 h2
      exact .inr ⟨i, j, rfl, rfl, h2, by cases e; exact q⟩
    · cases e
def rModAll : R2 := fun x y H Q => rI (fun _ j => 0 < j) (fun i j => .int (i % j)) x y H Q ∨ rI (fun _ j => j ≠ 0) (fun i j => .int (i.fmod j)) x y H Q
theorem op_modAll {X : Cx} : OpR X (binaryOp .Mod) rModAll := op_mod.or op_modN
theorem rd_mod : R2D K T rModAll modD := rd_int fun i j k H Q e q => by
  unfold modI at e
  split at e
  · rename_i h1
    exact .inl ⟨i, j, rfl, rfl, h1, by cases e; exact q⟩
  · split at e
    · rename_i h1 h2
      exact .inr ⟨i, j, rfl, rfl, h2, by cases e; exact q⟩
    · cases e
theorem rd_pow : R2D K T (rI CPow fun i j => .int (i ^ j.toNat)) powD := rd_int fun i j k H Q e q => by
  unfold powI at e
  split at e
  · rename_i h1
    exact ⟨i, j, rfl, rfl, ⟨h1.1, by omega, h1.2.2⟩, by cases e; exact q⟩
  · cases e
def rAddAll (K : PySem.W.Frag) : R2 := fun x y H Q => rI0 (fun i j => .int (i + j)) x y H Q ∨ ((∃ i j, x = .str i ∧ y = .str j ∧ i.length + j.length ≤ sizeLine ∧ Q (.str (i ++ j)) H) ∨ (rCatN K x y H Q ∨ rCat x y H Q))
theorem op_addAll {X : Cx} : OpR X (binaryOp .Add) (rAddAll X.K) := op_add.or (op_add_str.or (op_catN.or op_cat))
theorem rd_add : R2D K T (rAddAll K) addD := fun S H x y dx dy d Q m rx ry e q => by
  cases rx with
  | int i =>
    cases ry with
    | int j => exact .inl ⟨i, j, rfl, rfl, by cases e; exact q _ H (Ex.refl H) (.int _)⟩
    | _ => cases e
  | str a =>
    cases ry with
    | str b =>
      simp only [addD] at e
      by_cases z : a.length + b.length ≤ sizeLine
      · rw [if_pos z] at e
        exact .inr (.inl ⟨a, b, rfl, rfl, z, by cases e; exact q _ H (Ex.refl H) (.str _)⟩)
      · rw [if_neg z] at e
        cases e
    | _ => cases e
  | @tup p vs ds hs rs =>
    cases ry with
    | @tup p' ws es ht ss =>
      simp only [addD] at e
      by_cases z : ds.length + es.length ≤ sizeLine
      · rw [if_pos z] at e
        cases e
        refine .inr (.inr (.inl ⟨p, p', vs, ws, rfl, rfl, ex_t hide_ex hs.sq, ex_t hide_ex ht.sq, by rw [rs.length, ss.length]; exact z, fun h => ?_, fun _ h => ?_, fun _ _ p2 o np t => ?_⟩))
        · subst h
          cases rs
          exact q _ H (Ex.refl H) (.tup ht ss)
        · subst h
          cases ss
          rw [List.append_nil] at q
          exact q _ H (Ex.refl H) (.tup hs rs)
        · exact q _ _ (Ex.new np) (rep_newT m np t (rs.append ss))
      · rw [if_neg z] at e
        cases e
    | _ => cases e
  | @lst p vs ds hs rs =>
    cases ry with
    | @lst p' ws es ht ss =>
      simp only [addD] at e
      by_cases z : ds.length + es.length ≤ sizeLine
      · rw [if_pos z] at e
        cases e
        refine .inr (.inr (.inr ⟨p, p', vs, ws, rfl, rfl, hide_ex _ _ hs, hide_ex _ _ ht, by rw [rs.length, ss.length]; exact z, fun p2 np => ?_⟩))
        exact q _ _ (Ex.new np) (rep_newL m np (rs.append ss))
      · rw [if_neg z] at e
        cases e
    | _ => cases e
  | _ => cases e
def rMulAll (K : PySem.W.Frag) : R2 := fun x y H Q => rI CMul (fun i j => .int (i * j)) x y H Q ∨ (rI CMulW (fun i j => .int (i * j)) x y H Q ∨ (rRep x y H Q ∨ rRepN K x y H Q))
theorem op_mulAll {X : Cx} : OpR X (binaryOp .Mult) (rMulAll X.K) := op_mul.or (op_mulW.or (op_rep.or op_repN))
theorem mul64 {i : Int} (h : i.natAbs < 2 ^ 64) : -(2 ^ 64) < i ∧ i < 2 ^ 64 := by omega
theorem rd_mul : R2D K T (rMulAll K) mulD := fun S H x y dx dy d Q m rx ry e q => by
  cases rx with
  | int i =>
    cases ry with
    | int j =>
      simp only [mulD] at e
      by_cases z : mulOk i j = true
      · rw [if_pos z] at e
        cases e
        unfold mulOk at z
        rw [Bool.or_eq_true, Bool.or_eq_true] at z
        rcases z with (z | z) | z
        · exact .inl ⟨i, j, rfl, rfl, .inl (mul64 (of_decide_eq_true z)), q _ H (Ex.refl H) (.int _)⟩
        · exact .inl ⟨i, j, rfl, rfl, .inr (mul64 (of_decide_eq_true z)), q _ H (Ex.refl H) (.int _)⟩
        · have z' := of_decide_eq_true z
          exact .inr (.inl ⟨i, j, rfl, rfl, z', q _ H (Ex.refl H) (.int _)⟩)
      · rw [if_neg z] at e
        cases e
    | _ => cases e
  | @lst p vs ds hs rs =>
    cases ry with
    | int k =>
      simp only [mulD] at e
      by_cases z : k ≤ 100000 ∧ -100000 ≤ k ∧ ds.length ≤ 100
      · rw [if_pos z] at e
        cases e
        obtain ⟨z1, z2, z3⟩ := z
        have hk : k.toNat ≤ 100000 := by omega
        refine .inr (.inr (.inl ⟨p, k, vs, rfl, rfl, hide_ex _ _ hs, by omega, by omega, ?_, fun p2 np => ?_⟩))
        · rw [rs.length]
          exact Nat.le_trans (Nat.mul_le_mul z3 hk) (by decide)
        · exact q _ _ (Ex.new np) (rep_newL m np (rs.flatten_replicate _))
      · rw [if_neg z] at e
        cases e
    | _ => cases e
  | @tup p vs ds hs rs =>
    cases ry with
    | int k =>
      simp only [mulD] at e
      by_cases z : 2 ≤ k ∧ k ≤ 1000 ∧ ds.length ≤ 1000 ∧ ds.isEmpty = false
      · rw [if_pos z] at e
        cases e
        obtain ⟨z1, z2, z3, z4⟩ := z
        refine .inr (.inr (.inr ⟨p, k, vs, rfl, rfl, ex_t hide_ex hs.sq, ?_, z1, z2, by rw [rs.length]; exact z3, fun p2 o np t => ?_⟩))
        · rintro rfl
          cases rs
          cases z4
        · exact q _ _ (Ex.new np) (rep_newT m np t (rs.flatten_replicate _))
      · rw [if_neg z] at e
        cases e
    | _ => cases e
  | _ => cases e
end

/-! ### == at any depth -/
mutual
def toPy : Dat → PyData
  | .non => .none
  | .bl b => .bool b
  | .int i => .int i
  | .str s => .str s
  | .tup l => .tuple (toPys l)
  | .lst l => .list (toPys l)
  | .frz _ => .none
  | .obj _ _ => .none
  | .dct _ _ => .none
  | .rng _ _ _ => .none
def toPys : List Dat → List PyData
  | [] => []
  | d :: r => toPy d :: toPys r
end
mutual
def eqvD : Dat → Dat → Bool
  | .non, .non => true
  | .bl a, .bl b => a == b
  | .bl a, .int j => (if a then 1 else 0) == j
  | .int i, .bl b => i == (if b then 1 else 0)
  | .int i, .int j => i == j
  | .str x, .str y => x == y
  | .lst xs, .lst ys => eqvDs xs ys
  | .tup xs, .tup ys => eqvDs xs ys
  | _, _ => false
def eqvDs : List Dat → List Dat → Bool
  | [], [] => true
  | x :: xs, y :: ys => eqvD x y && eqvDs xs ys
  | _, _ => false
end
/-- what may be compared: none, bools, ints, texts, lists and tuples of these, n deep -/
def shp : Nat → Dat → Bool
  | _, .non => true
  | _, .bl _ => true
  | _, .int _ => true
  | _, .str s => s.cps.all fun c => decide (c < 0x110000)
  | n + 1, .tup l => l.all (shp n)
  | n + 1, .lst l => l.all (shp n)
  | _, _ => false
theorem toPys_map (l : List Dat) : toPys l = l.map toPy := by
  induction l with
  | nil => rfl
  | cons d r ih => rw [toPys, ih]; rfl
theorem canAll_of {l : List PyData} (h : ∀ d ∈ l, d.canLay0 = true) : PyData.canLayAll0 l = true := by
  induction l with
  | nil => simp [PyData.canLayAll0]
  | cons d r ih =>
    rw [PyData.canLayAll0, h d List.mem_cons_self, ih fun e he => h e (List.mem_cons_of_mem _ he)]
    rfl
theorem depthAll_of {l : List PyData} {n : Nat} (h : ∀ d ∈ l, d.depth ≤ n) : PyData.depthAll l ≤ n := by
  induction l with
  | nil => simp [PyData.depthAll]
  | cons d r ih =>
    rw [PyData.depthAll]
    exact Nat.max_le.mpr ⟨h d List.mem_cons_self, ih fun e he => h e (List.mem_cons_of_mem _ he)⟩
theorem shp_ok : ∀ (n : Nat) (d : Dat), shp n d = true → (toPy d).canLay0 = true ∧ (toPy d).depth ≤ n
  | n, .non, _ => ⟨by simp [toPy, PyData.canLay0], by simp [toPy, PyData.depth]⟩
  | n, .bl _, _ => ⟨by simp [toPy, PyData.canLay0], by simp [toPy, PyData.depth]⟩
  | n, .int _, _ => ⟨by simp [toPy, PyData.canLay0], by simp [toPy, PyData.depth]⟩
  | n, .str s, h => by
    have h' : s.cps.all (fun c => decide (c < 0x110000)) = true := by
      cases n <;> exact h
    exact ⟨by simp only [toPy, PyData.canLay0]; exact h', by simp [toPy, PyData.depth]⟩
  | 0, .tup _, h => by cases h
  | 0, .lst _, h => by cases h
  | n + 1, .tup l, h => by
    have h' : ∀ d ∈ l, shp n d = true := List.all_eq_true.mp h
    have ih : ∀ p ∈ toPys l, p.canLay0 = true ∧ p.depth ≤ n := fun p hp => by
      rw [toPys_map] at hp
      obtain ⟨d, hd, rfl⟩ := List.mem_map.mp hp
      exact shp_ok n d (h' d hd)
    refine ⟨?_, ?_⟩
    · simp only [toPy, PyData.canLay0]
      exact canAll_of fun p hp => (ih p hp).1
    · simp only [toPy, PyData.depth]
      exact Nat.succ_le_succ (depthAll_of fun p hp => (ih p hp).2)
  | n + 1, .lst l, h => by
    have h' : ∀ d ∈ l, shp n d = true := List.all_eq_true.mp h
    have ih : ∀ p ∈ toPys l, p.canLay0 = true ∧ p.depth ≤ n := fun p hp => by
      rw [toPys_map] at hp
      obtain ⟨d, hd, rfl⟩ := List.mem_map.mp hp
      exact shp_ok n d (h' d hd)
    refine ⟨?_, ?_⟩
    · simp only [toPy, PyData.canLay0]
      exact canAll_of fun p hp => (ih p hp).1
    · simp only [toPy, PyData.depth]
      exact Nat.succ_le_succ (depthAll_of fun p hp => (ih p hp).2)
  | 0, .frz _, h => by cases h
  | n + 1, .frz _, h => by cases h
  | 0, .obj _ _, h => by cases h
  | n + 1, .obj _ _, h => by cases h
  | 0, .dct _ _, h => by cases h
  | n + 1, .dct _ _, h => by cases h
  | 0, .rng _ _ _, h => by cases h
  | n + 1, .rng _ _ _, h => by cases h
theorem shaped_of {n : Nat} {d : Dat} (h : shp n d = true) (hn : n ≤ 64) : SeqAt.shaped (toPy d) = true := by
  obtain ⟨a, b⟩ := shp_ok n d h
  unfold SeqAt.shaped
  rw [a, decide_eq_true (Nat.le_trans b hn)]
  rfl
mutual
theorem eqv_toPy : ∀ (n : Nat) (d e : Dat), shp n d = true → shp n e = true → PyData.eqv (toPy d) (toPy e) = eqvD d e
  | n, .non, e, _, he => by cases e <;> first | rfl | (cases n <;> cases he)
  | n, .bl _, e, _, he => by cases e <;> first | rfl | (cases n <;> cases he)
  | n, .int _, e, _, he => by cases e <;> first | rfl | (cases n <;> cases he)
  | n, .str _, e, _, he => by cases e <;> first | rfl | (cases n <;> cases he)
  | 0, .tup _, _, hd, _ => by cases hd
  | 0, .lst _, _, hd, _ => by cases hd
  | n + 1, .tup l, e, hd, he => by
    cases e with
    | tup m =>
      simp only [toPy, PyData.eqv, eqvD]
      exact eqvs_toPy n l m (List.all_eq_true.mp hd) (List.all_eq_true.mp he)
    | frz _ => cases he
    | obj _ _ => cases he
    | dct _ _ => cases he
    | rng _ _ _ => cases he
    | _ => simp [toPy, PyData.eqv, eqvD]
  | n + 1, .lst l, e, hd, he => by
    cases e with
    | lst m =>
      simp only [toPy, PyData.eqv, eqvD]
      exact eqvs_toPy n l m (List.all_eq_true.mp hd) (List.all_eq_true.mp he)
    | frz _ => cases he
    | obj _ _ => cases he
    | dct _ _ => cases he
    | rng _ _ _ => cases he
    | _ => simp [toPy, PyData.eqv, eqvD]
  | 0, .frz _, _, hd, _ => by cases hd
  | n + 1, .frz _, _, hd, _ => by cases hd
  | 0, .obj _ _, _, hd, _ => by cases hd
  | n + 1, .obj _ _, _, hd, _ => by cases hd
  | 0, .dct _ _, _, hd, _ => by cases hd
  | n + 1, .dct _ _, _, hd, _ => by cases hd
  | 0, .rng _ _ _, _, hd, _ => by cases hd
  | n + 1, .rng _ _ _, _, hd, _ => by cases hd
theorem eqvs_toPy : ∀ (n : Nat) (l m : List Dat), (∀ d ∈ l, shp n d = true) → (∀ d ∈ m, shp n d = true) → PyData.eqvAll (toPys l) (toPys m) = eqvDs l m
  | _, [], [], _, _ => by simp [toPys, PyData.eqvAll, eqvDs]
  | _, [], _ :: _, _, _ => by simp [toPys, PyData.eqvAll, eqvDs]
  | _, _ :: _, [], _, _ => by simp [toPys, PyData.eqvAll, eqvDs]
  | n, d :: l, e :: m, h1, h2 => by
    simp only [toPys, PyData.eqvAll, eqvDs]
    rw [eqv_toPy n d e (h1 d List.mem_cons_self) (h2 e List.mem_cons_self), eqvs_toPy n l m (fun x hx => h1 x (List.mem_cons_of_mem _ hx)) fun x hx => h2 x (List.mem_cons_of_mem _ hx)]
end
section
variable {K : PySem.W.Frag} {T : CT} {H : Hp}
mutual
theorem Rep.dp : ∀ {n : Nat} {v : V} {d : Dat}, shp n d = true → Rep K T H v d → Dp K H v (toPy d)
  | _, _, _, _, .non => .non
  | _, _, _, _, .bl b => .bl b
  | _, _, _, _, .int i => .int i
  | _, _, _, _, .str x => .str x
  | n + 1, _, .tup l, h, .tup hs r => .tup hs.sq (Reps.dp (List.all_eq_true.mp h) r)
  | n + 1, _, .lst l, h, .lst hs r => .lst (.inl (.inl hs)) (Reps.dp (List.all_eq_true.mp h) r)
  | 0, _, _, h, .tup _ _ => by cases h
  | 0, _, _, h, .lst _ _ => by cases h
  | 0, _, _, h, .frz _ _ => by cases h
  | _ + 1, _, _, h, .frz _ _ => by cases h
  | 0, _, _, h, .obj _ _ _ => by cases h
  | _ + 1, _, _, h, .obj _ _ _ => by cases h
  | 0, _, _, h, .dct _ _ _ => by cases h
  | _ + 1, _, _, h, .dct _ _ _ => by cases h
  | 0, _, _, h, .rng _ => by cases h
  | _ + 1, _, _, h, .rng _ => by cases h
theorem Reps.dp : ∀ {n : Nat} {vs : List V} {ds : List Dat}, (∀ d ∈ ds, shp n d = true) → Reps K T H vs ds → DpAll K H vs (toPys ds)
  | _, _, _, _, .nil => .nil
  | _, _, _, h, .cons r rs => .cons (Rep.dp (h _ List.mem_cons_self) r) (Reps.dp (fun d hd => h d (List.mem_cons_of_mem _ hd)) rs)
end
end
def eqD (d e : Dat) : Option Dat := if (shp 8 d && shp 8 e) = true then some (.bl (eqvD d e)) else none
def neD (d e : Dat) : Option Dat := if (shp 8 d && shp 8 e) = true then some (.bl (!eqvD d e)) else none
section
variable {K : PySem.W.Frag} {T : CT}
theorem rd_eq : R2D K T (rEqD K) eqD := fun S H x y dx dy d Q m rx ry e q => by
  unfold eqD at e
  split at e
  · rename_i z
    rw [Bool.and_eq_true] at z
    cases e
    refine ⟨toPy dx, toPy dy, (rx.mono hide_ex).dp z.1, (ry.mono hide_ex).dp z.2, shaped_of z.1 (by decide), shaped_of z.2 (by decide), ?_⟩
    rw [eqv_toPy 8 _ _ z.1 z.2]
    exact q _ H (Ex.refl H) (.bl _)
  · cases e
theorem rd_ne : R2D K T (rNeD K) neD := fun S H x y dx dy d Q m rx ry e q => by
  unfold neD at e
  split at e
  · rename_i z
    rw [Bool.and_eq_true] at z
    cases e
    refine ⟨toPy dx, toPy dy, (rx.mono hide_ex).dp z.1, (ry.mono hide_ex).dp z.2, shaped_of z.1 (by decide), shaped_of z.2 (by decide), ?_⟩
    rw [eqv_toPy 8 _ _ z.1 z.2]
    exact q _ H (Ex.refl H) (.bl _)
  · cases e
/-! ### order of ints, is, in -/
def cmpI (g : Int → Int → Bool) : Dat → Dat → Option Dat
  | .int i, .int j => some (.bl (g i j))
  | _, _ => none
def ltD := cmpI fun i j => decide (i < j)
def leD := cmpI fun i j => decide (i ≤ j)
def gtD := cmpI fun i j => decide (j < i)
def geD := cmpI fun i j => decide (j ≤ i)
theorem rd_cmp {g : Int → Int → Bool} : R2D K T (rI0 fun i j => .bl (g i j)) (cmpI g) := fun S H x y dx dy d Q m rx ry e q => by
  cases rx with
  | int i =>
    cases ry with
    | int j => exact ⟨i, j, rfl, rfl, by cases e; exact q _ H (Ex.refl H) (.bl _)⟩
    | _ => cases e
  | _ => cases e
def isNonD : Dat → Bool
  | .non => true
  | _ => false
def isND : Dat → Dat → Option Dat
  | d, .non => some (.bl (isNonD d))
  | _, _ => none
def notND : Dat → Dat → Option Dat
  | d, .non => some (.bl (!isNonD d))
  | _, _ => none
theorem isNon_rep {H : Hp} {x : V} {d : Dat} (r : Rep K T H x d) : decide (x = V.non) = isNonD d := by cases r <;> rfl
theorem rd_isN : R2D K T (fun x y H Q => y = .non ∧ Q (.bl (decide (x = .non))) H) isND := fun S H x y dx dy d Q m rx ry e q => by
  cases ry with
  | non =>
    refine ⟨rfl, ?_⟩
    rw [isNon_rep rx]
    have e' : some (Dat.bl (isNonD dx)) = some d := by cases dx <;> exact e
    cases e'
    exact q _ H (Ex.refl H) (.bl _)
  | _ => cases dx <;> cases e
theorem rd_notN : R2D K T (fun x y H Q => y = .non ∧ Q (.bl (!decide (x = .non))) H) notND := fun S H x y dx dy d Q m rx ry e q => by
  cases ry with
  | non =>
    refine ⟨rfl, ?_⟩
    rw [isNon_rep rx]
    have e' : some (Dat.bl (!isNonD dx)) = some d := by cases dx <;> exact e
    cases e'
    exact q _ H (Ex.refl H) (.bl _)
  | _ => cases dx <;> cases e
def isFlat : Dat → Bool
  | .non => true
  | .bl _ => true
  | .int _ => true
  | .str _ => true
  | _ => false
/-- one sign in a text -/
def oneIn (x z : Str) : Option Bool := match x.cps.toList with
  | [c] => some (decide (c ∈ z.cps.toList))
  | _ => none
def inD (neg : Bool) : Dat → Dat → Option Dat
  | x, .tup l => if (isFlat x && l.all isFlat) = true then some (.bl (if neg then !l.any (fun y => eqvD y x) else l.any (fun y => eqvD y x))) else none
  | x, .lst l => if (shp 8 x && shp 8 (.lst l)) = true then some (.bl (if neg then !l.any (fun y => eqvD y x) else l.any (fun y => eqvD y x))) else none
  | .str x, .str z => (oneIn x z).map fun b => .bl (if neg then !b else b)
  | _, _ => none
theorem flat_rep {H : Hp} {x : V} {d : Dat} (r : Rep K T H x d) : flatV x = isFlat d := by cases r <;> rfl
theorem flats_rep {H : Hp} : ∀ {xs : List V} {ds : List Dat}, Reps K T H xs ds → xs.all flatV = ds.all isFlat
  | _, _, .nil => rfl
  | _, _, .cons r s => by rw [List.all_cons, List.all_cons, flat_rep r, flats_rep s]
theorem eqV_rep {H : Hp} {x y : V} {d e : Dat} (r : Rep K T H y e) (s : Rep K T H x d) (f : isFlat d = true) (g : isFlat e = true) : eqV y x = eqvD e d := by
  cases r <;> cases s <;> first | rfl | (cases f) | (cases g) | skip
theorem inV_rep {H : Hp} {x : V} {d : Dat} (s : Rep K T H x d) (f : isFlat d = true) : ∀ {xs : List V} {ds : List Dat}, Reps K T H xs ds → ds.all isFlat = true → inV x xs = ds.any fun y => eqvD y d
  | _, _, .nil, _ => rfl
  | _, e :: es, .cons r rs, g => by
    have g' : isFlat e = true ∧ es.all isFlat = true := by
      rw [List.all_cons, Bool.and_eq_true] at g
      exact g
    have ih := inV_rep s f rs g'.2
    unfold inV at ih ⊢
    rw [List.any_cons, List.any_cons, eqV_rep r s f g'.1, ih]
def rInAll (K : PySem.W.Frag) (neg : Bool) : R2 := fun x y H Q => rIn K neg x y H Q ∨ ((∃ d ds, Dp K H x d ∧ Dp K H y (.list ds) ∧ SeqAt.shaped d = true ∧ SeqAt.shaped (.list ds) = true ∧ Q (.bl (if neg then !ds.any fun z => PyData.eqv z d else ds.any fun z => PyData.eqv z d)) H) ∨
  ∃ (c : Nat) (z : Str), x = .str ⟨#[c]⟩ ∧ y = .str z ∧ Q (.bl (if neg then !decide (c ∈ z.cps.toList) else decide (c ∈ z.cps.toList))) H)
theorem op_inAll {X : Cx} (hu : X.A.units + 65 < cLine) : OpR X (compareOp .In) (rInAll X.K false) := op_in_seq.or ((op_inD hu).or op_in_sign)
theorem op_notInAll {X : Cx} (hu : X.A.units + 65 < cLine) : OpR X (compareOp .NotIn) (rInAll X.K true) := op_notIn_seq.or ((op_notInD hu).or op_notIn_sign)
theorem any_toPy {n : Nat} {d : Dat} (h : shp n d = true) : ∀ {l : List Dat}, (∀ e ∈ l, shp n e = true) → (toPys l).any (fun z => PyData.eqv z (toPy d)) = l.any fun y => eqvD y d
  | [], _ => rfl
  | e :: l, hl => by rw [toPys, List.any_cons, List.any_cons, eqv_toPy n e d (hl e List.mem_cons_self) h, any_toPy h fun x hx => hl x (List.mem_cons_of_mem _ hx)]
theorem shp_up : ∀ (n : Nat) (d : Dat), shp n d = true → shp (n + 1) d = true
  | n, .non, _ => rfl
  | n, .bl _, _ => rfl
  | n, .int _, _ => rfl
  | n, .str s, h => by cases n <;> exact h
  | 0, .tup _, h => by cases h
  | 0, .lst _, h => by cases h
  | n + 1, .tup l, h => by
    have h' : ∀ d ∈ l, shp n d = true := List.all_eq_true.mp h
    exact List.all_eq_true.mpr fun d hd => shp_up n d (h' d hd)
  | n + 1, .lst l, h => by
    have h' : ∀ d ∈ l, shp n d = true := List.all_eq_true.mp h
    exact List.all_eq_true.mpr fun d hd => shp_up n d (h' d hd)
  | 0, .frz _, h => by cases h
  | n + 1, .frz _, h => by cases h
  | 0, .obj _ _, h => by cases h
  | n + 1, .obj _ _, h => by cases h
  | 0, .dct _ _, h => by cases h
  | n + 1, .dct _ _, h => by cases h
  | 0, .rng _ _ _, h => by cases h
  | n + 1, .rng _ _ _, h => by cases h
theorem rd_in {neg : Bool} : R2D K T (rInAll K neg) (inD neg) := fun S H x y dx dy d Q m rx ry e q => by
  cases ry with
  | @tup p vs ds hs rs =>
    have e' : (if (isFlat dx && ds.all isFlat) = true then some (Dat.bl (if neg then !ds.any (fun y => eqvD y dx) else ds.any (fun y => eqvD y dx))) else none) = some d := by cases dx <;> exact e
    split at e'
    · rename_i z
      rw [Bool.and_eq_true] at z
      cases e'
      refine .inl ⟨p, vs, rfl, .inr (ex_t hide_ex hs.sq), by rw [flat_rep rx]; exact z.1, by rw [flats_rep rs]; exact z.2, ?_⟩
      rw [inV_rep rx z.1 rs z.2]
      exact q _ H (Ex.refl H) (.bl _)
    · cases e'
  | @lst p vs ds hs rs =>
    have e' : (if (shp 8 dx && shp 8 (.lst ds)) = true then some (Dat.bl (if neg then !ds.any (fun y => eqvD y dx) else ds.any (fun y => eqvD y dx))) else none) = some d := by cases dx <;> exact e
    split at e'
    · rename_i z
      rw [Bool.and_eq_true] at z
      cases e'
      have za : ∀ d ∈ ds, shp 8 d = true := fun d hd => shp_up 7 d (List.all_eq_true.mp z.2 d hd)
      refine .inr (.inl ⟨toPy dx, toPys ds, (rx.mono hide_ex).dp z.1, ?_, shaped_of z.1 (by decide), ?_, ?_⟩)
      · exact (Rep.mono hide_ex (.lst hs rs)).dp (d := .lst ds) z.2
      · exact shaped_of (d := .lst ds) z.2 (by decide)
      · rw [any_toPy z.1 za]
        exact q _ H (Ex.refl H) (.bl _)
    · cases e'
  | str z =>
    cases rx with
    | str w =>
      obtain ⟨⟨l⟩⟩ := w
      simp only [inD, oneIn] at e
      match l, e with
      | [], e => cases e
      | [c], e =>
        cases e
        exact .inr (.inr ⟨c, z, rfl, rfl, q _ H (Ex.refl H) (.bl _)⟩)
      | _ :: _ :: _, e => cases e
    | _ => cases e
  | _ => cases dx <;> cases e
/-! ### items -/
def ixD : Dat → Dat → Option Dat
  | .lst l, .int i => atI l i
  | .frz l, .int i => atI l i
  | .tup l, .int i => atI l i
  | .str z, .int i => if z.length ≤ sizeLine then (atI z.cps.toList i).map fun c => .str ⟨#[c]⟩ else none
  | _, _ => none
theorem atI_rep {H : Hp} {vs : List V} {ds : List Dat} {i : Int} {d : Dat} (r : Reps K T H vs ds) (h : atI ds i = some d) : ∃ v, atI vs i = some v ∧ Rep K T H v d := by
  unfold atI at h ⊢
  rw [r.length]
  cases q : ixN ds.length i with
  | none =>
    rw [q] at h
    cases h
  | some j =>
    rw [q] at h
    obtain ⟨v, h1, h2⟩ := r.get h
    exact ⟨v, h1, h2⟩
theorem rd_ix : R2D K T (rIx K) ixD := fun S H x y dx dy d Q m rx ry e q => by
  cases rx with
  | @lst p vs ds hs rs =>
    cases ry with
    | int i =>
      obtain ⟨v, h1, h2⟩ := atI_rep rs e
      exact .inl ⟨p, vs, i, v, rfl, rfl, .inl (.inl (hide_ex _ _ hs)), h1, q v H (Ex.refl H) h2⟩
    | _ => cases e
  | @frz p vs ds hs rs =>
    cases ry with
    | int i =>
      obtain ⟨v, h1, h2⟩ := atI_rep rs e
      exact .inl ⟨p, vs, i, v, rfl, rfl, ex_l hide_ex hs, h1, q v H (Ex.refl H) h2⟩
    | _ => cases e
  | @tup p vs ds hs rs =>
    cases ry with
    | int i =>
      obtain ⟨v, h1, h2⟩ := atI_rep rs e
      exact .inr (.inl ⟨p, vs, i, v, rfl, rfl, ex_t hide_ex hs.sq, h1, q v H (Ex.refl H) h2⟩)
    | _ => cases e
  | str z =>
    cases ry with
    | int i =>
      simp only [ixD] at e
      split at e
      · rename_i hz
        cases h : atI z.cps.toList i with
        | none =>
          rw [h] at e
          cases e
        | some c =>
          rw [h] at e
          cases e
          exact .inr (.inr ⟨z, i, c, rfl, rfl, hz, h, q _ H (Ex.refl H) (.str _)⟩)
      · cases e
    | _ => cases e
  | _ => cases e
end
section
variable {X : Cx} {T : CT} {W : WX} {ow : List Nat} {e a b c : Expr} {es : List Expr} {pos : Pos} {fa fb fc : DEnv → Res Dat}
theorem de_ix (ha : DE X T W ow a fa) (hb : DE X T W ow b fb) (hs : PlainIx b := by exact fun _ _ => rfl) : DE X T W ow (.Subscript a b pos) (vOp ixD fa fb) := pe_imp (pe_ix ix_seq ha hb hs) fun _ _ _ h => rd_ix.read h
theorem de_neg (ha : DE X T W ow a fa) : DE X T W ow (.UnaryOp .USub a pos) (v1 negD fa) := pe_imp (pe_un un_neg ha) fun σ H Q h => by
  obtain ⟨ρ, S, re, w⟩ := h
  refine Want.part re w fun x dx H1 w1 re1 e1 rx => ?_
  cases rx with
  | int i => exact ⟨i, rfl, w1 _ H1 (Ex.refl H1) (.int _)⟩
  | _ => exact w1.elim
/-- a < b < c -/
def vChainK (h : Dat → Dat → Option Dat) (fc : DEnv → Res Dat) (ρ : DEnv) (y : Dat) : Dat → Res Dat
  | .bl true => (fc ρ).bind fun w => ofO (h y w)
  | .bl false => .ok (.bl false)
  | _ => .stuck
def vChain (g h : Dat → Dat → Option Dat) (fa fb fc : DEnv → Res Dat) : DEnv → Res Dat := fun ρ => (fa ρ).bind fun x => (fb ρ).bind fun y => (ofO (g x y)).bind fun z => vChainK h fc ρ y z
theorem chain_read {r r' : R2} {g h : Dat → Dat → Option Dat} {K : PySem.W.Frag} {σ : Sg} {H : Hp} {Q : VK} (rd : R2D K T r g) (rd' : R2D K T r' h) (q : tD K T W ow (vChain g h fa fb fc) σ H Q) :
    tChain r r' (tD K T W ow fa) (tD K T W ow fb) (tD K T W ow fc) σ H Q := by
  obtain ⟨ρ, S, re, w⟩ := q
  refine Want.part re w fun x dx H1 w1 re1 e1 rx => ?_
  refine Want.part re1 w1 fun y dy H2 w2 re2 e2 ry => ?_
  cases q : g dx dy with
  | none =>
    rw [q] at w2
    exact w2.elim
  | some d =>
    rw [q] at w2
    refine rd S H2 x y dx dy d _ re2.mt (rx.mono (hide_mono e2)) ry q fun v H3 e3 rv => ?_
    have w3 : Want K T W σ H3 S (vChainK h fc ρ dy d) Q := Want.mono w2 e3
    cases rv with
    | bl k =>
      refine ⟨k, rfl, ?_⟩
      cases k with
      | false => exact w3 _ H3 (Ex.refl H3) (.bl false)
      | true =>
        show tD K T W ow fc σ H3 _
        refine Want.part (re2.mono e3) w3 fun z dz H4 w4 re4 e4 rz => ?_
        cases q' : h dy dz with
        | none =>
          rw [q'] at w4
          exact w4.elim
        | some d' =>
          rw [q'] at w4
          exact rd' S H4 y z dy dz d' Q re4.mt ((ry.mono (hide_mono e3)).mono (hide_mono e4)) rz q' w4
    | _ => exact w3.elim
end
end Dl
/-! The D layer, part 4: slices, attributes, built-ins, calls, comprehensions. -/
namespace Dl
open PySem PySem.Spec PyProof.Rows L2

/-! ### slices -/
def WantO (T : CT) (W : WX) (σ : Sg) (H : Hp) : Res (Option Int) → (Option Int → Hp → Prop) → Prop
  | .ok d, Q => ∀ H', Ex H H' → Q d H'
  | .exc c, _ => ∀ H', Ex H H' → W (T.exc c) none σ H'
  | .stuck, _ => False
def tDO (K : PySem.W.Frag) (T : CT) (W : WX) (ow : List Nat) (f : DEnv → Res (Option Int)) : TO := fun σ H Q => ∃ ρ S, RE K T ow σ ρ H S ∧ WantO T W σ H (f ρ) Q
def DO (X : Cx) (T : CT) (W : WX) (ow : List Nat) (e : Option Expr) (f : DEnv → Res (Option Int)) : Prop := PO X e (tDO X.K T W ow f)
theorem po_imp {X : Cx} {e : Option Expr} {t t' : TO} (h : PO X e t) (i : ∀ σ H Q, t' σ H Q → t σ H Q) : PO X e t' := ⟨fun pins s σ H Q I q => h.run pins s σ H Q I (i σ H Q q)⟩
def oNone : DEnv → Res (Option Int) := fun _ => .ok none
def oInt : Dat → Res (Option Int)
  | .int i => .ok (some i)
  | _ => .stuck
def oSome (f : DEnv → Res Dat) : DEnv → Res (Option Int) := fun ρ => (f ρ).bind oInt
def cutD {α : Type} (xs : List α) (lo hi : Option Int) : List α := (xs.drop (HT.sIx xs.length 0 lo)).take (HT.sIx xs.length xs.length hi - HT.sIx xs.length 0 lo)
def slD : Dat → Option Int → Option Int → Option Dat
  | .lst l, lo, hi => some (.lst (cutD l lo hi))
  | .frz l, lo, hi => some (.lst (cutD l lo hi))
  | .tup l, lo, hi => some (.tup (cutD l lo hi))
  | .str z, lo, hi => if z.length ≤ sizeLine then some (.str (cutS z lo hi)) else none
  | _, _, _ => none
def vSl (fa : DEnv → Res Dat) (fl fh : DEnv → Res (Option Int)) : DEnv → Res Dat := fun ρ => (fa ρ).bind fun x => (fl ρ).bind fun l => (fh ρ).bind fun h => ofO (slD x l h)
def fSl (fa : DEnv → Res Dat) (fl fh : DEnv → Res (Option Int)) : DEnv → Res (List Dat) := fun ρ => (fa ρ).bind fun x => (fl ρ).bind fun l => (fh ρ).bind fun h => match x with
  | .lst xs => .ok (cutD xs l h)
  | .frz xs => .ok (cutD xs l h)
  | _ => .stuck
section
variable {K : PySem.W.Frag} {T : CT} {W : WX} {H : Hp} {ow : List Nat} {σ : Sg} {ρ : DEnv} {S : List Addr}
theorem Reps.cut {vs : List V} {ds : List Dat} (r : Reps K T H vs ds) (lo hi : Option Int) : Reps K T H (cutV vs lo hi) (cutD ds lo hi) := by
  unfold cutV cutD
  rw [r.length]
  exact (r.drop _).take _
theorem Want.partO {fa : DEnv → Res (Option Int)} {k : Option Int → Res Dat} {Q : VK} {R : Option Int → Hp → Prop} (re : RE K T ow σ ρ H S) (w : Want K T W σ H S ((fa ρ).bind k) Q)
    (hk : ∀ d H1, Want K T W σ H1 S (k d) Q → RE K T ow σ ρ H1 S → Ex H H1 → R d H1) : tDO K T W ow fa σ H R := by
  refine ⟨ρ, S, re, ?_⟩
  cases q : fa ρ with
  | ok d =>
    rw [q] at w
    exact fun H' e => hk d H' (w.mono e) (re.mono e) e
  | exc c =>
    rw [q] at w
    exact w
  | stuck =>
    rw [q] at w
    exact w.elim
theorem WantF.partO {fa : DEnv → Res (Option Int)} {k : Option Int → Res (List Dat)} {Q : VK} {R : Option Int → Hp → Prop} (re : RE K T ow σ ρ H S) (w : WantF K T W σ H S ((fa ρ).bind k) Q)
    (hk : ∀ d H1, WantF K T W σ H1 S (k d) Q → RE K T ow σ ρ H1 S → Ex H H1 → R d H1) : tDO K T W ow fa σ H R := by
  refine ⟨ρ, S, re, ?_⟩
  cases q : fa ρ with
  | ok d =>
    rw [q] at w
    exact fun H' e => hk d H' (w.mono e) (re.mono e) e
  | exc c =>
    rw [q] at w
    exact w
  | stuck =>
    rw [q] at w
    exact w.elim
end
section
variable {X : Cx} {T : CT} {W : WX} {ow : List Nat} {e a b c : Expr} {es : List Expr} {pos p2 : Pos} {fa fb fc : DEnv → Res Dat} {lo hi : Option Expr} {fl fh : DEnv → Res (Option Int)}
theorem do_none : DO X T W ow none oNone := po_imp po_none fun σ H Q h => by
  obtain ⟨ρ, S, re, w⟩ := h
  exact w H (Ex.refl H)
theorem do_some (h : DE X T W ow e fa) : DO X T W ow (some e) (oSome fa) := po_imp (po_some h) fun σ H Q h => by
  obtain ⟨ρ, S, re, w⟩ := h
  refine ⟨ρ, S, re, ?_⟩
  unfold oSome at w
  cases q : fa ρ with
  | ok d =>
    rw [q] at w
    intro v H' e r
    cases r with
    | int i => exact ⟨i, rfl, w H' e⟩
    | _ => exact w.elim
  | exc c =>
    rw [q] at w
    exact w
  | stuck =>
    rw [q] at w
    exact w.elim
theorem de_slice (ha : DE X T W ow e fa) (hl : DO X T W ow lo fl) (hh : DO X T W ow hi fh) : DE X T W ow (.Subscript e (.Slice lo hi none p2) pos) (vSl fa fl fh) := pe_imp (pe_slice (sl_list.or (sl_tupN.or sl_str)) ha hl hh) fun σ H Q h => by
  obtain ⟨ρ, S, re, w⟩ := h
  refine Want.part re w fun x dx H1 w1 re1 e1 rx => ?_
  refine Want.partO re1 w1 fun l H2 w2 re2 e2 => ?_
  refine Want.partO re2 w2 fun h H3 w3 re3 e3 => ?_
  have rx3 := (rx.mono (hide_mono e2)).mono (hide_mono e3)
  cases rx3 with
  | @lst p vs ds hs rs => exact .inl ⟨p, vs, rfl, .inl (.inl (hide_ex _ _ hs)), fun p2 np => w3 _ _ (Ex.new np) (rep_newL re3.mt np (rs.cut l h))⟩
  | @frz p vs ds hs rs => exact .inl ⟨p, vs, rfl, ex_l hide_ex hs, fun p2 np => w3 _ _ (Ex.new np) (rep_newL re3.mt np (rs.cut l h))⟩
  | @tup p vs ds hs rs =>
    refine .inr (.inl ⟨p, vs, rfl, ex_t hide_ex hs.sq, fun hw => ?_, fun hw p2 o np t => w3 _ _ (Ex.new np) (rep_newT re3.mt np t (rs.cut l h))⟩)
    have e0 : cutD ds l h = ds := by
      unfold cutD
      rw [rs.length] at hw
      rw [hw.1, hw.2, List.drop_zero, Nat.sub_zero, List.take_length]
    have w4 : Want X.K T W σ H3 S (.ok (.tup (cutD ds l h))) Q := w3
    rw [e0] at w4
    exact w4 _ H3 (Ex.refl H3) (.tup hs rs)
  | str z =>
    have w4 : Want X.K T W σ H3 S (ofO (if z.length ≤ sizeLine then some (.str (cutS z l h)) else none)) Q := w3
    by_cases hz : z.length ≤ sizeLine
    · rw [if_pos hz] at w4
      exact .inr (.inr ⟨z, rfl, hz, w4 _ H3 (Ex.refl H3) (.str _)⟩)
    · rw [if_neg hz] at w4
      exact w4.elim
  | _ => exact w3.elim
theorem df_slice (ha : DE X T W ow e fa) (hl : DO X T W ow lo fl) (hh : DO X T W ow hi fh) : DF X T W ow (.Subscript e (.Slice lo hi none p2) pos) (fSl fa fl fh) := pe_imp (pe_slice sl_list ha hl hh) fun σ H Q h => by
  obtain ⟨ρ, S, re, w⟩ := h
  refine WantF.part re w fun x dx H1 w1 re1 e1 rx => ?_
  refine WantF.partO re1 w1 fun l H2 w2 re2 e2 => ?_
  refine WantF.partO re2 w2 fun h H3 w3 re3 e3 => ?_
  have rx3 := (rx.mono (hide_mono e2)).mono (hide_mono e3)
  cases rx3 with
  | @lst p vs ds hs rs => exact ⟨p, vs, rfl, .inl (.inl (hide_ex _ _ hs)), fun p2 np => w3 p2 _ _ (Ex.new np) np upd_same ((rs.cut l h).mono (hide_new (Ex.new np) np))⟩
  | @frz p vs ds hs rs => exact ⟨p, vs, rfl, ex_l hide_ex hs, fun p2 np => w3 p2 _ _ (Ex.new np) np upd_same ((rs.cut l h).mono (hide_new (Ex.new np) np))⟩
  | _ => exact w3.elim

/-! ### attributes -/
theorem lookup_at {ns : List Str} {f : Str} : ∀ {fs : List (Str × V)} {ns : List Str} {j : Nat}, fs.map (·.1) = ns → ns.findIdx? (· == f) = some j → fs.lookup f = (fs.map (·.2))[j]?
  | [], ns, j, h, h2 => by
    subst h
    cases h2
  | (g, v) :: fs, ns, j, h, h2 => by
    subst h
    rw [List.map_cons, List.findIdx?_cons] at h2
    by_cases z : (g == f) = true
    · rw [if_pos z] at h2
      cases h2
      have z' : g = f := eq_of_beq z
      subst z'
      simp [List.lookup]
    · rw [if_neg z] at h2
      cases q : List.findIdx? (fun x => x == f) (List.map (fun x => x.1) fs) with
      | none =>
        rw [q] at h2
        cases h2
      | some i =>
        rw [q] at h2
        cases h2
        have ih := lookup_at (ns := ns) (fs := fs) rfl q
        have z2 : (f == g) = false := by
          cases y : f == g with
          | false => rfl
          | true =>
            have y' : f = g := eq_of_beq y
            subst y'
            exact absurd (beq_self_eq_true f) z
        rw [List.lookup, z2]
        simpa using ih
def fldD (c j : Nat) : Dat → Option Dat
  | .obj c' l => if c' = c then l[j]? else none
  | _ => none
theorem de_fld {f : Str} {c j : Nat} (ha : DE X T W ow e fa) (cl : Cls X.K (T.addr c)) (na : NoAttr X.K (T.addr c) f) (hj : (T.names c).findIdx? (· == f) = some j) (hb : attributeBase e f X.env (eval e X.env) = eval e X.env := by rfl) :
    DE X T W ow (.Attribute e f pos) (v1 (fldD c j) fa) := pe_imp (pe_fld ha hb) fun σ H Q h => by
  obtain ⟨ρ, S, re, w⟩ := h
  refine Want.part re w fun x dx H1 w1 re1 e1 rx => ?_
  cases rx with
  | @obj p dx c' fs ds hs hn rs =>
    have w2 : Want X.K T W σ H1 S (ofO (if c' = c then ds[j]? else none)) Q := w1
    by_cases z : c' = c
    · subst z
      rw [if_pos rfl] at w2
      cases q : ds[j]? with
      | none =>
        rw [q] at w2
        exact w2.elim
      | some d =>
        rw [q] at w2
        obtain ⟨v, h1, h2⟩ := rs.get q
        exact ⟨p, _, dx, fs, v, rfl, hide_ex _ _ hs, cl, na, (lookup_at (ns := []) hn hj).trans h1, w2 v H1 (Ex.refl H1) h2⟩
    · rw [if_neg z] at w2
      exact w2.elim
  | _ => exact w1.elim

/-! ### built-ins -/
def RcD (K : PySem.W.Frag) (T : CT) (r : List V → Hp → VK → Prop) (g : List Dat → Option Dat) : Prop := ∀ (S : List Addr) (H : Hp) (vs : List V) (ds : List Dat) (d : Dat) (Q : VK), Hid H S → Reps K T (hide H S) vs ds → g ds = some d →
  (∀ v H', Ex H H' → Rep K T (hide H' S) v d → Q v H') → r vs H Q
def vCB (g : List Dat → Option Dat) (fs : DEnv → Res (List Dat)) : DEnv → Res Dat := fun ρ => (fs ρ).bind fun ds => ofO (g ds)
theorem RcD.read {K : PySem.W.Frag} {r : List V → Hp → VK → Prop} {g : List Dat → Option Dat} {fs : DEnv → Res (List Dat)} {σ : Sg} {H : Hp} {Q : VK} (rd : RcD K T r g) (h : tD K T W ow (vCB g fs) σ H Q) : tCB r (tDA K T W ow fs) σ H Q := by
  obtain ⟨ρ, S, re, w⟩ := h
  refine Want.partA re w fun vs ds H1 w1 re1 e1 rs => ?_
  cases q : g ds with
  | none =>
    rw [q] at w1
    exact w1.elim
  | some d =>
    rw [q] at w1
    exact rd S H1 vs ds d Q re1.mt rs q w1
variable {x : Str} {id Ty : String} {r : List V → Hp → VK → Prop} {g : List Dat → Option Dat} {fs : DEnv → Res (List Dat)} {p : Pos}
theorem de_callB (hc : CallR X (.builtin id) r) (rd : RcD X.K T r g) (hm : X.mg x = none) (hv : bootBuiltins x = some (.builtin id)) (ha : DA X T W ow (e :: es) fs) (hg : Gl X x := by rfl) (hn : x ≠ "__name__" := by decide) (hdb : (x == ("__debug__" : Str)) = false := by decide)
    (he : starEach (e :: es) X.env = (false, eval e X.env) :: starEach es X.env := by rfl) (hpl : (backTo pos (starEach es X.env)).any (·.1) = false := by rfl) : DE X T W ow (.Call (.Name x p) (e :: es) [] pos) (vCB g fs) :=
  pe_imp (pe_callB hc hg hm hv ha hn hdb he hpl) fun _ _ _ h => rd.read h
theorem de_callTy (hc : CallR X (.type Ty) r) (rd : RcD X.K T r g) (hm : X.mg x = none) (hv : bootBuiltins x = some (.type Ty)) (ha : DA X T W ow (e :: es) fs) (hg : Gl X x := by rfl) (hn : x ≠ "__name__" := by decide) (hdb : (x == ("__debug__" : Str)) = false := by decide)
    (he : starEach (e :: es) X.env = (false, eval e X.env) :: starEach es X.env := by rfl) (hpl : (backTo pos (starEach es X.env)).any (·.1) = false := by rfl) : DE X T W ow (.Call (.Name x p) (e :: es) [] pos) (vCB g fs) :=
  pe_imp (pe_callTy hc hg hm hv ha hn hdb he hpl) fun _ _ _ h => rd.read h
end
/-- the data of each built-in -/
def lenD : List Dat → Option Dat
  | [.str s] => if s.length ≤ sizeLine then some (.int s.length) else none
  | [.lst l] => some (.int l.length)
  | [.frz l] => some (.int l.length)
  | [.tup l] => some (.int l.length)
  | _ => none
def absD : List Dat → Option Dat
  | [.int i] => some (.int (if i < 0 then -i else i))
  | _ => none
def intD : List Dat → Option Dat
  | [.int i] => some (.int i)
  | [.bl k] => some (.int (if k then 1 else 0))
  | _ => none
def max2D : List Dat → Option Dat
  | [.int i, .int j] => some (.int (if j > i then j else i))
  | _ => none
def min2D : List Dat → Option Dat
  | [.int i, .int j] => some (.int (if j < i then j else i))
  | _ => none
def boolsD : List Dat → Option (List Bool)
  | [] => some []
  | .bl b :: r => (boolsD r).map fun l => b :: l
  | _ => none
def intsD : List Dat → Option (List Int)
  | [] => some []
  | .int b :: r => (intsD r).map fun l => b :: l
  | _ => none
def allD : List Dat → Option Dat
  | [.lst l] => (boolsD l).map fun bs => .bl (bs.all id)
  | _ => none
def anyD : List Dat → Option Dat
  | [.lst l] => (boolsD l).map fun bs => .bl (bs.any id)
  | _ => none
def sumD : List Dat → Option Dat
  | [.lst l] => (intsD l).map fun bs => .int bs.sum
  | _ => none
def tupleD : List Dat → Option Dat
  | [.lst l] => some (.tup l)
  | [.frz l] => some (.tup l)
  | [.tup l] => some (.tup l)
  | _ => none
def listD : List Dat → Option Dat
  | [.lst l] => some (.lst l)
  | [.frz l] => some (.lst l)
  | [.tup l] => some (.lst l)
  | _ => none
section
variable {K : PySem.W.Frag} {T : CT} {H : Hp}
theorem Reps.boolsD : ∀ {vs : List V} {ds : List Dat} {bs : List Bool}, Reps K T H vs ds → Dl.boolsD ds = some bs → vs = bs.map V.bl
  | _, _, _, .nil, h => by
    cases h
    rfl
  | _, _, _, .cons (d := d) (ds := ds) r rs, h => by
    cases r with
    | bl b =>
      unfold Dl.boolsD at h
      cases q : Dl.boolsD ds with
      | none =>
        rw [q] at h
        cases h
      | some l =>
        rw [q] at h
        cases h
        rw [Reps.boolsD rs q]
        rfl
    | _ => cases h
theorem Reps.intsD : ∀ {vs : List V} {ds : List Dat} {bs : List Int}, Reps K T H vs ds → Dl.intsD ds = some bs → vs = bs.map V.int
  | _, _, _, .nil, h => by
    cases h
    rfl
  | _, _, _, .cons (d := d) (ds := ds) r rs, h => by
    cases r with
    | int b =>
      unfold Dl.intsD at h
      cases q : Dl.intsD ds with
      | none =>
        rw [q] at h
        cases h
      | some l =>
        rw [q] at h
        cases h
        rw [Reps.intsD rs q]
        rfl
    | _ => cases h
theorem Reps.of_ints : ∀ (l : List Int), Reps K T H (l.map V.int) (l.map Dat.int)
  | [] => .nil
  | i :: l => .cons (.int i) (Reps.of_ints l)
theorem rc_len : RcD K T (fun xs H Q => ∃ x n, xs = [x] ∧ LenV K x H n ∧ Q (.int n) H) lenD := fun S H vs ds d Q m rs e q => by
  cases rs with
  | nil => cases e
  | cons r rs =>
    cases rs with
    | cons _ _ => cases r <;> cases e
    | nil =>
      cases r with
      | str s =>
        simp only [lenD] at e
        split at e
        · rename_i z
          cases e
          exact ⟨_, s.length, rfl, ⟨z, rfl⟩, q _ H (Ex.refl H) (.int _)⟩
        · cases e
      | @lst p vs ds hs rs =>
        cases e
        exact ⟨_, ds.length, rfl, .inl ⟨vs, .inl (.inl (hide_ex _ _ hs)), rs.length.symm⟩, q _ H (Ex.refl H) (.int _)⟩
      | @frz p vs ds hs rs =>
        cases e
        exact ⟨_, ds.length, rfl, .inl ⟨vs, ex_l hide_ex hs, rs.length.symm⟩, q _ H (Ex.refl H) (.int _)⟩
      | @tup p vs ds hs rs =>
        cases e
        exact ⟨_, ds.length, rfl, .inr ⟨vs, ex_t hide_ex hs.sq, rs.length.symm⟩, q _ H (Ex.refl H) (.int _)⟩
      | _ => cases e
theorem rc_abs : RcD K T (fun xs H Q => ∃ i, xs = [.int i] ∧ Q (.int (if i < 0 then -i else i)) H) absD := fun S H vs ds d Q m rs e q => by
  cases rs with
  | nil => cases e
  | cons r rs =>
    cases rs with
    | cons _ _ => cases r <;> cases e
    | nil =>
      cases r with
      | int i =>
        cases e
        exact ⟨i, rfl, q _ H (Ex.refl H) (.int _)⟩
      | _ => cases e
theorem rc_int : RcD K T (fun xs H Q => (∃ i, xs = [.int i] ∧ Q (.int i) H) ∨ ∃ k, xs = [.bl k] ∧ Q (.int (if k then 1 else 0)) H) intD := fun S H vs ds d Q m rs e q => by
  cases rs with
  | nil => cases e
  | cons r rs =>
    cases rs with
    | cons _ _ => cases r <;> cases e
    | nil =>
      cases r with
      | int i =>
        cases e
        exact .inl ⟨i, rfl, q _ H (Ex.refl H) (.int _)⟩
      | bl k =>
        cases e
        exact .inr ⟨k, rfl, q _ H (Ex.refl H) (.int _)⟩
      | _ => cases e
theorem rc_max2 : RcD K T (fun xs H Q => ∃ i j, xs = [.int i, .int j] ∧ Q (.int (if j > i then j else i)) H) max2D := fun S H vs ds d Q m rs e q => by
  cases rs with
  | nil => cases e
  | cons r rs =>
    cases rs with
    | nil => cases r <;> cases e
    | cons r2 rs =>
      cases rs with
      | cons _ _ => cases r <;> cases r2 <;> cases e
      | nil =>
        cases r with
        | int i =>
          cases r2 with
          | int j =>
            cases e
            exact ⟨i, j, rfl, q _ H (Ex.refl H) (.int _)⟩
          | _ => cases e
        | _ => cases e
theorem rc_min2 : RcD K T (fun xs H Q => ∃ i j, xs = [.int i, .int j] ∧ Q (.int (if j < i then j else i)) H) min2D := fun S H vs ds d Q m rs e q => by
  cases rs with
  | nil => cases e
  | cons r rs =>
    cases rs with
    | nil => cases r <;> cases e
    | cons r2 rs =>
      cases rs with
      | cons _ _ => cases r <;> cases r2 <;> cases e
      | nil =>
        cases r with
        | int i =>
          cases r2 with
          | int j =>
            cases e
            exact ⟨i, j, rfl, q _ H (Ex.refl H) (.int _)⟩
          | _ => cases e
        | _ => cases e
/-- one list -/
theorem rc_list {r : List V → Hp → VK → Prop} {g : List Dat → Option Dat} {k : List Dat → Option Dat} (hg : ∀ ds d, g ds = some d → ∃ l, ds = [.lst l] ∧ k l = some d)
    (h : ∀ (S : List Addr) (H : Hp) (p : Addr) (vs : List V) (l : List Dat) (d : Dat) (Q : VK), Hid H S → H p = some (.lst vs) → Reps K T (hide H S) vs l → k l = some d → (∀ v H', Ex H H' → Rep K T (hide H' S) v d → Q v H') → r [.ref p] H Q) : RcD K T r g :=
  fun S H vs ds d Q m rs e q => by
    obtain ⟨l, rfl, e2⟩ := hg ds d e
    cases rs with
    | cons r rs =>
      cases rs
      cases r with
      | @lst p vs _ hs rs => exact h S H p vs l d Q m (hide_ex _ _ hs) rs e2 q
theorem rc_all : RcD K T (rAll K) allD := rc_list (k := fun l => (boolsD l).map fun bs => .bl (bs.all id)) (fun ds d e => by
  unfold allD at e
  split at e
  · exact ⟨_, rfl, e⟩
  · cases e) fun S H p vs l d Q m hs rs e q => by
    cases z : boolsD l with
    | none =>
      rw [z] at e
      cases e
    | some bs =>
      rw [z] at e
      cases e
      have := rs.boolsD z
      subst this
      exact ⟨p, bs, rfl, .inl (.inl hs), q _ H (Ex.refl H) (.bl _)⟩
theorem rc_any : RcD K T (rAny K) anyD := rc_list (k := fun l => (boolsD l).map fun bs => .bl (bs.any id)) (fun ds d e => by
  unfold anyD at e
  split at e
  · exact ⟨_, rfl, e⟩
  · cases e) fun S H p vs l d Q m hs rs e q => by
    cases z : boolsD l with
    | none =>
      rw [z] at e
      cases e
    | some bs =>
      rw [z] at e
      cases e
      have := rs.boolsD z
      subst this
      exact ⟨p, bs, rfl, .inl (.inl hs), q _ H (Ex.refl H) (.bl _)⟩
theorem rc_sum : RcD K T (rSum K) sumD := rc_list (k := fun l => (intsD l).map fun bs => .int bs.sum) (fun ds d e => by
  unfold sumD at e
  split at e
  · exact ⟨_, rfl, e⟩
  · cases e) fun S H p vs l d Q m hs rs e q => by
    cases z : intsD l with
    | none =>
      rw [z] at e
      cases e
    | some bs =>
      rw [z] at e
      cases e
      have := rs.intsD z
      subst this
      exact ⟨p, bs, rfl, .inl (.inl hs), q _ H (Ex.refl H) (.int _)⟩
theorem rc_tuple : RcD K T (fun xs H Q => ∃ p ys, xs = [.ref p] ∧ ((SqL K H p ys ∧ nT Q H ys) ∨ (SqT K H p ys ∧ Q (.ref p) H))) tupleD := fun S H vs ds d Q m rs e q => by
  cases rs with
  | nil => cases e
  | cons r rs =>
    cases rs with
    | cons _ _ => cases r <;> cases e
    | nil =>
      cases r with
      | @lst p vs ds hs rs =>
        cases e
        exact ⟨p, vs, rfl, .inl ⟨.inl (.inl (hide_ex _ _ hs)), fun l o nl t => q _ _ (Ex.new nl) (rep_newT m nl t rs)⟩⟩
      | @frz p vs ds hs rs =>
        cases e
        exact ⟨p, vs, rfl, .inl ⟨ex_l hide_ex hs, fun l o nl t => q _ _ (Ex.new nl) (rep_newT m nl t rs)⟩⟩
      | @tup p vs ds hs rs =>
        cases e
        exact ⟨p, vs, rfl, .inr ⟨ex_t hide_ex hs.sq, q _ H (Ex.refl H) (.tup hs rs)⟩⟩
      | _ => cases e
theorem rc_listOf : RcD K T (fun xs H Q => ∃ p ys, xs = [.ref p] ∧ (SqL K H p ys ∨ SqT K H p ys) ∧ ∀ l, H l = none → Q (.ref l) (upd H l (.lst ys))) listD := fun S H vs ds d Q m rs e q => by
  cases rs with
  | nil => cases e
  | cons r rs =>
    cases rs with
    | cons _ _ => cases r <;> cases e
    | nil =>
      cases r with
      | @lst p vs ds hs rs =>
        cases e
        exact ⟨p, vs, rfl, .inl (.inl (.inl (hide_ex _ _ hs))), fun l nl => q _ _ (Ex.new nl) (rep_newL m nl rs)⟩
      | @frz p vs ds hs rs =>
        cases e
        exact ⟨p, vs, rfl, .inl (ex_l hide_ex hs), fun l nl => q _ _ (Ex.new nl) (rep_newL m nl rs)⟩
      | @tup p vs ds hs rs =>
        cases e
        exact ⟨p, vs, rfl, .inr (ex_t hide_ex hs.sq), fun l nl => q _ _ (Ex.new nl) (rep_newL m nl rs)⟩
      | _ => cases e
end
/-! ### isinstance of a built-in class -/
def isTy : String → Dat → Option Bool
  | n, .non => some (n == "NoneType")
  | n, .bl _ => some (n == "bool" || n == "int")
  | n, .int _ => some (n == "int")
  | n, .str _ => some (n == "str")
  | n, .tup _ => some (n == "tuple")
  | n, .lst _ => some (n == "list")
  | n, .frz _ => some (n == "list")
  | _, .obj _ _ => none
  | _, .dct _ _ => none
  | _, .rng _ _ _ => none
def isiD (n : String) (d : Dat) : Option Dat := (isTy n d).map .bl
/-- a built-in class of which isinstance is known -/
structure KitT (n : String) : Prop where
  non : kitB "NoneType" n = some (n == "NoneType")
  bl : kitB "bool" n = some (n == "bool" || n == "int")
  int : kitB "int" n = some (n == "int")
  str : kitB "str" n = some (n == "str")
  tup : kitB "tuple" n = some (n == "tuple")
  lst : kitB "list" n = some (n == "list")
theorem kit_int : KitT "int" := ⟨by decide +kernel, by decide +kernel, by decide +kernel, by decide +kernel, by decide +kernel, by decide +kernel⟩
theorem kit_bool : KitT "bool" := ⟨by decide +kernel, by decide +kernel, by decide +kernel, by decide +kernel, by decide +kernel, by decide +kernel⟩
theorem kit_str : KitT "str" := ⟨by decide +kernel, by decide +kernel, by decide +kernel, by decide +kernel, by decide +kernel, by decide +kernel⟩
theorem kit_tuple : KitT "tuple" := ⟨by decide +kernel, by decide +kernel, by decide +kernel, by decide +kernel, by decide +kernel, by decide +kernel⟩
theorem kit_list : KitT "list" := ⟨by decide +kernel, by decide +kernel, by decide +kernel, by decide +kernel, by decide +kernel, by decide +kernel⟩
section
variable {X : Cx} {T : CT} {W : WX} {ow : List Nat} {e a b c : Expr} {es : List Expr} {pos p p2 : Pos} {fa fb fc : DEnv → Res Dat}
theorem de_isi {y : Str} {n : String} (k : KitT n) (hm : X.mg "isinstance" = none) (hmy : X.mg y = none) (hvy : bootBuiltins y = some (.type n)) (ha : DE X T W ow e fa) (hg : Gl X "isinstance" := by rfl) (hgy : Gl X y := by rfl) (hny : y ≠ "__name__" := by decide) (hdy : (y == ("__debug__" : Str)) = false := by decide)
    (h1 : starEach [e, .Name y p2] X.env = (false, eval e X.env) :: starEach [.Name y p2] X.env := by rfl) (h2 : starEach [.Name y p2] X.env = (false, eval (.Name y p2) X.env) :: starEach [] X.env := by rfl) (hpl : (backTo pos (starEach [.Name y p2] X.env)).any (·.1) = false := by rfl) :
    DE X T W ow (.Call (.Name "isinstance" p) [e, .Name y p2] [] pos) (v1 (isiD n) fa) := pe_imp (pe_callB call_isi hg hm (by decide +kernel) (pa_cons ha (pa_cons (pe_bltn (v := .ty n) hgy hmy hvy rfl hny hdy) pa_nil h2) h1) (by decide) (by decide) h1 hpl) fun σ H Q h => by
  obtain ⟨ρ, S, re, w⟩ := h
  refine Want.part re w fun x dx H1 w1 re1 e1 rx => ?_
  show rIsi X.K [x, .ty n] H1 Q
  cases rx with
  | non => exact ⟨_, _, _, _, _, rfl, .ty n, .base .non, kit_ty k.non, w1 _ H1 (Ex.refl H1) (.bl _)⟩
  | bl z => exact ⟨_, _, _, _, _, rfl, .ty n, .base (.bl z), kit_ty k.bl, w1 _ H1 (Ex.refl H1) (.bl _)⟩
  | int z => exact ⟨_, _, _, _, _, rfl, .ty n, .base (.int z), kit_ty k.int, w1 _ H1 (Ex.refl H1) (.bl _)⟩
  | str z => exact ⟨_, _, _, _, _, rfl, .ty n, .base (.str z), kit_ty k.str, w1 _ H1 (Ex.refl H1) (.bl _)⟩
  | tup hs rs =>
    rcases ex_t hide_ex hs.sq with (hs | ⟨o, hs⟩) | ⟨o, its, m, hs, hc, _⟩
    · exact ⟨_, _, _, _, _, rfl, .ty n, .base (.tup hs), kit_ty k.tup, w1 _ H1 (Ex.refl H1) (.bl _)⟩
    · exact ⟨_, _, _, _, _, rfl, .ty n, .fTuple hs, kit_ty k.tup, w1 _ H1 (Ex.refl H1) (.bl _)⟩
    · exact ⟨_, _, _, _, _, rfl, .ty n, .kTuple hs hc, kit_ty k.tup, w1 _ H1 (Ex.refl H1) (.bl _)⟩
  | lst hs rs => exact ⟨_, _, _, _, _, rfl, .ty n, .base (.lst (hide_ex _ _ hs)), kit_ty k.lst, w1 _ H1 (Ex.refl H1) (.bl _)⟩
  | frz hs rs =>
    rcases ex_l hide_ex hs with (hs | ⟨o, hs⟩) | ⟨o, its, m, hs, hc, _⟩
    · exact ⟨_, _, _, _, _, rfl, .ty n, .base (.lst hs), kit_ty k.lst, w1 _ H1 (Ex.refl H1) (.bl _)⟩
    · exact ⟨_, _, _, _, _, rfl, .ty n, .base (.frz hs), kit_ty k.lst, w1 _ H1 (Ex.refl H1) (.bl _)⟩
    · exact ⟨_, _, _, _, _, rfl, .ty n, .kList hs hc, kit_ty k.lst, w1 _ H1 (Ex.refl H1) (.bl _)⟩
  | obj _ _ _ => exact w1.elim
  | dct _ _ _ => exact w1.elim
  | rng _ => exact w1.elim

/-! ### defs of one's own -/
end
/-- a def's promise: it computes F (n arguments) -/
def spD (K : PySem.W.Frag) (T : CT) (n : Nat) (F : List Dat → Res Dat) : Sp := fun vs H Q E => vs.length = n ∧ ∃ S ds, Hid H S ∧ Reps K T (hide H S) vs ds ∧ Want K T (fun cls d _ H => E cls d H) [] H S (F ds) Q
structure FnD (P : Program) (w : World) (K : PySem.W.Frag) (mg : Str → Option Value) (base : Heap) (T : CT) (k : Nat) (x : Str) (n : Nat) (F : List Dat → Res Dat) : Prop where
  ex : ∃ f fd ps, mg x = some (.ref f) ∧ PySem.W.keepIn K (.ref f) = true ∧ Binds K fd ps [] ∧ FnOk P w K mg base (L2.CX P w) k f fd ps (spD K T n F)
def vCall (n : Nat) (F : List Dat → Res Dat) (fs : DEnv → Res (List Dat)) : DEnv → Res Dat := fun ρ => (fs ρ).bind fun ds => if ds.length = n then F ds else .stuck
abbrev wNo : WX := fun _ _ _ _ => False
theorem passNo {X : Cx} (σ : Sg) : PassesAt (L2.CX X.prog X.w) X σ (WE wNo σ) := fun _ _ _ _ _ _ c => by
  obtain ⟨_, _, _, _, _, _, _, _, _, _, _, _, h⟩ := c
  exact h.elim
section
variable {X : Cx} {T : CT} {W : WX} {ow : List Nat} {e a b c : Expr} {es : List Expr} {pos p p2 : Pos} {fa fb fc : DEnv → Res Dat} {fs : DEnv → Res (List Dat)}
theorem de_call {k j n : Nat} {x : Str} {F : List Dat → Res Dat} (c : FnD X.prog X.w X.K X.mg X.base T k x n F) (hr : Room j X.A) (hk : k ≤ j) (hp : ∀ σ, PassesAt (L2.CX X.prog X.w) X σ (WE W σ)) (ha : DA X T W ow (e :: es) fs) (hg : Gl X x := by rfl)
    (hdb : (x == ("__debug__" : Str)) = false := by decide) (he : starEach (e :: es) X.env = (false, eval e X.env) :: starEach es X.env := by rfl) (hpl : (backTo pos (starEach es X.env)).any (·.1) = false := by rfl) :
    DE X T W ow (.Call (.Name x p) (e :: es) [] pos) (vCall n F fs) := by
  obtain ⟨f, fd, ps, h1, h2, h3, h4⟩ := c.ex
  refine pe_imp (pe_callS h4 (hr.mono hk) hg h1 h2 h3 hp ha hdb he hpl) fun σ H Q h => ?_
  obtain ⟨ρ, S, re, w⟩ := h
  refine Want.partA re w fun vs ds H1 w1 re1 e1 rs => ?_
  split at w1
  · rename_i hl
    refine ⟨by rw [rs.length]; exact hl, S, ds, re1.mt, rs, ?_⟩
    revert w1
    cases F ds with
    | ok d => exact fun w1 => w1
    | exc c => exact fun w1 => w1
    | stuck => exact fun w1 => w1
  · exact w1.elim
end
end Dl
/-! The D layer, part 5: what is walked; targets; comprehensions; objects made. -/
namespace Dl
open PySem PySem.Spec PyProof.Rows L2

/-! ### what is walked -/
structure Src (K : PySem.W.Frag) (T : CT) (S : List Addr) (items : List Dat) (J : It) (H1 : Hp) : Prop where
  ex : ∃ (G : Hp → Prop) (Y : Nat → Hp → V → Hp → Prop), Walk J items.length G Y ∧ (∀ H' S', Ex (hide H1 S) (hide H' S') → G H') ∧
    ∀ i d x H2 H3 S', items[i]? = some d → Ex (hide H1 S) (hide H2 S') → Hid H2 S' → Y i H2 x H3 → Ex H2 H3 ∧ Rep K T (hide H3 S') x d
def WantI (K : PySem.W.Frag) (T : CT) (W : WX) (σ : Sg) (H : Hp) (S : List Addr) : Res (List Dat) → (It → Hp → Prop) → Prop
  | .ok items, R => ∀ J H1, Ex H H1 → Src K T S items J H1 → R J H1
  | .exc c, _ => ∀ H', Ex H H' → W (T.exc c) none σ H'
  | .stuck, _ => False
def tDI (K : PySem.W.Frag) (T : CT) (W : WX) (ow : List Nat) (g : DEnv → Res (List Dat)) : TI := fun σ H R => ∃ ρ S, RE K T ow σ ρ H S ∧ WantI K T W σ H S (g ρ) R
def DI (X : Cx) (T : CT) (W : WX) (ow : List Nat) (tg iter : Expr) (g : DEnv → Res (List Dat)) : Prop := PI X tg iter (tDI X.K T W ow g)
theorem pi_imp {X : Cx} {tg iter : Expr} {t t' : TI} (h : PI X tg iter t) (i : ∀ σ H R, t' σ H R → t σ H R) : PI X tg iter t' := ⟨fun pins s σ H R I q => h.run pins s σ H R I (i σ H R q)⟩
theorem PI.or {X : Cx} {tg iter : Expr} {t t' : TI} (h : PI X tg iter t) (h' : PI X tg iter t') : PI X tg iter (fun σ H R => t σ H R ∨ t' σ H R) := ⟨fun pins s σ H R I q => q.elim (h.run pins s σ H R I) (h'.run pins s σ H R I)⟩
theorem WantI.mono {K : PySem.W.Frag} {T : CT} {W : WX} {σ : Sg} {H H' : Hp} {S : List Addr} {r : Res (List Dat)} {R : It → Hp → Prop} (w : WantI K T W σ H S r R) (e : Ex H H') : WantI K T W σ H' S r R := by
  cases r with
  | ok items => exact fun J H1 e1 s => w J H1 (e.trans e1) s
  | exc c => exact fun H2 e2 => w H2 (e.trans e2)
  | stuck => exact w
theorem WantI.part {K : PySem.W.Frag} {T : CT} {W : WX} {ow : List Nat} {ρ : DEnv} {σ : Sg} {H : Hp} {S : List Addr} {fa : DEnv → Res Dat} {k : Dat → Res (List Dat)} {Q : It → Hp → Prop} {R : VK} (re : RE K T ow σ ρ H S) (w : WantI K T W σ H S ((fa ρ).bind k) Q)
    (hk : ∀ v d H1, WantI K T W σ H1 S (k d) Q → RE K T ow σ ρ H1 S → Ex H H1 → Rep K T (hide H1 S) v d → R v H1) : tD K T W ow fa σ H R :=
  tD_bind (P := fun H r => WantI K T W σ H S r Q) re w (fun _ w => w) (fun w => w) fun v d H1 w e r => hk v d H1 (w.mono e) (re.mono e) e r
theorem WantI.partA {K : PySem.W.Frag} {T : CT} {W : WX} {ow : List Nat} {ρ : DEnv} {σ : Sg} {H : Hp} {S : List Addr} {fa : DEnv → Res (List Dat)} {k : List Dat → Res (List Dat)} {Q : It → Hp → Prop} {R : List V → Hp → Prop} (re : RE K T ow σ ρ H S) (w : WantI K T W σ H S ((fa ρ).bind k) Q)
    (hk : ∀ vs ds H1, WantI K T W σ H1 S (k ds) Q → RE K T ow σ ρ H1 S → Ex H H1 → Reps K T (hide H1 S) vs ds → R vs H1) : tDA K T W ow fa σ H R := by
  refine ⟨ρ, S, re, ?_⟩
  cases q : fa ρ with
  | ok d =>
    rw [q] at w
    exact fun vs H' e r => hk vs d H' (w.mono e) (re.mono e) e r
  | exc c =>
    rw [q] at w
    exact w
  | stuck =>
    rw [q] at w
    exact w.elim
theorem walk_of_eq {J : It} {n m : Nat} {G : Hp → Prop} {Y : Nat → Hp → V → Hp → Prop} (h : Walk J n G Y) (e : m = n) : Walk J m G Y := e ▸ h
section
variable {K : PySem.W.Frag} {T : CT} {S : List Addr} {H1 : Hp} {vs : List V} {ds : List Dat} {a : Addr}
theorem src_list (h : SqL K (hide H1 S) a vs) (rs : Reps K T (hide H1 S) vs ds) : Src K T S ds (Itl K a) H1 :=
  ⟨_, _, walk_of_eq walk_list rs.length.symm, fun H' S' e => ex_l hide_ex (ex_l e h), fun i d x H2 H3 S' hi e m y => by
    obtain ⟨rfl, hy⟩ := y
    obtain ⟨v, h1, h2⟩ := rs.get hi
    rw [h1] at hy
    cases hy
    exact ⟨Ex.refl _, h2.mono e⟩⟩
theorem src_tup (h : SqT K (hide H1 S) a vs) (rs : Reps K T (hide H1 S) vs ds) : Src K T S ds (Itt K a) H1 :=
  ⟨_, _, walk_of_eq walk_tup rs.length.symm, fun H' S' e => ex_t hide_ex (ex_t e h), fun i d x H2 H3 S' hi e m y => by
    obtain ⟨rfl, hy⟩ := y
    obtain ⟨v, h1, h2⟩ := rs.get hi
    rw [h1] at hy
    cases hy
    exact ⟨Ex.refl _, h2.mono e⟩⟩
theorem src_str {z : Str} : Src K T S (z.cps.toList.map fun c => .str ⟨#[c]⟩) (Its z) H1 :=
  ⟨_, _, walk_of_eq walk_str (by rw [List.length_map, Array.length_toList]), fun _ _ _ => trivial, fun i d x H2 H3 S' hi e m y => by
    obtain ⟨rfl, c, hc, rfl⟩ := y
    rw [List.getElem?_map, Array.getElem?_toList, hc] at hi
    cases hi
    exact ⟨Ex.refl _, .str _⟩⟩
theorem src_range {lo : Int} {n : Nat} : Src K T S ((List.range n).map fun i => .int (lo + (i : Nat))) (Itr lo n) H1 :=
  ⟨_, _, walk_of_eq walk_range (by rw [List.length_map, List.length_range]), fun _ _ _ => trivial, fun i d x H2 H3 S' hi e m y => by
    obtain ⟨rfl, rfl⟩ := y
    rw [List.getElem?_map] at hi
    cases q : (List.range n)[i]? with
    | none =>
      rw [q] at hi
      cases hi
    | some j =>
      rw [q] at hi
      cases hi
      rw [List.getElem?_range (by
        have := (List.getElem?_eq_some_iff.mp q).1
        rw [List.length_range] at this
        exact this)] at q
      cases q
      exact ⟨Ex.refl _, .int _⟩⟩
theorem src_rangeC {lo c : Int} {n : Nat} : Src K T S ((List.range n).map fun i => .int (lo + (i : Nat) * c)) (Itc lo c n) H1 :=
  ⟨_, _, walk_of_eq walk_rangeC (by rw [List.length_map, List.length_range]), fun _ _ _ => trivial, fun i d x H2 H3 S' hi e m y => by
    obtain ⟨rfl, rfl⟩ := y
    rw [List.getElem?_map] at hi
    cases q : (List.range n)[i]? with
    | none =>
      rw [q] at hi
      cases hi
    | some j =>
      rw [q] at hi
      cases hi
      rw [List.getElem?_range (by
        have := (List.getElem?_eq_some_iff.mp q).1
        rw [List.length_range] at this
        exact this)] at q
      cases q
      exact ⟨Ex.refl _, .int _⟩⟩
end
def itemsD : Dat → Res (List Dat)
  | .lst l => .ok l
  | .frz l => .ok l
  | .tup l => .ok l
  | .str z => .ok (z.cps.toList.map fun c => .str ⟨#[c]⟩)
  | _ => .stuck
def gSeq (fa : DEnv → Res Dat) : DEnv → Res (List Dat) := fun ρ => (fa ρ).bind itemsD
def rng (lo : Int) (n : Nat) : List Dat := (List.range n).map fun i => .int (lo + (i : Nat))
def rngC (lo c : Int) (n : Nat) : List Dat := (List.range n).map fun i => .int (lo + (i : Nat) * c)
def big62 (i : Int) : Bool := decide (-(2 ^ 62) ≤ i) && decide (i < 2 ^ 62)
def range1D : List Dat → Res (List Dat)
  | [.int j] => if big62 j then .ok (rng 0 j.toNat) else .stuck
  | _ => .stuck
def range2D : List Dat → Res (List Dat)
  | [.int i, .int j] => if big62 i && big62 j then .ok (rng i (j - i).toNat) else .stuck
  | _ => .stuck
/-- the number of turns of range(i, j, c) -/
def turns (i j c : Int) : Nat := if 0 < c then ((j - i + c - 1) / c).toNat else ((i - j - c - 1) / (-c)).toNat
def gA (k : List Dat → Res (List Dat)) (fs : DEnv → Res (List Dat)) : DEnv → Res (List Dat) := fun ρ => (fs ρ).bind k
theorem big62_ok {i : Int} (h : big62 i = true) : -(2 ^ 62) ≤ i ∧ i < 2 ^ 62 := by
  unfold big62 at h
  rw [Bool.and_eq_true] at h
  exact ⟨of_decide_eq_true h.1, of_decide_eq_true h.2⟩
section
variable {X : Cx} {T : CT} {W : WX} {ow : List Nat} {e a b c tg : Expr} {es : List Expr} {pos p p2 : Pos} {fa fb fc : DEnv → Res Dat} {fs : DEnv → Res (List Dat)}
theorem di_seq (ha : DE X T W ow e fa) : DI X T W ow tg e (gSeq fa) := pi_imp (PI.or (pi_list ha) (PI.or (pi_tup ha) (pi_str ha))) fun σ H R h => by
  obtain ⟨ρ, S, re, w⟩ := h
  unfold gSeq at w
  cases q : fa ρ with
  | exc c =>
    rw [q] at w
    refine .inl ⟨ρ, S, re, ?_⟩
    rw [q]
    exact w
  | stuck =>
    rw [q] at w
    exact w.elim
  | ok d =>
    rw [q] at w
    cases d with
    | lst l =>
      refine .inl ⟨ρ, S, re, ?_⟩
      rw [q]
      intro v H' e r
      cases r with
      | lst hs rs => exact ⟨_, rfl, ⟨_, .inl (.inl (hide_ex _ _ hs))⟩, w _ H' e (src_list (.inl (.inl hs)) rs)⟩
    | frz l =>
      refine .inl ⟨ρ, S, re, ?_⟩
      rw [q]
      intro v H' e r
      cases r with
      | frz hs rs => exact ⟨_, rfl, ⟨_, ex_l hide_ex hs⟩, w _ H' e (src_list hs rs)⟩
    | tup l =>
      refine .inr (.inl ⟨ρ, S, re, ?_⟩)
      rw [q]
      intro v H' e r
      cases r with
      | tup hs rs => exact ⟨_, rfl, ⟨_, ex_t hide_ex hs.sq⟩, w _ H' e (src_tup hs.sq rs)⟩
    | str z =>
      refine .inr (.inr ⟨ρ, S, re, ?_⟩)
      rw [q]
      intro v H' e r
      cases r with
      | str _ => exact ⟨z, rfl, w _ H' e src_str⟩
    | _ => exact w.elim
theorem di_range1 (hm : X.mg "range" = none) (ha : DA X T W ow [a] fs) (hg : Gl X "range" := by rfl) (hs : starEach [a] X.env = [(false, eval a X.env)] := by rfl) : DI X T W ow tg (.Call (.Name "range" p) [a] [] pos) (gA range1D fs) := pi_imp (pi_range1 hg hm ha hs) fun σ H R h => by
  obtain ⟨ρ, S, re, w⟩ := h
  refine WantI.partA re w fun vs ds H1 w1 re1 e1 rs => ?_
  cases rs with
  | nil => exact w1.elim
  | cons r rs =>
    cases rs with
    | cons _ _ => cases r <;> exact w1.elim
    | nil =>
      cases r with
      | int j =>
        have w2 : WantI X.K T W σ H1 S (if big62 j then .ok (rng 0 j.toNat) else .stuck) R := w1
        by_cases z : big62 j = true
        · rw [if_pos z] at w2
          obtain ⟨z1, z2⟩ := big62_ok z
          exact ⟨j, rfl, z1, z2, w2 _ H1 (Ex.refl H1) src_range⟩
        · rw [if_neg z] at w2
          exact w2.elim
      | _ => exact w1.elim
theorem di_range2 (hm : X.mg "range" = none) (ha : DA X T W ow [a, b] fs) (hg : Gl X "range" := by rfl) (hs : starEach [a, b] X.env = [(false, eval a X.env), (false, eval b X.env)] := by rfl) (hs2 : starEach [b] X.env = [(false, eval b X.env)] := by rfl) :
    DI X T W ow tg (.Call (.Name "range" p) [a, b] [] pos) (gA range2D fs) := pi_imp (pi_range2 hg hm ha hs hs2) fun σ H R h => by
  obtain ⟨ρ, S, re, w⟩ := h
  refine WantI.partA re w fun vs ds H1 w1 re1 e1 rs => ?_
  cases rs with
  | nil => exact w1.elim
  | cons r rs =>
    cases rs with
    | nil => cases r <;> exact w1.elim
    | cons r2 rs =>
      cases rs with
      | cons _ _ => cases r <;> cases r2 <;> exact w1.elim
      | nil =>
        cases r with
        | int i =>
          cases r2 with
          | int j =>
            have w2 : WantI X.K T W σ H1 S (if big62 i && big62 j then .ok (rng i (j - i).toNat) else .stuck) R := w1
            by_cases z : (big62 i && big62 j) = true
            · rw [if_pos z] at w2
              rw [Bool.and_eq_true] at z
              obtain ⟨z1, z2⟩ := big62_ok z.1
              obtain ⟨z3, z4⟩ := big62_ok z.2
              exact ⟨i, j, rfl, ⟨z1, z2, z3, z4⟩, w2 _ H1 (Ex.refl H1) src_range⟩
            · rw [if_neg z] at w2
              exact w2.elim
          | _ => exact w1.elim
        | _ => exact w1.elim
end

/-! ### targets -/
/-- the data goes to slots; is: which -/
def tDG (K : PySem.W.Frag) (T : CT) (ow : List Nat) (is : List Nat) (asg : Dat → DEnv → Option DEnv) : TG := fun x σ H Q => ∃ ρ S d, RE K T ow σ ρ H S ∧ Rep K T (hide H S) x d ∧ ∃ ρ', asg d ρ = some ρ' ∧
  ∀ σ', RE K T ow σ' ρ' H S → (∀ j, j ∉ is → σ'[j]? = σ[j]?) → σ'.length = σ.length → Q σ' H
def DG (X : Cx) (T : CT) (ow : List Nat) (is : List Nat) (tg : Expr) (asg : Dat → DEnv → Option DEnv) : Prop := PG X tg (tDG X.K T ow is asg)
theorem pg_imp {X : Cx} {tg : Expr} {t t' : TG} (h : PG X tg t) (i : ∀ x σ H Q, t' x σ H Q → t x σ H Q) : PG X tg t' := ⟨fun pins s σ H v u Q I r q => h.run pins s σ H v u Q I r (i v σ H Q q)⟩
theorem PG.or {X : Cx} {tg : Expr} {t t' : TG} (h : PG X tg t) (h' : PG X tg t') : PG X tg (fun x σ H Q => t x σ H Q ∨ t' x σ H Q) := ⟨fun pins s σ H v u Q I r q => q.elim (h.run pins s σ H v u Q I r) (h'.run pins s σ H v u Q I r)⟩
def aName (i : Nat) : Dat → DEnv → Option DEnv := fun d ρ => some (ρ.set i (some d))
section
variable {K : PySem.W.Frag} {T : CT} {ow : List Nat} {σ : Sg} {ρ : DEnv} {H : Hp} {S : List Addr}
/-- a frozen slot is stored -/
theorem RE.set {i : Nat} {v : V} {d : Dat} (re : RE K T ow σ ρ H S) (hi : i ∉ ow) (r : Rep K T (hide H S) v d) : RE K T ow (σ.set i (some v)) (ρ.set i (some d)) H S := by
  have hl := re.len
  refine ⟨re.mt, by rw [List.length_set, List.length_set]; exact hl, fun j e hj he => ?_, fun j e hj he => ?_, fun j k e f p hj hk he hf h1 h2 => ?_⟩
  · by_cases z : i = j
    · subst z
      by_cases zl : i < ρ.length
      · rw [List.getElem?_set_self zl] at he
        cases he
        exact ⟨v, List.getElem?_set_self (by rw [hl]; exact zl), r⟩
      · rw [List.getElem?_eq_none (by rw [List.length_set]; omega)] at he
        cases he
    · rw [List.getElem?_set_ne z] at he ⊢
      exact re.fro j e hj he
  · have z : i ≠ j := fun q => hi (q ▸ hj)
    rw [List.getElem?_set_ne z] at he ⊢
    exact re.own j e hj he
  · have z : i ≠ j := fun q => hi (q ▸ hj)
    have z2 : i ≠ k := fun q => hi (q ▸ hk)
    rw [List.getElem?_set_ne z] at he h1
    rw [List.getElem?_set_ne z2] at hf h2
    exact re.inj j k e f p hj hk he hf h1 h2
end
section
variable {X : Cx} {T : CT} {ow : List Nat} {pos : Pos} {es : List Expr}
theorem dg_name {i : Nat} {x : Str} (hN : X.N.Nodup) (hi : X.N[i]? = some x := by rfl) (hx : Loc X.env.scope x := by first | exact .inl rfl | exact .inr rfl) (ho : i ∉ ow := by decide) (hf : X.fn x = true ∨ X.env.scope.names.lookup x = some .local := by first | exact .inl rfl | exact .inr rfl) :
    DG X T ow [i] (.Name x pos) (aName i) := pg_imp (pg_name hN hi hx hf) fun x σ H Q h => by
  obtain ⟨ρ, S, d, re, r, ρ', e, k⟩ := h
  cases e
  exact k _ (re.set ho r) (fun j hj => List.getElem?_set_ne fun z => hj (by rw [z]; exact List.mem_singleton_self _)) (List.length_set ..)
/-- several targets -/
def tDGs (K : PySem.W.Frag) (T : CT) (ow : List Nat) (is : List Nat) (asg : List Dat → DEnv → Option DEnv) : TGs := fun xs σ H Q => ∃ ρ S ds, RE K T ow σ ρ H S ∧ Reps K T (hide H S) xs ds ∧ ∃ ρ', asg ds ρ = some ρ' ∧
  ∀ σ', RE K T ow σ' ρ' H S → (∀ j, j ∉ is → σ'[j]? = σ[j]?) → σ'.length = σ.length → Q σ' H
def DGs (X : Cx) (T : CT) (ow : List Nat) (is : List Nat) (tgs : List Expr) (asg : List Dat → DEnv → Option DEnv) : Prop := PGs X tgs (tDGs X.K T ow is asg)
theorem pgs_imp {tgs : List Expr} {t t' : TGs} (h : PGs X tgs t) (i : ∀ x σ H Q, t' x σ H Q → t x σ H Q) : PGs X tgs t' := ⟨fun pins s σ H v u Q I r q => h.run pins s σ H v u Q I r (i v σ H Q q)⟩
def asNil : List Dat → DEnv → Option DEnv
  | [], ρ => some ρ
  | _, _ => none
def asCons (f : Dat → DEnv → Option DEnv) (g : List Dat → DEnv → Option DEnv) : List Dat → DEnv → Option DEnv
  | d :: r, ρ => (f d ρ).bind fun ρ' => g r ρ'
  | [], _ => none
theorem dgs_nil : DGs X T ow [] [] asNil := pgs_imp pgs_nil fun x σ H Q h => by
  obtain ⟨ρ, S, d, re, r, ρ', e, k⟩ := h
  cases r with
  | nil =>
    cases e
    exact ⟨rfl, k σ re (fun _ _ => rfl) rfl⟩
  | cons _ _ => cases e
theorem dgs_cons {e : Expr} {is js : List Nat} {f : Dat → DEnv → Option DEnv} {g : List Dat → DEnv → Option DEnv} (h1 : DG X T ow is e f) (h2 : DGs X T ow js es g) (hst : (assignEach (e :: es) X.env).map (·.2) = assign e X.env :: (assignEach es X.env).map (·.2) := by rfl) : DGs X T ow (is ++ js) (e :: es) (asCons f g) :=
  pgs_imp (pgs_cons h1 h2 hst) fun x σ H Q h => by
    obtain ⟨ρ, S, ds, re, r, ρ', e, k⟩ := h
    cases r with
    | nil => cases e
    | cons r rs =>
      rename_i v vs d ds
      cases q : f d ρ with
      | none =>
        simp only [asCons, q] at e
        cases e
      | some ρ1 =>
        simp only [asCons, q] at e
        refine ⟨v, vs, rfl, ρ, S, d, re, r, ρ1, q, fun σ1 re1 h1 l1 => ⟨ρ1, S, ds, re1, rs, ρ', e, fun σ2 re2 h2 l2 => k σ2 re2 (fun j hj => ?_) (l2.trans l1)⟩⟩
        rw [List.mem_append, not_or] at hj
        exact (h2 j hj.2).trans (h1 j hj.1)
def aTup (g : List Dat → DEnv → Option DEnv) : Dat → DEnv → Option DEnv
  | .tup l, ρ => g l ρ
  | .lst l, ρ => g l ρ
  | _, _ => none
theorem dg_tup {is : List Nat} {k n : Nat} {g : List Dat → DEnv → Option DEnv} (hc : X.calm = true) (h : DGs X T ow is es g) (hlen : ∀ ds ρ ρ', g ds ρ = some ρ' → ds.length = n)
    (hn : (assignEach es X.env).length = n := by rfl) (hst : (assignEach es X.env).findIdx? (·.1) = none := by rfl) : DG X T ow is (.Tuple es k pos) (aTup g) :=
  pg_imp (PG.or (pg_tup hc h hn hst) (pg_lst hc h hn hst)) fun x σ H Q h => by
    obtain ⟨ρ, S, d, re, r, ρ', e, k⟩ := h
    cases r with
    | tup hs rs => exact .inl ⟨_, _, rfl, ex_t hide_ex hs.sq, by rw [rs.length]; exact hlen _ _ _ e, ρ, S, _, re, rs, ρ', e, k⟩
    | lst hs rs => exact .inr ⟨_, _, rfl, .inl (.inl (hide_ex _ _ hs)), by rw [rs.length]; exact hlen _ _ _ e, ρ, S, _, re, rs, ρ', e, k⟩
    | _ => cases e
theorem asNil_len {ds : List Dat} {ρ ρ' : DEnv} (h : asNil ds ρ = some ρ') : ds.length = 0 := by
  cases ds with
  | nil => rfl
  | cons _ _ => cases h
theorem asCons_len {f : Dat → DEnv → Option DEnv} {g : List Dat → DEnv → Option DEnv} {n : Nat} (hg : ∀ ds ρ ρ', g ds ρ = some ρ' → ds.length = n) : ∀ ds ρ ρ', asCons f g ds ρ = some ρ' → ds.length = n + 1 := fun ds ρ ρ' h => by
  cases ds with
  | nil => cases h
  | cons d r =>
    cases q : f d ρ with
    | none =>
      simp only [asCons, q] at h
      cases h
    | some ρ1 =>
      simp only [asCons, q] at h
      rw [List.length_cons, hg _ _ _ h]
end

/-! ### comprehensions -/
def wipeD (ρ : DEnv) : List Nat → DEnv
  | [] => ρ
  | v :: vs => (wipeD ρ vs).set v none
theorem wipeD_length (ρ : DEnv) : ∀ vs : List Nat, (wipeD ρ vs).length = ρ.length
  | [] => rfl
  | v :: vs => by unfold wipeD; rw [List.length_set, wipeD_length ρ vs]
theorem wipeD_some {ρ : DEnv} {i : Nat} {x : Dat} : ∀ {vs : List Nat}, (wipeD ρ vs)[i]? = some (some x) → ρ[i]? = some (some x) ∧ i ∉ vs
  | [], h => ⟨h, by simp⟩
  | v :: vs, h => by
    unfold wipeD at h
    by_cases hi : v = i
    · subst hi
      by_cases hv : v < (wipeD ρ vs).length
      · rw [List.getElem?_set_self hv] at h; cases h
      · rw [List.getElem?_eq_none (by simpa using hv)] at h; cases h
    · rw [List.getElem?_set_ne hi] at h
      obtain ⟨h1, h2⟩ := wipeD_some h
      exact ⟨h1, by simp only [List.mem_cons, not_or]; exact ⟨fun e => hi e.symm, h2⟩⟩
theorem wipe_get {σ : Sg} {i : Nat} : ∀ {vs : List Nat}, i ∉ vs → (wipe σ vs)[i]? = σ[i]?
  | [], _ => rfl
  | v :: vs, h => by
    rw [List.mem_cons, not_or] at h
    unfold wipe
    rw [List.getElem?_set_ne (Ne.symm h.1), wipe_get h.2]
theorem wipe_gone {σ : Sg} {i : Nat} (hl : i < σ.length) : ∀ {vs : List Nat}, i ∈ vs → (wipe σ vs)[i]? = some none
  | v :: vs, h => by
    unfold wipe
    by_cases z : v = i
    · subst z
      exact List.getElem?_set_self (by rw [wipe_length]; exact hl)
    · rw [List.getElem?_set_ne z]
      rcases List.mem_cons.mp h with e | h
      · exact absurd e.symm z
      · exact wipe_gone hl h
/-- what is wiped is wiped whatever stood there -/
theorem wipe_eq {σ τ : Sg} {vs : List Nat} (hl : τ.length = σ.length) (h : ∀ j, j ∉ vs → τ[j]? = σ[j]?) : wipe τ vs = wipe σ vs := by
  apply List.ext_getElem?
  intro i
  by_cases z : i ∈ vs
  · by_cases l : i < σ.length
    · rw [wipe_gone l z, wipe_gone (by rw [hl]; exact l) z]
    · rw [List.getElem?_eq_none (by rw [wipe_length]; omega), List.getElem?_eq_none (by rw [wipe_length]; omega)]
  · rw [wipe_get z, wipe_get z, h i z]
section
variable {K : PySem.W.Frag} {T : CT} {ow : List Nat} {σ : Sg} {ρ : DEnv} {H H' : Hp} {S : List Addr}
theorem RE.wipe (re : RE K T ow σ ρ H S) (vs : List Nat) : RE K T ow (L2.wipe σ vs) (wipeD ρ vs) H S := by
  refine ⟨re.mt, by rw [L2.wipe_length, wipeD_length]; exact re.len, fun i d hi hd => ?_, fun i d hi hd => ?_, fun i j d e p hi hj hd he h1 h2 => ?_⟩
  · obtain ⟨h1, h2⟩ := wipeD_some hd
    obtain ⟨v, h3, h4⟩ := re.fro i d hi h1
    exact ⟨v, by rw [wipe_get h2]; exact h3, h4⟩
  · obtain ⟨h1, h2⟩ := wipeD_some hd
    obtain ⟨p, o, h3, h4⟩ := re.own i d hi h1
    exact ⟨p, o, by rw [wipe_get h2]; exact h3, h4⟩
  · obtain ⟨a1, a2⟩ := wipeD_some hd
    obtain ⟨b1, b2⟩ := wipeD_some he
    rw [wipe_get a2] at h1
    rw [wipe_get b2] at h2
    exact re.inj i j d e p hi hj a1 b1 h1 h2
/-- one more object is hidden, that came later -/
theorem RE.more {p : Addr} (re : RE K T ow σ ρ H S) (e : Ex H H') (n : H p = none) (m : ∃ o, H' p = some o ∧ mutO o = true) : RE K T ow σ ρ H' (p :: S) := by
  have ex := hide_new (S := S) e n
  refine ⟨fun q hq => ?_, re.len, fun i d hi hd => ?_, fun i d hi hd => ?_, re.inj⟩
  · rcases List.mem_cons.mp hq with z | z
    · rw [z]; exact m
    · exact re.mt.mono e q z
  · obtain ⟨v, h1, h2⟩ := re.fro i d hi hd
    exact ⟨v, h1, h2.mono ex⟩
  · obtain ⟨q, u, h1, h5, h3, h4⟩ := re.own i d hi hd
    exact ⟨q, u, h1, h5.mono ex, List.mem_cons_of_mem _ h3, e _ _ h4⟩
/-- a hidden object that is no slot's changes -/
theorem RE.chg {p : Addr} {o : HO} (re : RE K T ow σ ρ H S) (hp : p ∈ S) (m : mutO o = true) (h : ∀ i d, i ∈ ow → ρ[i]? = some (some d) → σ[i]? ≠ some (some (.ref p))) : RE K T ow σ ρ (upd H p o) S := by
  refine ⟨fun q hq => ?_, re.len, fun i d hi hd => ?_, fun i d hi hd => ?_, re.inj⟩
  · by_cases z : q = p
    · subst z
      exact ⟨o, upd_same, m⟩
    · obtain ⟨u, h1, h2⟩ := re.mt q hq
      exact ⟨u, by rw [upd_ne z]; exact h1, h2⟩
  · rw [hide_upd hp]
    exact re.fro i d hi hd
  · rw [hide_upd hp]
    obtain ⟨q, u, h1, h5, h3, h4⟩ := re.own i d hi hd
    refine ⟨q, u, h1, h5, h3, ?_⟩
    rw [upd_ne fun z => h i d hi hd (by rw [← z]; exact h1)]
    exact h4
end
def noExc {α : Type} : Res α → Res α
  | .ok a => .ok a
  | _ => .stuck
def lcL (asg : Dat → DEnv → Option DEnv) (t : DEnv → Res Bool) (f : DEnv → Res Dat) (ρ : DEnv) : List Dat → Res (List Dat)
  | [] => .ok []
  | d :: r => match asg d ρ with
    | none => .stuck
    | some ρ1 => (noExc (t ρ1)).bind fun b => if b = true then (noExc (f ρ1)).bind fun y => (lcL asg t f ρ r).bind fun ys => .ok (y :: ys) else lcL asg t f ρ r
def vLc (g : DEnv → Res (List Dat)) (asg : Dat → DEnv → Option DEnv) (vs : List Nat) (t : DEnv → Res Bool) (f : DEnv → Res Dat) : DEnv → Res (List Dat) := fun ρ => (g ρ).bind fun items => if items.length ≤ 10000000 then lcL asg t f (wipeD ρ vs) items else .stuck
theorem noExc_ok {α : Type} {r : Res α} {a : α} (h : noExc r = .ok a) : r = .ok a := by
  cases r with
  | ok b => exact h
  | exc _ => cases h
  | stuck => cases h
theorem bind_ok {α β : Type} {r : Res α} {k : α → Res β} {b : β} (h : r.bind k = .ok b) : ∃ a, r = .ok a ∧ k a = .ok b := by
  cases r with
  | ok a => exact ⟨a, rfl, h⟩
  | exc _ => cases h
  | stuck => cases h
theorem lcL_no {asg : Dat → DEnv → Option DEnv} {t : DEnv → Res Bool} {f : DEnv → Res Dat} {ρ : DEnv} {c : Nat} : ∀ {l : List Dat}, lcL asg t f ρ l ≠ .exc c
  | [], h => by cases h
  | d :: r, h => by
    unfold lcL at h
    split at h
    · cases h
    · rename_i ρ1 _
      cases q : noExc (t ρ1) with
      | exc _ =>
        cases z : t ρ1 <;> rw [z] at q <;> cases q
      | stuck =>
        rw [q] at h
        cases h
      | ok b =>
        rw [q] at h
        cases b with
        | false => exact lcL_no (l := r) h
        | true =>
          have h : ((noExc (f ρ1)).bind fun y => (lcL asg t f ρ r).bind fun ys => .ok (y :: ys)) = .exc c := h
          cases q2 : noExc (f ρ1) with
          | exc _ => cases z : f ρ1 <;> rw [z] at q2 <;> cases q2
          | stuck =>
            rw [q2] at h
            cases h
          | ok y =>
            rw [q2] at h
            cases q3 : lcL asg t f ρ r with
            | exc c' => exact lcL_no (l := r) q3
            | stuck =>
              rw [q3] at h
              cases h
            | ok ys =>
              rw [q3] at h
              cases h
/-- a clause's tests -/
def DTs (X : Cx) (T : CT) (ow : List Nat) (ifs : List Expr) (t : DEnv → Res Bool) : Prop := PTs X ifs (tDB X.K T wNo ow t)
def tYesD : DEnv → Res Bool := fun _ => .ok true
theorem dts_nil {X : Cx} {T : CT} {ow : List Nat} : DTs X T ow [] tYesD := ⟨fun pins s σ H Q I h => by
  obtain ⟨ρ, S, re, w⟩ := h
  exact pts_nil.run pins s σ H Q I (w H (Ex.refl H))⟩
theorem dts_one {X : Cx} {T : CT} {ow : List Nat} {c : Expr} {t : DEnv → Res Bool} (h : DT X T wNo ow c t) : DTs X T ow [c] t := pts_one h
section
variable {X : Cx} {T : CT} {W : WX} {ow : List Nat}
theorem lc_read {g : DEnv → Res (List Dat)} {asg : Dat → DEnv → Option DEnv} {is vs : List Nat} {t : DEnv → Res Bool} {f : DEnv → Res Dat} {K : PySem.W.Frag} {σ : Sg} {H : Hp} {Q : VK} (hi : ∀ i ∈ is, i ∈ vs) (h : tDF K T W ow (vLc g asg vs t f) σ H Q) :
    tLc (tDI K T W ow g) (tDG K T ow is asg) (tDB K T wNo ow t) (tD K T wNo ow f) vs σ H Q := by
  obtain ⟨ρ, S, re, w⟩ := h
  refine ⟨ρ, S, re, ?_⟩
  unfold vLc at w
  cases q : g ρ with
  | exc c =>
    rw [q] at w
    exact w
  | stuck =>
    rw [q] at w
    exact w.elim
  | ok items =>
    rw [q] at w
    have w : WantF K T W σ H S (if items.length ≤ 10000000 then lcL asg t f (wipeD ρ vs) items else .stuck) Q := w
    by_cases hlen : items.length ≤ 10000000
    rotate_left
    · rw [if_neg hlen] at w
      exact w.elim
    rw [if_pos hlen] at w
    obtain ⟨res, hres⟩ : ∃ res, lcL asg t f (wipeD ρ vs) items = .ok res := by
      cases z : lcL asg t f (wipeD ρ vs) items with
      | ok r => exact ⟨r, rfl⟩
      | exc c => exact absurd z lcL_no
      | stuck =>
        rw [z] at w
        exact w.elim
    rw [hres] at w
    intro J H1 e1 src D hD
    obtain ⟨G, Y, walk, gok, yok⟩ := src.ex
    have re1 := re.mono e1
    refine lc_it walk (fun i H' => ∃ acc ds ys, Ex H1 H' ∧ H' D = some (.lst acc) ∧ Reps K T (hide H' (D :: S)) acc ds ∧ acc.length ≤ i ∧ lcL asg t f (wipeD ρ vs) (items.drop i) = .ok ys ∧ res = ds ++ ys) ?_ ?_ ?_ ?_
    · exact ⟨[], [], res, Ex.new hD, upd_same, .nil, Nat.le_refl _, by rw [List.drop_zero]; exact hres, rfl⟩
    · rintro i H' _ ⟨acc, ds, ys, ex, _⟩
      exact gok H' (D :: S) (hide_new ex hD)
    · rintro i x H2 H3 hlt ⟨acc, ds, ys, ex, hDl, rs, hal, hl, hr⟩ y
      obtain ⟨d, hd⟩ : ∃ d, items[i]? = some d := ⟨items[i], by simp [hlt]⟩
      have ex2 := hide_new (S := S) ex hD
      have re2 := (re1.wipe vs).more ex hD ⟨_, hDl, rfl⟩
      obtain ⟨ex3, rx⟩ := yok i d x H2 H3 (D :: S) hd ex2 re2.mt y
      have hdrop : items.drop i = d :: items.drop (i + 1) := by
        have h1 := List.getElem?_eq_some_iff.mp hd
        obtain ⟨h1, h2⟩ := h1
        rw [List.drop_eq_getElem_cons h1, h2]
      rw [hdrop] at hl
      unfold lcL at hl
      cases qa : asg d (wipeD ρ vs) with
      | none =>
        rw [qa] at hl
        cases hl
      | some ρ1 =>
        rw [qa] at hl
        have hl : ((noExc (t ρ1)).bind fun b => if b = true then (noExc (f ρ1)).bind fun y => (lcL asg t f (wipeD ρ vs) (items.drop (i + 1))).bind fun ys => .ok (y :: ys) else lcL asg t f (wipeD ρ vs) (items.drop (i + 1))) = .ok ys := hl
        refine ⟨wipeD ρ vs, D :: S, d, re2.mono ex3, rx, ρ1, qa, fun σ2 re4 hsame hlen2 => ?_⟩
        refine ⟨?_, ?_⟩
        · have h1 : L2.wipe σ2 vs = L2.wipe (L2.wipe σ vs) vs := wipe_eq hlen2 fun j hj => hsame j fun z => hj (hi j z)
          rw [h1]
          exact wipe_eq (wipe_length _ _) fun j hj => wipe_get hj
        · obtain ⟨b, hb, hl⟩ := bind_ok hl
          have hb := noExc_ok hb
          refine ⟨ρ1, D :: S, re4, ?_⟩
          rw [hb]
          intro H5 e5
          cases b with
          | false =>
            show ∃ acc ds ys, _
            exact ⟨acc, ds, ys, ex.trans (ex3.trans e5), e5 _ _ (ex3 _ _ hDl), rs.mono (hide_mono (ex3.trans e5)), Nat.le_succ_of_le hal, hl, hr⟩
          | true =>
            obtain ⟨y1, hy, hl⟩ := bind_ok (show ((noExc (f ρ1)).bind fun y => (lcL asg t f (wipeD ρ vs) (items.drop (i + 1))).bind fun ys => .ok (y :: ys)) = .ok ys from hl)
            obtain ⟨ys2, hy2, hl⟩ := bind_ok hl
            cases hl
            have hy := noExc_ok hy
            show tD K T wNo ow f σ2 H5 _
            refine ⟨ρ1, D :: S, re4.mono e5, ?_⟩
            rw [hy]
            intro v H6 e6 rv
            refine ⟨acc, e6 _ _ (e5 _ _ (ex3 _ _ hDl)), ?_, ?_⟩
            · have : (10000000 : Nat) < sizeLine := by decide
              omega
            · refine ⟨acc ++ [v], ds ++ [y1], ys2, ?_, upd_same, ?_, ?_, hy2, ?_⟩
              · intro a o ha
                rw [upd_ne (ne_of_none ha hD)]
                exact e6 _ _ (e5 _ _ (ex3 _ _ (ex a o ha)))
              · rw [hide_upd List.mem_cons_self]
                exact (rs.mono (hide_mono ((ex3.trans e5).trans e6))).append (.one rv)
              · rw [List.length_append, List.length_singleton]
                omega
              · rw [hr, List.append_assoc]
                rfl
    · rintro H' ⟨acc, ds, ys, ex, hDl, rs, hal, hl, hr⟩
      rw [List.drop_length] at hl
      cases hl
      rw [List.append_nil] at hr
      subst hr
      exact w D acc H' (e1.trans ex) (e1.fresh hD) hDl rs
theorem df_lc {elt tg iter : Expr} {ifs : List Expr} {scope : Scope} {own : List (Str × Nat)} {pos : Pos} {g : DEnv → Res (List Dat)} {asg : Dat → DEnv → Option DEnv} {is : List Nat} {t : DEnv → Res Bool} {f : DEnv → Res Dat} (hc : X.calm = true) (hN : X.N.Nodup) (hi : DI X T W ow tg iter g)
    (ok : BlkOk X.N X.env.scope scope own) (his : ∀ i ∈ is, i ∈ own.map (·.2))
    (hg : ∀ (s : Shared) (H : Hp) (C : Addr) (cl : List (Str × Addr)) (fp : List Addr), DG (X.blk s H scope (compEnvC scope cl C X.env) fp) T ow is tg asg) (ht : ∀ (s : Shared) (H : Hp) (C : Addr) (cl : List (Str × Addr)) (fp : List Addr), DTs (X.blk s H scope (compEnvC scope cl C X.env) fp) T ow ifs t)
    (he : ∀ (s : Shared) (H : Hp) (C : Addr) (cl : List (Str × Addr)) (fp : List Addr), DE (X.blk s H scope (compEnvC scope cl C X.env) fp) T wNo ow elt f) (hs : ∀ x, foldedSetIterable iter X.env x = pure x := by intro _; rfl) :
    DF X T W ow (.ListComp elt [⟨tg, iter, ifs, 0⟩] scope pos) (vLc g asg (own.map (·.2)) t f) := pe_imp (pe_lc (g := tDG X.K T ow is asg) (tt := tDB X.K T wNo ow t) (te := tD X.K T wNo ow f) hc hN hi ok hg ht he hs) fun _ _ _ h => lc_read his h
end
end Dl
/-! The D layer, part 6: statements, defs, objects made. -/
namespace Dl
open PySem PySem.Spec PyProof.Rows L2

inductive DFlow where
  | nx (ρ : DEnv) | rt (d : Dat) | bk (ρ : DEnv) | ct (ρ : DEnv) | ex (c : Nat) (ρ : DEnv) | stuck
structure RS (K : PySem.W.Frag) (T : CT) (B : Hp) (B0 : List Addr) (ow : List Nat) (σ : Sg) (ρ : DEnv) (H : Hp) (S : List Addr) : Prop where
  re : RE K T ow σ ρ H S
  ex : Ex B H
  sub : ∀ p ∈ B0, p ∈ S
  bd : ∀ p ∈ B0, B p ≠ none
  onew : ∀ (i : Nat) (d : Dat) (p : Addr), i ∈ ow → ρ[i]? = some (some d) → σ[i]? = some (some (.ref p)) → B p = none
  new : ∀ p ∈ S, p ∈ B0 ∨ B p = none
section
variable {K : PySem.W.Frag} {T : CT} {B H H' H1 : Hp} {B0 S S' : List Addr} {ow ow' ob : List Nat} {σ : Sg} {ρ : DEnv}
theorem RS.mono (r : RS K T B B0 ow σ ρ H S) (e : Ex H H') : RS K T B B0 ow σ ρ H' S := ⟨r.re.mono e, r.ex.trans e, r.sub, r.bd, r.onew, r.new⟩
/-- the addresses of owned slots -/
def ownA (ow : List Nat) (σ : Sg) (ρ : DEnv) : List Addr := ow.filterMap fun i => match ρ[i]?, σ[i]? with
  | some (some _), some (some (V.ref p)) => some p
  | _, _ => none
theorem mem_ownA {p : Addr} : p ∈ ownA ow σ ρ ↔ ∃ i d, i ∈ ow ∧ ρ[i]? = some (some d) ∧ σ[i]? = some (some (.ref p)) := by
  unfold ownA
  rw [List.mem_filterMap]
  constructor
  · rintro ⟨i, hi, h⟩
    split at h
    · rename_i d q h1 h2
      cases h
      exact ⟨i, d, hi, h1, h2⟩
    · cases h
  · rintro ⟨i, d, hi, h1, h2⟩
    exact ⟨i, hi, by rw [h1, h2]⟩
/-- fewer slots are owned: the others' lists are frozen -/
theorem RS.less (r : RS K T B B0 ow σ ρ H S) (h : ∀ i ∈ ow', i ∈ ow) : RS K T B B0 ow' σ ρ H (B0 ++ ownA ow' σ ρ) ∧ ∀ p ∈ B0 ++ ownA ow' σ ρ, p ∈ S := by
  have hS : ∀ p ∈ B0 ++ ownA ow' σ ρ, p ∈ S := fun p hp => by
    rcases List.mem_append.mp hp with z | z
    · exact r.sub p z
    · obtain ⟨i, d, hi, h1, h2⟩ := mem_ownA.mp z
      obtain ⟨q, u, e1, _, e3, _⟩ := r.re.own i d (h i hi) h1
      rw [h2] at e1
      cases e1
      exact e3
  have sub := hide_sub (H := H) hS
  refine ⟨⟨⟨fun p hp => r.re.mt p (hS p hp), r.re.len, fun i d hi hd => ?_, fun i d hi hd => ?_, fun i j d e p hi hj => r.re.inj i j d e p (h i hi) (h j hj)⟩, r.ex, fun p hp => List.mem_append_left _ hp, r.bd, fun i d p hi => r.onew i d p (h i hi), fun p hp => ?_⟩, hS⟩
  · by_cases z : i ∈ ow
    · obtain ⟨q, u, e1, e5, e3, e4⟩ := r.re.own i d z hd
      refine ⟨_, e1, ?_⟩
      refine OwnR.rep (hide_get e4 fun hq => ?_) (e5.mono sub)
      rcases List.mem_append.mp hq with y | y
      · exact r.bd q y (r.onew i d q z hd e1)
      · obtain ⟨j, d', hj, h1, h2⟩ := mem_ownA.mp y
        have := r.re.inj i j d d' q z (h j hj) hd h1 e1 h2
        subst this
        exact hi hj
    · obtain ⟨v, h1, h2⟩ := r.re.fro i d z hd
      exact ⟨v, h1, h2.mono sub⟩
  · obtain ⟨q, u, e1, e5, e3, e4⟩ := r.re.own i d (h i hi) hd
    exact ⟨q, u, e1, e5.mono sub, List.mem_append_right _ (mem_ownA.mpr ⟨i, d, hi, hd, e1⟩), e4⟩
  · exact r.new p (hS p hp)
theorem RS.bare (r : RS K T B B0 ow σ ρ H S) : RS K T B B0 [] σ ρ H B0 ∧ Ex (hide H S) (hide H B0) := by
  have h := (r.less (ow' := []) fun _ z => by cases z).1
  have e : B0 ++ ownA [] σ ρ = B0 := List.append_nil _
  rw [e] at h
  exact ⟨h, hide_sub r.sub⟩
/-- what is wanted behind a statement -/
def Wants (K : PySem.W.Frag) (T : CT) (W : WX) (B : Hp) (B0 : List Addr) (ow' ob : List Nat) (H : Hp) (S : List Addr) (D : Ends) : DFlow → Prop
  | .nx ρ => ∀ σ' H' S', RS K T B B0 ow' σ' ρ H' S' → Ex (hide H S) (hide H' S') → D.nx σ' H'
  | .rt d => ∀ v H', Ex B H' → Rep K T (hide H' B0) v d → D.rt v H'
  | .bk ρ => ∀ σ' H' S', RS K T B B0 ob σ' ρ H' S' → Ex (hide H S) (hide H' S') → D.bk σ' H'
  | .ct ρ => ∀ σ' H' S', RS K T B B0 ob σ' ρ H' S' → Ex (hide H S) (hide H' S') → D.ct σ' H'
  | .ex c ρ => ∀ σ' H', RS K T B B0 [] σ' ρ H' B0 → Ex (hide H S) (hide H' B0) → W (T.exc c) none σ' H'
  | .stuck => False
theorem Wants.mono {W : WX} {D : Ends} {f : DFlow} (w : Wants K T W B B0 ow' ob H S D f) (e : Ex (hide H S) (hide H' S')) : Wants K T W B B0 ow' ob H' S' D f := by
  cases f with
  | nx ρ => exact fun σ' H2 S2 r e2 => w σ' H2 S2 r (e.trans e2)
  | rt d => exact w
  | bk ρ => exact fun σ' H2 S2 r e2 => w σ' H2 S2 r (e.trans e2)
  | ct ρ => exact fun σ' H2 S2 r e2 => w σ' H2 S2 r (e.trans e2)
  | ex c ρ => exact fun σ' H2 r e2 => w σ' H2 r (e.trans e2)
  | stuck => exact w
def tDS (K : PySem.W.Frag) (T : CT) (W : WX) (ow ow' ob : List Nat) (F : DEnv → DFlow) : TS := fun D σ H => ∃ B B0 ρ S, RS K T B B0 ow σ ρ H S ∧ Wants K T W B B0 ow' ob H S D (F ρ)
end
def DS (X : Cx) (T : CT) (W : WX) (ow ow' ob : List Nat) (st : Stmt) (F : DEnv → DFlow) : Prop := PS X st (tDS X.K T W ow ow' ob F)
def DSs (X : Cx) (T : CT) (W : WX) (ow ow' ob : List Nat) (st : List Stmt) (F : DEnv → DFlow) : Prop := PSs X st (tDS X.K T W ow ow' ob F)

section
variable {K : PySem.W.Frag} {T : CT} {W : WX} {B H H' H1 : Hp} {B0 S S' : List Addr} {ow ow' ob : List Nat} {σ : Sg} {ρ : DEnv} {D : Ends}
/-- a result, then a statement's end -/
def rBind {α : Type} (r : Res α) (ρ : DEnv) (k : α → DFlow) : DFlow := match r with
  | .ok a => k a
  | .exc c => .ex c ρ
  | .stuck => .stuck
/-- an expression within a statement -/
theorem Wants.part {fa : DEnv → Res Dat} {k : Dat → DFlow} {R : VK} (rs : RS K T B B0 ow σ ρ H S) (w : Wants K T W B B0 ow' ob H S D (rBind (fa ρ) ρ k))
    (hk : ∀ v d H1, Wants K T W B B0 ow' ob H1 S D (k d) → RS K T B B0 ow σ ρ H1 S → Ex H H1 → Rep K T (hide H1 S) v d → R v H1) : tD K T W ow fa σ H R := by
  refine ⟨ρ, S, rs.re, ?_⟩
  unfold rBind at w
  cases q : fa ρ with
  | ok d =>
    rw [q] at w
    exact fun v H' e r => hk v d H' (Wants.mono w (hide_mono e)) (rs.mono e) e r
  | exc c =>
    rw [q] at w
    intro H' e
    have r2 := (rs.mono e).bare
    exact w σ H' r2.1 ((hide_mono e).trans r2.2)
  | stuck =>
    rw [q] at w
    exact w.elim
theorem Wants.partF {fa : DEnv → Res (List Dat)} {k : List Dat → DFlow} {R : VK} (rs : RS K T B B0 ow σ ρ H S) (w : Wants K T W B B0 ow' ob H S D (rBind (fa ρ) ρ k))
    (hk : ∀ p vs ds H1, Wants K T W B B0 ow' ob H S D (k ds) → RS K T B B0 ow σ ρ H1 S → Ex H H1 → H p = none → H1 p = some (.lst vs) → Reps K T (hide H1 (p :: S)) vs ds → R (.ref p) H1) : tDF K T W ow fa σ H R := by
  refine ⟨ρ, S, rs.re, ?_⟩
  unfold rBind at w
  cases q : fa ρ with
  | ok d =>
    rw [q] at w
    exact fun p vs H' e n h r => hk p vs d H' w (rs.mono e) e n h r
  | exc c =>
    rw [q] at w
    intro H' e
    have r2 := (rs.mono e).bare
    exact w σ H' r2.1 ((hide_mono e).trans r2.2)
  | stuck =>
    rw [q] at w
    exact w.elim
theorem Wants.partB {fa : DEnv → Res Bool} {k : Bool → DFlow} {R : Bool → Hp → Prop} (rs : RS K T B B0 ow σ ρ H S) (w : Wants K T W B B0 ow' ob H S D (rBind (fa ρ) ρ k))
    (hk : ∀ d H1, Wants K T W B B0 ow' ob H1 S D (k d) → RS K T B B0 ow σ ρ H1 S → Ex H H1 → R d H1) : tDB K T W ow fa σ H R := by
  refine ⟨ρ, S, rs.re, ?_⟩
  unfold rBind at w
  cases q : fa ρ with
  | ok d =>
    rw [q] at w
    exact fun H' e => hk d H' (Wants.mono w (hide_mono e)) (rs.mono e) e
  | exc c =>
    rw [q] at w
    intro H' e
    have r2 := (rs.mono e).bare
    exact w σ H' r2.1 ((hide_mono e).trans r2.2)
  | stuck =>
    rw [q] at w
    exact w.elim
theorem Wants.partA {fa : DEnv → Res (List Dat)} {k : List Dat → DFlow} {R : List V → Hp → Prop} (rs : RS K T B B0 ow σ ρ H S) (w : Wants K T W B B0 ow' ob H S D (rBind (fa ρ) ρ k))
    (hk : ∀ vs ds H1, Wants K T W B B0 ow' ob H1 S D (k ds) → RS K T B B0 ow σ ρ H1 S → Ex H H1 → Reps K T (hide H1 S) vs ds → R vs H1) : tDA K T W ow fa σ H R := by
  refine ⟨ρ, S, rs.re, ?_⟩
  unfold rBind at w
  cases q : fa ρ with
  | ok d =>
    rw [q] at w
    exact fun vs H' e r => hk vs d H' (Wants.mono w (hide_mono e)) (rs.mono e) e r
  | exc c =>
    rw [q] at w
    intro H' e
    have r2 := (rs.mono e).bare
    exact w σ H' r2.1 ((hide_mono e).trans r2.2)
  | stuck =>
    rw [q] at w
    exact w.elim
/-- the statement goes on: the slots' new state -/
theorem Wants.go {ρ' : DEnv} {σ' : Sg} (w : Wants K T W B B0 ow' ob H S D (.nx ρ')) (r : RS K T B B0 ow' σ' ρ' H' S') (e : Ex (hide H S) (hide H' S')) : D.nx σ' H' := w σ' H' S' r e
theorem RS.set {i : Nat} {v : V} {d : Dat} (rs : RS K T B B0 ow σ ρ H S) (hi : i ∉ ow) (r : Rep K T (hide H S) v d) : RS K T B B0 ow (σ.set i (some v)) (ρ.set i (some d)) H S := by
  refine ⟨rs.re.set hi r, rs.ex, rs.sub, rs.bd, fun j e p hj h1 h2 => ?_, rs.new⟩
  have z : i ≠ j := fun q => hi (q ▸ hj)
  rw [List.getElem?_set_ne z] at h1 h2
  exact rs.onew j e p hj h1 h2
/-- a new list becomes a slot's own -/
theorem RS.ownR {i : Nat} {p : Addr} {o : HO} {d0 : Dat} (hm0 : mutO o = true) (rs : RS K T B B0 ow σ ρ H S) (hi : i ∉ ow) (e : Ex H H') (n : H p = none) (hp : H' p = some o) (r : OwnR K T (hide H' (p :: S)) o d0) :
    RS K T B B0 (i :: ow) (σ.set i (some (.ref p))) (ρ.set i (some d0)) H' (p :: S) := by
  have re := rs.re.more e n ⟨_, hp, hm0⟩
  have hB : B p = none := rs.ex.fresh n
  have hl := rs.re.len
  have pn : p ∉ S := rs.re.mt.not n
  refine ⟨⟨re.mt, by rw [List.length_set, List.length_set]; exact hl, fun j d hj hd => ?_, fun j d hj hd => ?_, fun j k d f q hj hk hd hf h1 h2 => ?_⟩, rs.ex.trans e, fun q hq => List.mem_cons_of_mem _ (rs.sub q hq), rs.bd, fun j d q hj hd h1 => ?_, fun q hq => ?_⟩
  · rw [List.mem_cons, not_or] at hj
    rw [List.getElem?_set_ne (Ne.symm hj.1)] at hd ⊢
    exact re.fro j d hj.2 hd
  · by_cases z : i = j
    · subst z
      by_cases zl : i < ρ.length
      · rw [List.getElem?_set_self zl] at hd
        cases hd
        exact ⟨p, _, List.getElem?_set_self (by rw [hl]; exact zl), r, List.mem_cons_self, hp⟩
      · rw [List.getElem?_eq_none (by rw [List.length_set]; omega)] at hd
        cases hd
    · rw [List.getElem?_set_ne z] at hd ⊢
      rcases List.mem_cons.mp hj with y | y
      · exact absurd y.symm z
      · exact re.own j d y hd
  · have key : ∀ {m : Nat} {g : Dat}, m ∈ ow → (ρ.set i (some d0))[m]? = some (some g) → (σ.set i (some (.ref p)))[m]? = some (some (.ref p)) → False := fun {m g} hm h1 h2 => by
      have z : i ≠ m := fun y => hi (y ▸ hm)
      rw [List.getElem?_set_ne z] at h1 h2
      obtain ⟨q', _, e1, _, e3, _⟩ := rs.re.own m g hm h1
      rw [h2] at e1
      cases e1
      exact pn e3
    have self : ∀ {m : Nat} {g : Dat}, (ρ.set i (some d0))[i]? = some (some g) → (σ.set i (some (.ref p)))[i]? = some (some (.ref q)) → q = p := fun {m g} h1 h2 => by
      by_cases zl : i < ρ.length
      · rw [List.getElem?_set_self (by rw [hl]; exact zl)] at h2
        cases h2
        rfl
      · rw [List.getElem?_eq_none (by rw [List.length_set]; omega)] at h1
        cases h1
    rcases List.mem_cons.mp hj with y | y <;> rcases List.mem_cons.mp hk with x | x
    · rw [y, x]
    · subst y
      have q1 := self (m := 0) hd h1
      subst q1
      exact (key x hf h2).elim
    · subst x
      have q1 := self (m := 0) hf h2
      subst q1
      exact (key y hd h1).elim
    · have z1 : i ≠ j := fun w => hi (w ▸ y)
      have z2 : i ≠ k := fun w => hi (w ▸ x)
      rw [List.getElem?_set_ne z1] at hd h1
      rw [List.getElem?_set_ne z2] at hf h2
      exact rs.re.inj j k d f q y x hd hf h1 h2
  · by_cases z : i = j
    · subst z
      by_cases zl : i < ρ.length
      · rw [List.getElem?_set_self (by rw [hl]; exact zl)] at h1
        cases h1
        exact hB
      · rw [List.getElem?_eq_none (by rw [List.length_set]; omega)] at hd
        cases hd
    · rw [List.getElem?_set_ne z] at hd h1
      rcases List.mem_cons.mp hj with y | y
      · exact absurd y.symm z
      · exact rs.onew j d q y hd h1
  · rcases List.mem_cons.mp hq with y | y
    · rw [y]; exact .inr hB
    · exact rs.new q y
theorem RS.own {i : Nat} {p : Addr} {vs : List V} {ds : List Dat} (rs : RS K T B B0 ow σ ρ H S) (hi : i ∉ ow) (e : Ex H H') (n : H p = none) (hp : H' p = some (.lst vs)) (r : Reps K T (hide H' (p :: S)) vs ds) :
    RS K T B B0 (i :: ow) (σ.set i (some (.ref p))) (ρ.set i (some (.lst ds))) H' (p :: S) := rs.ownR rfl hi e n hp (.lst r)
/-- a slot's own list changes -/
theorem RS.chgR {i : Nat} {p : Addr} {o : HO} {d0 d1 : Dat} (hm0 : mutO o = true) (rs : RS K T B B0 ow σ ρ H S) (hi : i ∈ ow) (hd : ρ[i]? = some (some d0)) (hv : σ[i]? = some (some (.ref p))) (hp : p ∈ S) (r : OwnR K T (hide H S) o d1) :
    RS K T B B0 ow σ (ρ.set i (some d1)) (upd H p o) S := by
  have hB := rs.onew i _ p hi hd hv
  have hl := rs.re.len
  have il : i < ρ.length := (List.getElem?_eq_some_iff.mp hd).1
  have old : ∀ {m : Nat} {g : Dat}, (ρ.set i (some d1))[m]? = some (some g) → ∃ g', ρ[m]? = some (some g') := fun {m g} h => by
    by_cases z : i = m
    · subst z; exact ⟨_, hd⟩
    · rw [List.getElem?_set_ne z] at h; exact ⟨g, h⟩
  refine ⟨⟨fun q hq => ?_, by rw [List.length_set]; exact hl, fun j d hj hd' => ?_, fun j d hj hd' => ?_, fun j k d f q hj hk h1 h2 h3 h4 => ?_⟩, fun a o ha => ?_, rs.sub, rs.bd, fun j d q hj h1 h2 => ?_, rs.new⟩
  · by_cases z : q = p
    · subst z
      exact ⟨_, upd_same, hm0⟩
    · rw [upd_ne z]
      exact rs.re.mt q hq
  · have z : i ≠ j := fun y => hj (y ▸ hi)
    rw [List.getElem?_set_ne z] at hd'
    rw [hide_upd hp]
    exact rs.re.fro j d hj hd'
  · rw [hide_upd hp]
    by_cases z : i = j
    · subst z
      rw [List.getElem?_set_self il] at hd'
      cases hd'
      exact ⟨p, _, hv, r, hp, upd_same⟩
    · rw [List.getElem?_set_ne z] at hd'
      obtain ⟨q, u, e1, e5, e3, e4⟩ := rs.re.own j d hj hd'
      refine ⟨q, u, e1, e5, e3, ?_⟩
      rw [upd_ne fun y => z (rs.re.inj i j _ d p hi hj hd hd' hv (by rw [← y]; exact e1))]
      exact e4
  · obtain ⟨d', h1⟩ := old h1
    obtain ⟨f', h2⟩ := old h2
    exact rs.re.inj j k d' f' q hj hk h1 h2 h3 h4
  · rw [upd_ne fun y => by rw [y, hB] at ha; cases ha]
    exact rs.ex a o ha
  · obtain ⟨d', h1⟩ := old h1
    exact rs.onew j d' q hj h1 h2
theorem RS.chg {i : Nat} {p : Addr} {ws : List V} {ds es : List Dat} (rs : RS K T B B0 ow σ ρ H S) (hi : i ∈ ow) (hd : ρ[i]? = some (some (.lst ds))) (hv : σ[i]? = some (some (.ref p))) (hp : p ∈ S) (r : Reps K T (hide H S) ws es) :
    RS K T B B0 ow σ (ρ.set i (some (.lst es))) (upd H p (.lst ws)) S := rs.chgR rfl hi hd hv hp (.lst r)
end

/-! ### the statements' data -/
def sNop : DEnv → DFlow := .nx
def sSeq (F G : DEnv → DFlow) : DEnv → DFlow := fun ρ => match F ρ with
  | .nx ρ' => G ρ'
  | f => f
def sAsg (i : Nat) (f : DEnv → Res Dat) : DEnv → DFlow := fun ρ => rBind (f ρ) ρ fun d => .nx (ρ.set i (some d))
def sAsgO (i : Nat) (f : DEnv → Res (List Dat)) : DEnv → DFlow := fun ρ => rBind (f ρ) ρ fun l => .nx (ρ.set i (some (.lst l)))
def sAsgT (asg : Dat → DEnv → Option DEnv) (f : DEnv → Res Dat) : DEnv → DFlow := fun ρ => rBind (f ρ) ρ fun d => match asg d ρ with
  | some ρ' => .nx ρ'
  | none => .stuck
def sPar (i j : Nat) (f g : DEnv → Res Dat) : DEnv → DFlow := fun ρ => rBind (f ρ) ρ fun d => rBind (g ρ) ρ fun e => .nx ((ρ.set i (some d)).set j (some e))
def sParO (i j : Nat) (f : DEnv → Res (List Dat)) (g : DEnv → Res Dat) : DEnv → DFlow := fun ρ => rBind (f ρ) ρ fun d => rBind (g ρ) ρ fun e => .nx ((ρ.set i (some (.lst d))).set j (some e))
def sDrop (f : DEnv → Res Dat) : DEnv → DFlow := fun ρ => rBind (f ρ) ρ fun _ => .nx ρ
def sRet (f : DEnv → Res Dat) : DEnv → DFlow := fun ρ => rBind (f ρ) ρ .rt
def sRetN : DEnv → DFlow := fun _ => .rt .non
def sIf (t : DEnv → Res Bool) (F G : DEnv → DFlow) : DEnv → DFlow := fun ρ => rBind (t ρ) ρ fun b => if b = true then F ρ else G ρ
def sAug (i : Nat) (g : Dat → Dat → Option Dat) (f : DEnv → Res Dat) : DEnv → DFlow := fun ρ => match ρ[i]? with
  | some (some d) => rBind (f ρ) ρ fun e => match g d e with
    | some z => .nx (ρ.set i (some z))
    | none => .stuck
  | _ => .stuck
def sApp (i : Nat) (f : DEnv → Res Dat) : DEnv → DFlow := fun ρ => match ρ[i]? with
  | some (some (.lst l)) => rBind (f ρ) ρ fun d => if l.length < 10000000 then .nx (ρ.set i (some (.lst (l ++ [d])))) else .stuck
  | _ => .stuck
def extK (i : Nat) (l : List Dat) (ρ : DEnv) : Dat → DFlow
  | .lst m => if l.length + m.length ≤ 10000000 then .nx (ρ.set i (some (.lst (l ++ m)))) else .stuck
  | _ => .stuck
def sExt (i : Nat) (f : DEnv → Res Dat) : DEnv → DFlow := fun ρ => match ρ[i]? with
  | some (some (.lst l)) => rBind (f ρ) ρ (extK i l ρ)
  | _ => .stuck
def setK (i : Nat) (l : List Dat) (ρ : DEnv) (d : Dat) : Dat → DFlow
  | .int n => match ixN l.length n with
    | some j => .nx (ρ.set i (some (.lst (l.set j d))))
    | none => .stuck
  | _ => .stuck
def sSetI (i : Nat) (fi f : DEnv → Res Dat) : DEnv → DFlow := fun ρ => rBind (f ρ) ρ fun d => match ρ[i]? with
  | some (some (.lst l)) => rBind (fi ρ) ρ (setK i l ρ d)
  | _ => .stuck
def sRaise (c : Nat) : DEnv → DFlow := fun ρ => .ex c ρ
def sBreak : DEnv → DFlow := .bk
def sCont : DEnv → DFlow := .ct
def forL (asg : Dat → DEnv → Option DEnv) (F : DEnv → DFlow) : List Dat → DEnv → DFlow
  | [], ρ => .nx ρ
  | d :: r, ρ => match asg d ρ with
    | none => .stuck
    | some ρ1 => match F ρ1 with
      | .nx ρ2 => forL asg F r ρ2
      | .ct ρ2 => forL asg F r ρ2
      | .bk ρ2 => .nx ρ2
      | f => f
def sFor (g : DEnv → Res (List Dat)) (asg : Dat → DEnv → Option DEnv) (F : DEnv → DFlow) : DEnv → DFlow := fun ρ => rBind (g ρ) ρ fun items => forL asg F items ρ
def whileL (t : DEnv → Res Bool) (F : DEnv → DFlow) : Nat → DEnv → DFlow
  | 0, _ => .stuck
  | n + 1, ρ => rBind (t ρ) ρ fun b => if b = true then (match F ρ with
      | .nx ρ2 => whileL t F n ρ2
      | .ct ρ2 => whileL t F n ρ2
      | .bk ρ2 => .nx ρ2
      | f => f) else .nx ρ
def sWhile (n : Nat) (t : DEnv → Res Bool) (F : DEnv → DFlow) : DEnv → DFlow := whileL t F n
/-- try: F except (the classes m): G, where G raises nothing -/
def sTry (m : Nat → Bool) (F G : DEnv → DFlow) : DEnv → DFlow := fun ρ => match F ρ with
  | .ex c ρ' => if m c = true then (match G ρ' with
    | .ex _ _ => .stuck
    | f => f) else .ex c ρ'
  | f => f

section
variable {X : Cx} {T : CT} {W : WX} {ow ow' ow'' ob : List Nat} {e a b c : Expr} {st : Stmt} {sts rest : List Stmt} {pos p1 p2 : Pos} {f g : DEnv → Res Dat} {F G : DEnv → DFlow}
theorem ds_in (h : DS X T W ow' ow'' ob st F) (hs : ∀ i ∈ ow', i ∈ ow) : DS X T W ow ow'' ob st F := ps_imp h fun D σ H q => by
  obtain ⟨B, B0, ρ, S, rs, w⟩ := q
  obtain ⟨r2, sub⟩ := rs.less hs
  exact ⟨B, B0, ρ, _, r2, w.mono (hide_sub sub)⟩
theorem dss_in (h : DSs X T W ow' ow'' ob sts F) (hs : ∀ i ∈ ow', i ∈ ow) : DSs X T W ow ow'' ob sts F := pss_imp h fun D σ H q => by
  obtain ⟨B, B0, ρ, S, rs, w⟩ := q
  obtain ⟨r2, sub⟩ := rs.less hs
  exact ⟨B, B0, ρ, _, r2, w.mono (hide_sub sub)⟩
theorem Wants.out {K : PySem.W.Frag} {B : Hp} {B0 S : List Addr} {H : Hp} {D : Ends} {fl : DFlow} (w : Wants K T W B B0 ow'' ob H S D fl) (hs : ∀ i ∈ ow'', i ∈ ow') : Wants K T W B B0 ow' ob H S D fl := by
  cases fl with
  | nx ρ =>
    intro σ' H2 S2 r e2
    obtain ⟨r2, sub⟩ := r.less hs
    exact w σ' H2 _ r2 (e2.trans (hide_sub sub))
  | rt d => exact w
  | bk ρ => exact w
  | ct ρ => exact w
  | ex c ρ => exact w
  | stuck => exact w
theorem dss_out (h : DSs X T W ow ow' ob sts F) (hs : ∀ i ∈ ow'', i ∈ ow') : DSs X T W ow ow'' ob sts F := pss_imp h fun D σ H q => by
  obtain ⟨B, B0, ρ, S, rs, w⟩ := q
  exact ⟨B, B0, ρ, S, rs, w.out hs⟩
theorem ds_out (h : DS X T W ow ow' ob st F) (hs : ∀ i ∈ ow'', i ∈ ow') : DS X T W ow ow'' ob st F := ps_imp h fun D σ H q => by
  obtain ⟨B, B0, ρ, S, rs, w⟩ := q
  exact ⟨B, B0, ρ, S, rs, w.out hs⟩
theorem dss_nil : DSs X T W ow ow ob [] sNop := pss_imp pss_nil fun D σ H q => by
  obtain ⟨B, B0, ρ, S, rs, w⟩ := q
  exact w σ H S rs (Ex.refl _)
theorem dss_cons (h1 : DS X T W ow ow' ob st F) (h2 : DSs X T W ow' ow'' ob rest G) : DSs X T W ow ow'' ob (st :: rest) (sSeq F G) := pss_imp (pss_cons h1 h2) fun D σ H q => by
  obtain ⟨B, B0, ρ, S, rs, w⟩ := q
  refine ⟨B, B0, ρ, S, rs, ?_⟩
  unfold sSeq at w
  cases q : F ρ with
  | nx ρ' =>
    rw [q] at w
    exact fun σ' H' S' r e => ⟨B, B0, ρ', S', r, w.mono e⟩
  | _ =>
    rw [q] at w
    exact w
theorem dss_one (h1 : DS X T W ow ow' ob st F) : DSs X T W ow ow' ob [st] F := pss_one h1
theorem ds_pass : DS X T W ow ow ob (.Pass pos) sNop := ps_imp ps_pass fun D σ H q => by
  obtain ⟨B, B0, ρ, S, rs, w⟩ := q
  exact w σ H S rs (Ex.refl _)
theorem ds_break : DS X T W ob ow' ob (.Break pos) sBreak := ps_imp ps_break fun D σ H q => by
  obtain ⟨B, B0, ρ, S, rs, w⟩ := q
  exact w σ H S rs (Ex.refl _)
theorem ds_cont : DS X T W ob ow' ob (.Continue pos) sCont := ps_imp ps_continue fun D σ H q => by
  obtain ⟨B, B0, ρ, S, rs, w⟩ := q
  exact w σ H S rs (Ex.refl _)
/-- name = e -/
theorem ds_asg {i : Nat} {x : Str} {pos' : Pos} (hN : X.N.Nodup) (he : DE X T W ow e f) (hs : ∀ j ∈ ow', j ∈ ow) (ho : i ∉ ow') (hi : X.N[i]? = some x := by rfl) (hx : Loc X.env.scope x := by first | exact .inl rfl | exact .inr rfl)
    (hsw : swapsWith e (some (.Name x pos')) pos.line X.env = pure false := by rfl) (hf : X.fn x = true ∨ X.env.scope.names.lookup x = some .local := by first | exact .inl rfl | exact .inr rfl) : DS X T W ow ow' ob (.Assign [.Name x pos'] e pos) (sAsg i f) :=
  ps_imp (ps_set hN hi hx he hsw hf) fun D σ H q => by
    obtain ⟨B, B0, ρ, S, rs, w⟩ := q
    refine Wants.part rs w fun v d H1 w1 rs1 e1 r => ?_
    obtain ⟨rs2, sub⟩ := rs1.less hs
    exact Wants.go w1 (rs2.set ho (r.mono (hide_sub sub))) (hide_sub sub)
/-- name = a new list, the slot's own from now on -/
theorem ds_asgO {i : Nat} {x : Str} {pos' : Pos} {f : DEnv → Res (List Dat)} (hN : X.N.Nodup) (he : DF X T W ow e f) (hs : ∀ j ∈ ow', j ∈ ow) (ho : i ∉ ow') (hi : X.N[i]? = some x := by rfl) (hx : Loc X.env.scope x := by first | exact .inl rfl | exact .inr rfl)
    (hsw : swapsWith e (some (.Name x pos')) pos.line X.env = pure false := by rfl) (hf : X.fn x = true ∨ X.env.scope.names.lookup x = some .local := by first | exact .inl rfl | exact .inr rfl) : DS X T W ow (i :: ow') ob (.Assign [.Name x pos'] e pos) (sAsgO i f) :=
  ps_imp (ps_set hN hi hx he hsw hf) fun D σ H q => by
    obtain ⟨B, B0, ρ, S, rs, w⟩ := q
    refine Wants.partF rs w fun p vs ds H1 w1 rs1 e1 n hp r => ?_
    obtain ⟨rs2, sub⟩ := rs.less hs
    have sub2 : ∀ q ∈ p :: (B0 ++ ownA ow' σ ρ), q ∈ p :: S := fun q hq => (List.mem_cons.mp hq).elim (fun z => by rw [z]; exact List.mem_cons_self) fun z => List.mem_cons_of_mem _ (sub q z)
    exact Wants.go w1 (rs2.own ho e1 n hp (r.mono (hide_sub sub2))) ((hide_sub sub).trans (hide_new e1 n))
end
end Dl
/-! The D layer, part 7: the other statements; defs by their bodies. -/
namespace Dl
open PySem PySem.Spec PyProof.Rows L2
section
variable {X : Cx} {T : CT} {W : WX} {ow ow' ow'' ob : List Nat} {e a b c : Expr} {st : Stmt} {sts rest : List Stmt} {pos p1 p2 : Pos} {f g : DEnv → Res Dat} {F G : DEnv → DFlow}
/-- name = [..] on one line, the name a local: frozen, or the slot's own -/
theorem ds_asgLc {i : Nat} {y : Str} {py : Pos} {elt tg iter : Expr} {ifs : List Expr} {scope : Scope} {own : List (Str × Nat)} {spos : Pos} {gg : DEnv → Res (List Dat)} {asg : Dat → DEnv → Option DEnv} {is : List Nat} {t : DEnv → Res Bool} {fe : DEnv → Res Dat} (hc : X.calm = true) (hN : X.N.Nodup)
    (hyl : X.env.scope.names.lookup y = some .local) (hsw : swapsWith (.ListComp elt [⟨tg, iter, ifs, 0⟩] scope pos) (some (.Name y py)) spos.line X.env = pure true) (hi : DI X T W ow tg iter gg) (ok : BlkOk X.N X.env.scope scope own) (his : ∀ i ∈ is, i ∈ own.map (·.2))
    (hg : ∀ (s : Shared) (H : Hp) (C : Addr) (cl : List (Str × Addr)) (fp : List Addr), DG (X.blk s H scope (compEnvC scope cl C X.env) fp) T ow is tg asg) (ht : ∀ (s : Shared) (H : Hp) (C : Addr) (cl : List (Str × Addr)) (fp : List Addr), DTs (X.blk s H scope (compEnvC scope cl C X.env) fp) T ow ifs t)
    (he : ∀ (s : Shared) (H : Hp) (C : Addr) (cl : List (Str × Addr)) (fp : List Addr), DE (X.blk s H scope (compEnvC scope cl C X.env) fp) T wNo ow elt fe) (hs : ∀ j ∈ ow', j ∈ ow) (ho : i ∉ ow') (hy : X.N[i]? = some y := by rfl) (hfs : ∀ x, foldedSetIterable iter X.env x = pure x := by intro _; rfl) :
    DS X T W ow (i :: ow') ob (.Assign [.Name y py] (.ListComp elt [⟨tg, iter, ifs, 0⟩] scope pos) spos) (sAsgO i (vLc gg asg (own.map (·.2)) t fe)) :=
  ps_imp (ps_setLc (g := tDG X.K T ow is asg) (tt := tDB X.K T wNo ow t) (te := tD X.K T wNo ow fe) hc hN hy hyl hsw hi ok hg ht he hfs) fun D σ H q => by
    obtain ⟨B, B0, ρ, S, rs, w⟩ := q
    refine lc_read his ?_
    refine Wants.partF rs w fun p vs ds H1 w1 rs1 e1 n hp r => ?_
    obtain ⟨rs2, sub⟩ := rs.less hs
    have sub2 : ∀ q ∈ p :: (B0 ++ ownA ow' σ ρ), q ∈ p :: S := fun q hq => (List.mem_cons.mp hq).elim (fun z => by rw [z]; exact List.mem_cons_self) fun z => List.mem_cons_of_mem _ (sub q z)
    exact Wants.go w1 (rs2.own ho e1 n hp (r.mono (hide_sub sub2))) ((hide_sub sub).trans (hide_new e1 n))
/-- targets = e -/
theorem ds_asgT {tg : Expr} {is : List Nat} {asg : Dat → DEnv → Option DEnv} (he : DE X T W ow e f) (hg : DG X T ow' is tg asg) (hs : ∀ j ∈ ow', j ∈ ow) (hd : ∀ j ∈ ow', j ∉ is) (hsame : ∀ d ρ ρ' j, asg d ρ = some ρ' → j ∉ is → ρ'[j]? = ρ[j]?)
    (hsw : swapsWithSole [tg] e pos.line X.env = pure false := by rfl) (hw : swappedStores [tg] e X.env = pure none := by rfl) (hae : (assignEach [tg] X.env).map (·.2) = [assign tg X.env] := by rfl) : DS X T W ow ow' ob (.Assign [tg] e pos) (sAsgT asg f) := ps_imp (ps_asg he hg hsw hw hae) fun D σ H q => by
  obtain ⟨B, B0, ρ, S, rs, w⟩ := q
  refine Wants.part rs w fun v d H1 w1 rs1 e1 r => ?_
  obtain ⟨rs2, sub⟩ := rs1.less hs
  cases qa : asg d ρ with
  | none =>
    rw [qa] at w1
    exact w1.elim
  | some ρ' =>
    rw [qa] at w1
    refine ⟨ρ, _, d, rs2.re, r.mono (hide_sub sub), ρ', qa, fun σ' re' hsm hl => ?_⟩
    refine Wants.go w1 (S' := B0 ++ ownA ow' σ ρ) ⟨re', rs2.ex, rs2.sub, rs2.bd, fun i d' p hi h1 h2 => ?_, rs2.new⟩ (hide_sub sub)
    rw [hsame d ρ ρ' i qa (hd i hi)] at h1
    rw [hsm i (hd i hi)] at h2
    exact rs2.onew i d' p hi h1 h2
/-- x, y = a, b -/
theorem ds_par {i j : Nat} {x y : Str} {px py pt : Pos} {kt k2 pt2} (hc : X.calm = true) (hN : X.N.Nodup) (ha : DE X T W ow a f) (hb : DE X T W ow b g) (hs : ∀ k ∈ ow', k ∈ ow) (hi1 : i ∉ ow') (hj1 : j ∉ ow') (hw : swappedStores [.Tuple [.Name x px, .Name y py] kt pt] (.Tuple [a, b] k2 pt2) X.env = pure (some [x, y]))
    (hi : X.N[i]? = some x := by rfl) (hj : X.N[j]? = some y := by rfl) (hij : i ≠ j := by decide) (hx : X.env.scope.names.lookup x = some .local := by rfl) (hy : X.env.scope.names.lookup y = some .local := by rfl)
    (h1 : starEach [a, b] X.env = (false, eval a X.env) :: starEach [b] X.env := by rfl) (h2 : starEach [b] X.env = (false, eval b X.env) :: starEach [] X.env := by rfl) (hsw : swapsWithSole [.Tuple [.Name x px, .Name y py] kt pt] (.Tuple [a, b] k2 pt2) pos.line X.env = pure false := by rfl) :
    DS X T W ow ow' ob (.Assign [.Tuple [.Name x px, .Name y py] kt pt] (.Tuple [a, b] k2 pt2) pos) (sPar i j f g) := ps_imp (ps_par hc hN hi hj hij hx hy (pa_cons ha (pa_cons hb pa_nil h2) h1) hw hsw) fun D σ H q => by
  obtain ⟨B, B0, ρ, S, rs, w⟩ := q
  refine Wants.part rs w fun v d H1 w1 rs1 e1 r => ?_
  refine Wants.part rs1 w1 fun v2 d2 H2 w2 rs2 e2 r2 => ?_
  obtain ⟨rs3, sub⟩ := rs2.less hs
  refine ⟨v, v2, rfl, ?_⟩
  exact Wants.go w2 ((rs3.set hi1 ((r.mono (hide_mono e2)).mono (hide_sub sub))).set hj1 (r2.mono (hide_sub sub))) (hide_sub sub)
/-- x, y = [..], b: x owns its list -/
theorem ds_parO {f : DEnv → Res (List Dat)} {i j : Nat} {x y : Str} {px py pt : Pos} {kt k2 pt2} (hc : X.calm = true) (hN : X.N.Nodup) (ha : DF X T W ow a f) (hb : DE X T W ow b g) (hs : ∀ k ∈ ow', k ∈ ow) (hi1 : i ∉ ow') (hj1 : j ∉ i :: ow') (hw : swappedStores [.Tuple [.Name x px, .Name y py] kt pt] (.Tuple [a, b] k2 pt2) X.env = pure (some [x, y]))
    (hi : X.N[i]? = some x := by rfl) (hj : X.N[j]? = some y := by rfl) (hij : i ≠ j := by decide) (hx : X.env.scope.names.lookup x = some .local := by rfl) (hy : X.env.scope.names.lookup y = some .local := by rfl)
    (h1 : starEach [a, b] X.env = (false, eval a X.env) :: starEach [b] X.env := by rfl) (h2 : starEach [b] X.env = (false, eval b X.env) :: starEach [] X.env := by rfl) (hsw : swapsWithSole [.Tuple [.Name x px, .Name y py] kt pt] (.Tuple [a, b] k2 pt2) pos.line X.env = pure false := by rfl) :
    DS X T W ow (i :: ow') ob (.Assign [.Tuple [.Name x px, .Name y py] kt pt] (.Tuple [a, b] k2 pt2) pos) (sParO i j f g) := ps_imp (ps_par hc hN hi hj hij hx hy (pa_cons (te := tDF X.K T W ow f) ha (pa_cons hb pa_nil h2) h1) hw hsw) fun D σ H q => by
  obtain ⟨B, B0, ρ, S, rs, w⟩ := q
  refine Wants.partF rs w fun p vs ds H1 w1 rs1 e1 n hp r => ?_
  -- the second part, the new list hidden
  have pB : B p = none := rs.ex.fresh n
  have rsm : RS X.K T B B0 ow σ ρ H1 (p :: S) := ⟨rs.re.more e1 n ⟨_, hp, rfl⟩, rs.ex.trans e1, fun q hq => List.mem_cons_of_mem _ (rs.sub q hq), rs.bd, rs.onew, fun q hq => (List.mem_cons.mp hq).elim (fun z => by rw [z]; exact .inr pB) (rs.new q)⟩
  have w1' := w1.mono (hide_new e1 n)
  refine Wants.part rsm w1' fun v2 d2 H2 w2 rs2 e2 r2 => ?_
  refine ⟨.ref p, v2, rfl, ?_⟩
  obtain ⟨rs3, sub⟩ := rs.less hs
  have sub2 : ∀ q ∈ p :: (B0 ++ ownA ow' σ ρ), q ∈ p :: S := fun q hq => (List.mem_cons.mp hq).elim (fun z => by rw [z]; exact List.mem_cons_self) fun z => List.mem_cons_of_mem _ (sub q z)
  have rs4 := rs3.own hi1 (e1.trans e2) n (e2 _ _ hp) ((r.mono (hide_mono e2)).mono (hide_sub sub2))
  exact Wants.go w2 (rs4.set hj1 (r2.mono (hide_sub sub2))) (hide_sub sub2)
theorem ds_drop (he : DE X T W ow e f) (hs : swapsWith e none pos.line X.env = pure false := by rfl) : DS X T W ow ow ob (.Expr e pos) (sDrop f) := ps_imp (ps_expr he hs) fun D σ H q => by
  obtain ⟨B, B0, ρ, S, rs, w⟩ := q
  exact Wants.part rs w fun v d H1 w1 rs1 e1 r => Wants.go w1 rs1 (Ex.refl _)
theorem ds_ret (he : DE X T W ow e f) : DS X T W ow ow' ob (.Return (some e) pos) (sRet f) := ps_imp (ps_ret he) fun D σ H q => by
  obtain ⟨B, B0, ρ, S, rs, w⟩ := q
  exact Wants.part rs w fun v d H1 w1 rs1 e1 r => w1 v H1 rs1.ex (r.mono (hide_sub rs1.sub))
theorem ds_retN : DS X T W ow ow' ob (.Return none pos) sRetN := ps_imp ps_retN fun D σ H q => by
  obtain ⟨B, B0, ρ, S, rs, w⟩ := q
  exact w .non H rs.ex .non
theorem ds_if {t : DEnv → Res Bool} {as bs : List Stmt} (hc : DT X T W ow c t) (ha : DSs X T W ow ow' ob as F) (hb : DSs X T W ow ow' ob bs G) : DS X T W ow ow' ob (.If c as bs pos) (sIf t F G) := ps_imp (ps_if hc ha hb) fun D σ H q => by
  obtain ⟨B, B0, ρ, S, rs, w⟩ := q
  refine Wants.partB rs w fun k H1 w1 rs1 e1 => ?_
  cases k with
  | true => exact ⟨B, B0, ρ, S, rs1, w1⟩
  | false => exact ⟨B, B0, ρ, S, rs1, w1⟩
/-- x op= e -/
theorem ip_of {op : Operator} {r : R2} (h : OpR X (inplaceOp op) r) : PIp X op r := fun pins s σ H x y v u Q I rx ry q => h pins s σ H x y v u Q I rx ry q
theorem ds_aug {i : Nat} {x : Str} {pos' : Pos} {op : Operator} {r : R2} {gg : Dat → Dat → Option Dat} (hN : X.N.Nodup) (ho : OpR X (inplaceOp op) r) (rd : R2D X.K T r gg) (he : DE X T W ow e f) (hiw : i ∉ ow := by decide) (hi : X.N[i]? = some x := by rfl) (hx : Loc X.env.scope x := by first | exact .inl rfl | exact .inr rfl)
    (hf : X.fn x = true ∨ X.env.scope.names.lookup x = some .local := by first | exact .inl rfl | exact .inr rfl) : DS X T W ow ow ob (.AugAssign (.Name x pos') op e pos) (sAug i gg f) := ps_imp (ps_aug hN hi hx he (ip_of ho) hf) fun D σ H q => by
  obtain ⟨B, B0, ρ, S, rs, w⟩ := q
  unfold sAug at w
  split at w
  · rename_i d hd
    obtain ⟨v, h1, h2⟩ := rs.re.fro i d hiw hd
    refine ⟨v, h1, ?_⟩
    refine Wants.part rs w fun v2 d2 H1 w1 rs1 e1 r2 => ?_
    cases q : gg d d2 with
    | none =>
      rw [q] at w1
      exact w1.elim
    | some z =>
      rw [q] at w1
      refine rd S H1 v v2 d d2 z _ rs1.re.mt (h2.mono (hide_mono e1)) r2 q fun v3 H2 e2 r3 => ?_
      exact Wants.go w1 ((rs1.mono e2).set hiw r3) (hide_mono e2)
  · exact w.elim
theorem iop_addAll : OpR X (inplaceOp .Add) (fun x y H Q => rI0 (fun i j => .int (i + j)) x y H Q ∨ (∃ i j, x = .str i ∧ y = .str j ∧ i.length + j.length ≤ sizeLine ∧ Q (.str (i ++ j)) H)) := iop_add.or iop_add_str
def iaddD : Dat → Dat → Option Dat
  | .int i, .int j => some (.int (i + j))
  | .str a, .str b => if a.length + b.length ≤ sizeLine then some (.str (a ++ b)) else none
  | _, _ => none
theorem rd_iadd {K : PySem.W.Frag} : R2D K T (fun x y H Q => rI0 (fun i j => .int (i + j)) x y H Q ∨ (∃ i j, x = .str i ∧ y = .str j ∧ i.length + j.length ≤ sizeLine ∧ Q (.str (i ++ j)) H)) iaddD := fun S H x y dx dy d Q m rx ry e q => by
  cases rx with
  | int i =>
    cases ry with
    | int j => exact .inl ⟨i, j, rfl, rfl, by cases e; exact q _ H (Ex.refl H) (.int _)⟩
    | _ => cases e
  | str a =>
    cases ry with
    | str b =>
      simp only [iaddD] at e
      by_cases z : a.length + b.length ≤ sizeLine
      · rw [if_pos z] at e
        exact .inr ⟨a, b, rfl, rfl, z, by cases e; exact q _ H (Ex.refl H) (.str _)⟩
      · rw [if_neg z] at e
        cases e
    | _ => cases e
  | _ => cases e
def imulI (i j : Int) : Option Int := if i.natAbs < 2 ^ 64 ∨ j.natAbs < 2 ^ 64 then some (i * j) else none
theorem rd_imul {K : PySem.W.Frag} : R2D K T (rI CMul fun i j => .int (i * j)) (intOp imulI) := rd_int fun i j k H Q e q => by
  unfold imulI at e
  split at e
  · rename_i h
    refine ⟨i, j, rfl, rfl, ?_, by cases e; exact q⟩
    rcases h with h | h
    · exact .inl (mul64 h)
    · exact .inr (mul64 h)
  · cases e
def ifdivI (i j : Int) : Option Int := if 0 < j ∧ j.natAbs.log2 < 9000 then some (i / j) else none
theorem rd_ifdiv {K : PySem.W.Frag} : R2D K T (rI CDivW fun i j => .int (i / j)) (intOp ifdivI) := rd_int fun i j k H Q e q => by
  unfold ifdivI at e
  split at e
  · rename_i h
    exact ⟨i, j, rfl, rfl, h, by cases e; exact q⟩
  · cases e
/-! ### an owned list changes -/
/-- the slot's own list, as an object -/
theorem own_at {K : PySem.W.Frag} {B : Hp} {B0 S : List Addr} {σ : Sg} {ρ : DEnv} {H : Hp} {i : Nat} {l : List Dat} (rs : RS K T B B0 ow σ ρ H S) (hi : i ∈ ow) (hd : ρ[i]? = some (some (.lst l))) : ∃ p vs, σ[i]? = some (some (.ref p)) ∧ p ∈ S ∧ H p = some (.lst vs) ∧ Reps K T (hide H S) vs l := by
  obtain ⟨p, o, h1, h5, h3, h4⟩ := rs.re.own i _ hi hd
  cases h5 with
  | lst r => exact ⟨p, _, h1, h3, h4, r⟩
theorem ds_app {i : Nat} {x : Str} {apos cpos xp : Pos} (he : DE X T W ow e f) (hiw : i ∈ ow := by decide) (hN : X.N[i]? = some x := by rfl) (hv : Vis X.env.scope x := by first | exact Or.inl rfl | exact Or.inr (Or.inl rfl) | exact Or.inr (Or.inr rfl)) (hd : (x == ("__debug__" : Str)) = false := by decide)
    (hcd : (x == ("__classdict__" : Str)) = false := by decide) (hbase : attributeBase (.Name x xp) "append" X.env (eval (.Name x xp) X.env) = eval (.Name x xp) X.env := by rfl)
    (hfew : ((backTo cpos (starEach [e] X.env)).all (fun x => !x.1) && (backToKw cpos (keywordEach [] X.env)).all (fun x => x.1.isSome)
      && decide ([e].length + ([] : List Keyword).length + (if ([] : List Keyword).isEmpty then 0 else 1) < 30)) = true := by rfl)
    (hline : (apos.endLine == cpos.line) = true := by rfl) (hst : starEach [e] X.env = (false, eval e X.env) :: starEach [] X.env := by rfl) (hplain : (backTo cpos (starEach [] X.env)).any (·.1) = false := by rfl)
    (hs : swapsWith (.Call (.Attribute (.Name x xp) "append" apos) [e] [] cpos) none pos.line X.env = pure false := by rfl) :
    DS X T W ow ow ob (.Expr (.Call (.Attribute (.Name x xp) "append" apos) [e] [] cpos) pos) (sApp i f) :=
  ps_imp (ps_expr (pe_bm PySem.F.plainAttrs_list PySem.F.slot_list_append PySem.F.type_list_append mt_append (pe_var hN hv hd hcd) (pa_cons he pa_nil hst) hbase hfew hline hst hplain) hs) fun D σ H q => by
    obtain ⟨B, B0, ρ, S, rs, w⟩ := q
    unfold sApp at w
    split at w
    · rename_i l hl
      obtain ⟨p, vs, h1, h2, h3, h4⟩ := own_at rs hiw hl
      refine ⟨_, h1, .inl ⟨rfl, vs, .inl (.inl h3)⟩, ?_⟩
      refine Wants.part rs w fun v d H1 w1 rs1 e1 r => ?_
      split at w1
      · rename_i hlen
        refine ⟨p, vs, v, rfl, rfl, e1 _ _ h3, ?_, ?_⟩
        · rw [h4.length]
          exact Nat.lt_trans hlen (by decide)
        · refine Wants.go w1 (rs1.chg hiw hl h1 h2 ((h4.mono (hide_mono e1)).append (.one r))) ?_
          rw [hide_upd h2]
          exact Ex.refl _
      · exact w1.elim
    · exact w.elim
theorem ds_ext {i : Nat} {x : Str} {apos cpos xp : Pos} (he : DE X T W ow e f) (hiw : i ∈ ow := by decide) (hN : X.N[i]? = some x := by rfl) (hv : Vis X.env.scope x := by first | exact Or.inl rfl | exact Or.inr (Or.inl rfl) | exact Or.inr (Or.inr rfl)) (hd : (x == ("__debug__" : Str)) = false := by decide)
    (hcd : (x == ("__classdict__" : Str)) = false := by decide) (hbase : attributeBase (.Name x xp) "extend" X.env (eval (.Name x xp) X.env) = eval (.Name x xp) X.env := by rfl)
    (hfew : ((backTo cpos (starEach [e] X.env)).all (fun x => !x.1) && (backToKw cpos (keywordEach [] X.env)).all (fun x => x.1.isSome)
      && decide ([e].length + ([] : List Keyword).length + (if ([] : List Keyword).isEmpty then 0 else 1) < 30)) = true := by rfl)
    (hline : (apos.endLine == cpos.line) = true := by rfl) (hst : starEach [e] X.env = (false, eval e X.env) :: starEach [] X.env := by rfl) (hplain : (backTo cpos (starEach [] X.env)).any (·.1) = false := by rfl)
    (hs : swapsWith (.Call (.Attribute (.Name x xp) "extend" apos) [e] [] cpos) none pos.line X.env = pure false := by rfl) :
    DS X T W ow ow ob (.Expr (.Call (.Attribute (.Name x xp) "extend" apos) [e] [] cpos) pos) (sExt i f) :=
  ps_imp (ps_expr (pe_bm PySem.F.plainAttrs_list PySem.F.slot_list_extend PySem.F.type_list_extend mt_extend (pe_var hN hv hd hcd) (pa_cons he pa_nil hst) hbase hfew hline hst hplain) hs) fun D σ H q => by
    obtain ⟨B, B0, ρ, S, rs, w⟩ := q
    unfold sExt at w
    split at w
    · rename_i l hl
      obtain ⟨p, vs, h1, h2, h3, h4⟩ := own_at rs hiw hl
      refine ⟨_, h1, .inl ⟨rfl, vs, .inl (.inl h3)⟩, ?_⟩
      refine Wants.part rs w fun v d H1 w1 rs1 e1 r => ?_
      cases r with
      | @lst q ws m hs2 rs2 =>
        have w2 : Wants X.K T W B B0 ow ob H1 S D (if l.length + m.length ≤ 10000000 then .nx (ρ.set i (some (.lst (l ++ m)))) else .stuck) := w1
        by_cases hlen : l.length + m.length ≤ 10000000
        · rw [if_pos hlen] at w2
          refine ⟨p, q, vs, ws, rfl, rfl, e1 _ _ h3, hide_ex _ _ hs2, ?_, ?_⟩
          · rw [h4.length, rs2.length]
            exact Nat.le_trans hlen (by decide)
          · refine Wants.go w2 (rs1.chg hiw hl h1 h2 ((h4.mono (hide_mono e1)).append rs2)) ?_
            rw [hide_upd h2]
            exact Ex.refl _
        · rw [if_neg hlen] at w2
          exact w2.elim
      | _ => exact w1.elim
    · exact w.elim
/-- x[i] = e -/
theorem ds_setI {i : Nat} {x : Str} {ei : Expr} {fi : DEnv → Res Dat} {xp sp : Pos} (he : DE X T W ow e f) (hei : DE X T W ow ei fi) (hiw : i ∈ ow := by decide) (hN : X.N[i]? = some x := by rfl) (hv : Vis X.env.scope x := by first | exact Or.inl rfl | exact Or.inr (Or.inl rfl) | exact Or.inr (Or.inr rfl)) (hd : (x == ("__debug__" : Str)) = false := by decide)
    (hcd : (x == ("__classdict__" : Str)) = false := by decide) (hsw : swapsWithSole [.Subscript (.Name x xp) ei sp] e pos.line X.env = pure false := by rfl) (hw : swappedStores [.Subscript (.Name x xp) ei sp] e X.env = pure none := by rfl) (hae : (assignEach [.Subscript (.Name x xp) ei sp] X.env).map (·.2) = [assign (.Subscript (.Name x xp) ei sp) X.env] := by rfl)
    (hks : ∀ v, assign (.Subscript (.Name x xp) ei sp) X.env v = (do
      let ov ← holding [v] (eval (.Name x xp) X.env)
      let iv ← holding [v, ov] (eval ei X.env)
      standAt sp
      holding [v, ov, iv] (setItem ov iv v)
      release [v, ov, iv] []) := by intro _; rfl) :
    DS X T W ow ow ob (.Assign [.Subscript (.Name x xp) ei sp] e pos) (sSetI i fi f) :=
  ps_imp (ps_asg he (pg_sub (pe_var hN hv hd hcd) hei set_list hks) hsw hw hae) fun D σ H q => by
    obtain ⟨B, B0, ρ, S, rs, w⟩ := q
    unfold sSetI at w
    refine Wants.part rs w fun v d H1 w1 rs1 e1 r => ?_
    split at w1
    · rename_i l hl
      obtain ⟨p, vs, h1, h2, h3, h4⟩ := own_at rs1 hiw hl
      refine ⟨_, h1, ?_⟩
      refine Wants.part rs1 w1 fun v2 d2 H2 w2 rs2 e2 r2 => ?_
      cases r2 with
      | int n =>
        have w3 : Wants X.K T W B B0 ow ob H2 S D (match ixN l.length n with
          | some j => .nx (ρ.set i (some (.lst (l.set j d))))
          | none => .stuck) := w2
        cases q : ixN l.length n with
        | none =>
          rw [q] at w3
          exact w3.elim
        | some j =>
          rw [q] at w3
          refine ⟨p, vs, n, j, rfl, rfl, e2 _ _ h3, by rw [h4.length]; exact q, ?_⟩
          refine Wants.go w3 (rs2.chg hiw hl h1 h2 (.set (r.mono (hide_mono e2)) j (h4.mono (hide_mono e2)))) ?_
          rw [hide_upd h2]
          exact Ex.refl _
      | _ => exact w2.elim
    · exact w1.elim
/-! ### loops -/
theorem ds_for {tg iter : Expr} {body : List Stmt} {gi : DEnv → Res (List Dat)} {asg : Dat → DEnv → Option DEnv} {is : List Nat} (hp : PassesOwn (model X.prog X.w) X.A X.env X.xe) (hc : X.calm = true) (hi : DI X T W ow tg iter gi) (hg : DG X T ow is tg asg) (hd : ∀ j ∈ ow, j ∉ is) (hsame : ∀ d ρ ρ' j, asg d ρ = some ρ' → j ∉ is → ρ'[j]? = ρ[j]?)
    (hb : DSs X T W ow ow ow body F) (hs : ∀ x, foldedSetIterable iter X.env x = pure x := by intro _; rfl) : DS X T W ow ow ob (.For tg iter body [] pos) (sFor gi asg F) := ps_imp (ps_for hp hc hi hg hb hs) fun D σ H q => by
  obtain ⟨B, B0, ρ, S, rs, w⟩ := q
  refine ⟨ρ, S, rs.re, ?_⟩
  unfold sFor rBind at w
  cases q : gi ρ with
  | exc c =>
    rw [q] at w
    intro H' e
    have r2 := (rs.mono e).bare
    exact w σ H' r2.1 ((hide_mono e).trans r2.2)
  | stuck =>
    rw [q] at w
    exact w.elim
  | ok items =>
    rw [q] at w
    intro J H1 e1 src
    obtain ⟨G, Y, walk, gok, yok⟩ := src.ex
    have w0 : Wants X.K T W B B0 ow ob H S D (forL asg F items ρ) := w
    refine for_it walk (fun i σ' H' => ∃ ρ' S', RS X.K T B B0 ow σ' ρ' H' S' ∧ Ex (hide H1 S) (hide H' S') ∧ Wants X.K T W B B0 ow ob H' S' D (forL asg F (items.drop i) ρ')) ?_ ?_ ?_ ?_
    · exact ⟨ρ, S, rs.mono e1, Ex.refl _, w0.mono (hide_mono e1)⟩
    · rintro i σ' H' _ ⟨ρ', S', _, ex, _⟩
      exact gok H' S' ex
    · rintro i x σ' H2 H3 hlt ⟨ρ', S', rs', ex, w'⟩ y
      obtain ⟨d, hdd⟩ : ∃ d, items[i]? = some d := ⟨items[i], by simp [hlt]⟩
      obtain ⟨ex3, rx⟩ := yok i d x H2 H3 S' hdd ex rs'.re.mt y
      have hdrop : items.drop i = d :: items.drop (i + 1) := by
        obtain ⟨h1, h2⟩ := List.getElem?_eq_some_iff.mp hdd
        rw [List.drop_eq_getElem_cons h1, h2]
      rw [hdrop] at w'
      unfold forL at w'
      cases qa : asg d ρ' with
      | none =>
        rw [qa] at w'
        exact w'.elim
      | some ρ1 =>
        rw [qa] at w'
        have rs3 := rs'.mono ex3
        refine ⟨ρ', S', d, rs3.re, rx, ρ1, qa, fun σ4 re4 hsm hl => ?_⟩
        have rs4 : RS X.K T B B0 ow σ4 ρ1 H3 S' := ⟨re4, rs3.ex, rs3.sub, rs3.bd, fun j d' p hj h1 h2 => by
          rw [hsame d ρ' ρ1 j qa (hd j hj)] at h1
          rw [hsm j (hd j hj)] at h2
          exact rs3.onew j d' p hj h1 h2, rs3.new⟩
        refine ⟨B, B0, ρ1, S', rs4, ?_⟩
        have w4 := w'.mono (hide_mono ex3)
        have w4 : Wants X.K T W B B0 ow ob H3 S' D (match F ρ1 with
          | .nx ρ2 => forL asg F (items.drop (i + 1)) ρ2
          | .ct ρ2 => forL asg F (items.drop (i + 1)) ρ2
          | .bk ρ2 => .nx ρ2
          | f => f) := w4
        have ex' := ex.trans (hide_mono ex3)
        cases qF : F ρ1 with
        | nx ρ2 =>
          rw [qF] at w4
          exact fun σ5 H5 S5 rs5 e5 => ⟨ρ2, S5, rs5, ex'.trans e5, w4.mono e5⟩
        | ct ρ2 =>
          rw [qF] at w4
          exact fun σ5 H5 S5 rs5 e5 => ⟨ρ2, S5, rs5, ex'.trans e5, w4.mono e5⟩
        | bk ρ2 =>
          rw [qF] at w4
          exact fun σ5 H5 S5 rs5 e5 => w4 σ5 H5 S5 rs5 e5
        | rt d =>
          rw [qF] at w4
          exact w4
        | ex c ρ2 =>
          rw [qF] at w4
          exact w4
        | stuck =>
          rw [qF] at w4
          exact w4
    · rintro σ' H' ⟨ρ', S', rs', ex, w'⟩
      rw [List.drop_length] at w'
      exact w' σ' H' S' rs' (Ex.refl _)
theorem ds_while {t : DEnv → Res Bool} {body : List Stmt} (n : Nat) (hp : PassesOwn (model X.prog X.w) X.A X.env X.xe) (hc : DT X T W ow c t) (hb : DSs X T W ow ow ow body F) : DS X T W ow ow ob (.While c body [] pos) (sWhile n t F) := ps_imp (ps_while hp hc hb) fun D σ H q => by
  obtain ⟨B, B0, ρ, S, rs, w⟩ := q
  refine ⟨fun m σ' H' => ∃ ρ' S', RS X.K T B B0 ow σ' ρ' H' S' ∧ Wants X.K T W B B0 ow ob H' S' D (whileL t F m ρ'), ⟨n, ρ, S, rs, w⟩, ?_⟩
  rintro m σ' H' ⟨ρ', S', rs', w'⟩
  cases m with
  | zero => exact w'.elim
  | succ m =>
    unfold whileL at w'
    refine Wants.partB rs' w' fun k H1 w1 rs1 e1 => ?_
    cases k with
    | false => exact w1 σ' H1 S' rs1 (Ex.refl _)
    | true =>
      have w2 : Wants X.K T W B B0 ow ob H1 S' D (match F ρ' with
          | .nx ρ2 => whileL t F m ρ2
          | .ct ρ2 => whileL t F m ρ2
          | .bk ρ2 => .nx ρ2
          | f => f) := w1
      refine ⟨fun σ2 H2 => ∃ ρ2 S2, RS X.K T B B0 ow σ2 ρ2 H2 S2 ∧ Wants X.K T W B B0 ow ob H2 S2 D (whileL t F m ρ2), fun σ2 H2 q => ⟨m, Nat.lt_succ_self m, q⟩, ?_⟩
      refine ⟨B, B0, ρ', S', rs1, ?_⟩
      cases qF : F ρ' with
      | nx ρ2 =>
        rw [qF] at w2
        exact fun σ5 H5 S5 rs5 e5 => ⟨ρ2, S5, rs5, w2.mono e5⟩
      | ct ρ2 =>
        rw [qF] at w2
        exact fun σ5 H5 S5 rs5 e5 => ⟨ρ2, S5, rs5, w2.mono e5⟩
      | bk ρ2 =>
        rw [qF] at w2
        exact fun σ5 H5 S5 rs5 e5 => w2 σ5 H5 S5 rs5 e5
      | rt d =>
        rw [qF] at w2
        exact w2
      | ex c ρ2 =>
        rw [qF] at w2
        exact w2
      | stuck =>
        rw [qF] at w2
        exact w2
/-! ### exceptions -/
/-- a class of the program's own errors that is raised with a text -/
structure ExD (K : PySem.W.Frag) (T : CT) (mg : Str → Option Value) (c : Nat) (x : Str) : Prop where
  ex : ∃ C : Addr, T.exc c = .ref C ∧ mg x = some (.ref C) ∧ PySem.W.keepIn K (.ref C) = true ∧ PySem.W.excIn K C [.type "ValueError", .type "Exception", .type "BaseException", .type "object"] "ValueError.__new__" = true ∧
    PySem.W.subIn K (.ref C) (.type "BaseException") = some true ∧ PySem.W.typeIn K (.ref C) = some (.type "type")
theorem ds_raise {cn : Nat} {x m : Str} {j : Nat} {p p3 rpos : Pos} (d : ExD X.K T X.mg cn x) (hc : X.calm = true) (tk : Takes X W) (hg : Gl X x := by rfl) (hdb : (x == ("__debug__" : Str)) = false := by decide) :
    DS X T W ow ow' ob (.Raise (some (.Call (.Name x p) [.Constant (.str m) j p3] [] pos)) none rpos) (sRaise cn) := by
  obtain ⟨C, e1, e2, e3, e4, e5, e6⟩ := d.ex
  refine ps_imp (ps_raise hc tk (pmk_own PySem.F.excBase_ValueError e4 e2 e3 (raises_own e5 e6) hg hdb)) fun D σ H q => ?_
  obtain ⟨B, B0, ρ, S, rs, w⟩ := q
  have r2 := rs.bare
  have := w σ H r2.1 r2.2
  rw [e1] at this
  exact this
/-- try: body except x: suite -/
theorem ds_try {x : Str} {cv : Value} {body suite : List Stmt} {b₀ : Stmt} {np pos' : Pos} {m : Nat → Bool} (hs : X.stack = X.env :: X.outer) (hf : X.env.frame = some X.env.locals) (hc : Names X x cv) (tk : Takes X W) (hm : ∀ c, PySem.W.exmOne X.K (T.exc c) cv = some (m c))
    (hb : ∀ (W : WX) (pn : List (Addr × Obj)) (xe : Value → Shared → Prop), Takes (X.tr pn xe) W → PassesOwn (model X.prog X.w) X.A X.env xe → DSs (X.tr pn xe) T W ow ow' ob body F)
    (hsu : ∀ (a : Addr) (oe : Obj) (cls : Value) (d : Option Addr) (pn : List (Addr × Obj)), Zc cls d oe → (∃ vs, oe.data = .fields vs) → DSs (X.suite a ((a, oe) :: pn)) T wNo [] ow' ob (b₀ :: suite) G) :
    DS X T W ow ow' ob (.Try body [.ExceptHandler (some (.Name x np)) none (b₀ :: suite) pos'] [] [] pos) (sTry m F G) :=
  ps_imp (ps_try_only (tb := fun W => tDS X.K T W ow ow' ob F) (ts := fun _ _ _ => tDS X.K T wNo [] ow' ob G) hs hf hc tk hb hsu) fun D σ H q => by
    obtain ⟨B, B0, ρ, S, rs, w⟩ := q
    refine ⟨B, B0, ρ, S, rs, ?_⟩
    unfold sTry at w
    cases qF : F ρ with
    | ex c ρ' =>
      rw [qF] at w
      intro σ' H' rs' e'
      have w : Wants X.K T W B B0 ow' ob H S D (if m c = true then (match G ρ' with
        | .ex _ _ => .stuck
        | f => f) else .ex c ρ') := w
      refine ⟨m c, hm c, fun hb' a _ => ?_, fun hb' => ?_⟩
      · rw [if_pos hb'] at w
        refine ⟨B, B0, ρ', B0, rs', ?_⟩
        cases qG : G ρ' with
        | ex c' ρ2 =>
          rw [qG] at w
          exact w.elim
        | nx ρ2 =>
          rw [qG] at w
          exact Wants.mono (f := .nx ρ2) w e'
        | bk ρ2 =>
          rw [qG] at w
          exact Wants.mono (f := .bk ρ2) w e'
        | ct ρ2 =>
          rw [qG] at w
          exact Wants.mono (f := .ct ρ2) w e'
        | rt d =>
          rw [qG] at w
          exact w
        | stuck =>
          rw [qG] at w
          exact w
      · rw [if_neg (by rw [hb']; decide)] at w
        exact w σ' H' rs' e'
    | nx ρ2 =>
      rw [qF] at w
      exact w
    | bk ρ2 =>
      rw [qF] at w
      exact w
    | ct ρ2 =>
      rw [qF] at w
      exact w
    | rt d =>
      rw [qF] at w
      exact w
    | stuck =>
      rw [qF] at w
      exact w
end

/-! ### a def by its body -/
def startD (m : Nat) (ds : List Dat) : DEnv := ds.map some ++ List.replicate (m - ds.length) none
def endD : DFlow → Res Dat
  | .nx _ => .ok .non
  | .rt d => .ok d
  | .ex c _ => .exc c
  | _ => .stuck
def runD (m : Nat) (F : DEnv → DFlow) (ds : List Dat) : Res Dat := endD (F (startD m ds))
theorem re_start {K : PySem.W.Frag} {T : CT} {H : Hp} {S : List Addr} {N : List Str} {vs : List V} {ds : List Dat} (m : Hid H S) (r : Reps K T (hide H S) vs ds) : RE K T [] (start N vs) (startD N.length ds) H S := by
  have hl := r.length
  refine ⟨m, ?_, fun i d _ hd => ?_, fun i d h => (by cases h), fun i j d e p h => (by cases h)⟩
  · unfold L2.start startD
    simp [hl]
  · unfold startD at hd
    unfold L2.start
    by_cases hi : i < ds.length
    · rw [List.getElem?_append_left (by simpa using hi), List.getElem?_map] at hd
      rw [List.getElem?_append_left (by rw [List.length_map, hl]; exact hi), List.getElem?_map]
      cases q : ds[i]? with
      | none =>
        rw [q] at hd
        cases hd
      | some d' =>
        rw [q] at hd
        cases hd
        obtain ⟨v, h1, h2⟩ := r.get q
        exact ⟨v, by rw [h1]; rfl, h2⟩
    · rw [List.getElem?_append_right (by simpa using hi), List.getElem?_replicate] at hd
      split at hd <;> cases hd
theorem fn_D {P : Program} {w : World} {K : PySem.W.Frag} {mg : Str → Option Value} {base : Heap} {T : CT} {x qual : Str} {st : Stmt} {f : Addr} {fd : FuncData} {N ps : List Str} {k n : Nat} {F : DEnv → DFlow} {ow' : List Nat} (Fu : Fun K x qual st f fd) (Sc : FnScope N ps (defScope st)) (hn : ps.length = n)
    (hb : ∀ (cdv : Value) (A : Around) (outer : List Env) (s : Shared) (H : Hp) (E : XK), Room k (A.deeper (envOfC qual (defScope st) s.heap.objs.size f cdv)) →
      DSs (cxOf (L2.CX P w) P w K mg base N qual (defScope st) f cdv A outer s H E) T (fun cls d _ H => E cls d H) [] ow' [] (defBody st) F) :
    FnOk P w K mg base (L2.CX P w) (k + 1) f fd ps (spD K T n (runD N.length F)) := by
  refine Fu.okX Sc (fun vs H Q E h => h.1.trans hn.symm) (fun cdv A outer s H vs Q E hr h => ?_)
  obtain ⟨hlen, S, ds, m, r, w⟩ := h
  refine ⟨_, hb cdv A outer s H E hr, ?_⟩
  refine ⟨H, S, startD N.length ds, S, ⟨re_start m r, Ex.refl H, fun _ h => h, fun p hp => ?_, fun i d p h => (by cases h), fun p hp => .inl hp⟩, ?_⟩
  · obtain ⟨o, h1, _⟩ := m p hp
    rw [h1]
    intro z
    cases z
  · unfold runD at w
    cases q : F (startD N.length ds) with
    | nx ρ =>
      rw [q] at w
      exact fun σ' H' S' rs e => w .non H' rs.ex .non
    | rt d =>
      rw [q] at w
      exact fun v H' e r => w v H' e r
    | ex c ρ =>
      rw [q] at w
      exact fun σ' H' rs e => w H' rs.ex
    | bk ρ =>
      rw [q] at w
      exact w.elim
    | ct ρ =>
      rw [q] at w
      exact w.elim
    | stuck =>
      rw [q] at w
      exact w.elim
end Dl
/-! The D layer, part 8: owned lists read, slices with steps, dicts of the module, objects made. -/
namespace Dl
open PySem PySem.Spec PyProof.Rows L2 HT

/-! ### an owned list is read: the result must not hold it -/
def chk (d : Dat) : Res Dat := if flat d = true then .ok d else .stuck
def vU (f : DEnv → Res Dat) : DEnv → Res Dat := fun ρ => (f ρ).bind chk
section
variable {K : PySem.W.Frag} {T : CT} {W : WX} {H : Hp} {ow ow' : List Nat} {σ : Sg} {ρ : DEnv} {S : List Addr}
/-- fewer slots are owned, the others' lists shown -/
theorem RE.less (r : RE K T ow σ ρ H S) (h : ∀ i ∈ ow', i ∈ ow) : ∃ S', RE K T ow' σ ρ H S' ∧ ∀ p ∈ S', p ∈ S := by
  refine ⟨S.filter fun p => decide (p ∈ ownA ow' σ ρ ∨ p ∉ ownA ow σ ρ), ?_, fun p hp => (List.mem_filter.mp hp).1⟩
  have sub0 : ∀ p ∈ S.filter (fun p => decide (p ∈ ownA ow' σ ρ ∨ p ∉ ownA ow σ ρ)), p ∈ S := fun p hp => (List.mem_filter.mp hp).1
  have sub := hide_sub (H := H) sub0
  refine ⟨fun p hp => r.mt p (sub0 p hp), r.len, fun i d hi hd => ?_, fun i d hi hd => ?_, fun i j d e p hi hj => r.inj i j d e p (h i hi) (h j hj)⟩
  · by_cases z : i ∈ ow
    · obtain ⟨q, u, e1, e5, e3, e4⟩ := r.own i d z hd
      refine ⟨_, e1, ?_⟩
      refine OwnR.rep (hide_get e4 fun hq => ?_) (e5.mono sub)
      rcases of_decide_eq_true (List.mem_filter.mp hq).2 with y | y
      · obtain ⟨j, d', hj, h1, h2⟩ := mem_ownA.mp y
        have := r.inj i j d d' q z (h j hj) hd h1 e1 h2
        subst this
        exact hi hj
      · exact y (mem_ownA.mpr ⟨i, d, z, hd, e1⟩)
    · obtain ⟨v, h1, h2⟩ := r.fro i d z hd
      exact ⟨v, h1, h2.mono sub⟩
  · obtain ⟨q, u, e1, e5, e3, e4⟩ := r.own i d (h i hi) hd
    exact ⟨q, u, e1, e5.mono sub, List.mem_filter.mpr ⟨e3, decide_eq_true (.inl (mem_ownA.mpr ⟨i, d, hi, hd, e1⟩))⟩, e4⟩
end
section
variable {X : Cx} {T : CT} {W : WX} {ow ow' : List Nat} {e a b c : Expr} {pos p2 : Pos} {f fa : DEnv → Res Dat}
theorem de_un (h : DE X T W ow' e f) (hs : ∀ i ∈ ow', i ∈ ow := by decide) : DE X T W ow e (vU f) := pe_imp h fun σ H Q q => by
  obtain ⟨ρ, S, re, w⟩ := q
  obtain ⟨S', re', sub⟩ := re.less hs
  refine ⟨ρ, S', re', ?_⟩
  unfold vU at w
  cases q : f ρ with
  | ok d =>
    rw [q] at w
    intro v H' e r
    have w : Want X.K T W σ H S (chk d) Q := w
    unfold chk at w
    by_cases z : flat d = true
    · rw [if_pos z] at w
      exact w v H' e ((r.mono hide_ex).bare (re.mt.mono e) z)
    · rw [if_neg z] at w
      exact w.elim
  | exc c =>
    rw [q] at w
    exact w
  | stuck =>
    rw [q] at w
    exact w.elim
theorem dt_un {t : DEnv → Res Bool} (h : DT X T W ow' e t) (hs : ∀ i ∈ ow', i ∈ ow := by decide) : DT X T W ow e t := pt_imp h fun σ H Q q => by
  obtain ⟨ρ, S, re, w⟩ := q
  obtain ⟨S', re', sub⟩ := re.less hs
  exact ⟨ρ, S', re', w⟩
end

/-! ### slices with steps -/
def pickD {α : Type} (l : List α) (lo hi : Option Int) (st : Int) : List α :=
  (List.range (Builtin.Slice.slicePlaces (Builtin.Slice.sliceAdjust lo hi st l.length).1 (Builtin.Slice.sliceAdjust lo hi st l.length).2 st)).filterMap fun (m : Nat) => l[((Builtin.Slice.sliceAdjust lo hi st l.length).1 + (m : Int) * st).toNat]?
section
variable {prog : Program} {w : World} {A : Around} {E : Value → Shared → Prop} {s : Shared}
theorem sliceApplied_step {sl : Addr} {vl vu : Value} {lo hi : Option Int} {n : Nat} {st : Int} {tk : Tok} {Q : Int × Int × Nat → Shared → Prop} (hs : s.heap.IsSliceOf sl vl vu (.int st tk)) (pl : IsPart vl lo) (pu : IsPart vu hi) (h0 : st ≠ 0)
    (h : Q ((Builtin.Slice.sliceAdjust lo hi st n).1, st, Builtin.Slice.slicePlaces (Builtin.Slice.sliceAdjust lo hi st n).1 (Builtin.Slice.sliceAdjust lo hi st n).2 st) s) : wpAny (model prog w) A (Builtin.Slice.sliceApplied (.ref sl) (pure (n : Int))) Q E s := by
  obtain ⟨os, hos, hcs, hds⟩ := id hs
  unfold Builtin.Slice.sliceApplied Builtin.Slice.sliceFields
  refine wpAny_bind (wpAny_bind (wpAny_field hos hds (x := vl) rfl (wpAny_bind (wpAny_field hos hds (x := vu) rfl (wpAny_bind (wpAny_field hos hds (x := .int st tk) rfl (wpAny_pure ?_)))))))
  refine wpAny_bind (slicePart_int ?_)
  show wpAny _ _ (if (st == 0) = true then _ else _) _ _ s
  rw [if_neg (by simpa using h0)]
  exact wpAny_bind (slicePart_ pl (wpAny_bind (slicePart_ pu (wpAny_bind (wpAny_pure (wpAny_pure h))))))
theorem getItem_tuple_step {t sl : Addr} {items : Array Value} {vl vu : Value} {lo hi : Option Int} {st : Int} {tk : Tok} {Q : Value → Shared → Prop} (ht : IsTup s.heap t items) (hs : s.heap.IsSliceOf sl vl vu (.int st tk)) (pl : IsPart vl lo) (pu : IsPart vu hi) (h0 : st ≠ 0) (h1 : st ≠ 1)
    (h : Q (.ref s.heap.objs.size) { s with heap := s.heap.push { cls := .type "tuple", data := .seq (pickD items.toList lo hi st).toArray } })
    (hsz : (pickD items.toList lo hi st).length ≤ sizeLine) : wpAny (model prog w) A (getItem (.ref t) (.ref sl)) Q E s := by
  have htake : sizeOk (.seq (pickD items.toList lo hi st).toArray) := by
    show (pickD items.toList lo hi st).toArray.size ≤ sizeLine
    rw [List.size_toArray]
    exact hsz
  obtain ⟨os, hos, hcs, hds⟩ := id hs
  have hTs : s.TypeIs (.ref sl) "slice" := ⟨os, hos, hcs⟩
  unfold getItem
  try with_reducible refine wpAny_holding ?_
  first | refine wpAny_bind (wpAny_pure ?_) | skip
  refine wpAny_bind (wpAny_sequenceKey ht.typeIs (by decide) ?_)
  refine wpAny_bind (wpAny_callSpecial?_slot (name := Str.ofString "__getitem__") ht.typeIs PyProof.Rows.slot_tuple_getitem
    (wpAny_call_entry PyProof.Rows.slot_tuple_getitem ht.typeIs entry_tuple_getitem ?_ (args_tuple_getitem _ _)))
  show wpAny _ _ (Builtin.Tuple.tupleItemsOf (.ref t) >>= _) _ _ s
  refine wpAny_bind (tupleItemsOf_ ht ?_)
  refine wpAny_bind (wpAny_typeOf hTs ?_)
  rw [if_pos (by decide)]
  refine wpAny_bind (sliceApplied_step hs pl pu h0 ?_)
  have hno : ¬ (((Builtin.Slice.sliceAdjust lo hi st items.size).1 == 0 && st == 1 && Builtin.Slice.slicePlaces (Builtin.Slice.sliceAdjust lo hi st items.size).1 (Builtin.Slice.sliceAdjust lo hi st items.size).2 st == items.size) = true) := by
    intro q
    rw [Bool.and_eq_true, Bool.and_eq_true] at q
    exact h1 (eq_of_beq q.1.2)
  show wpAny _ _ (if ((Builtin.Slice.sliceAdjust lo hi st items.size).1 == 0 && st == 1 && Builtin.Slice.slicePlaces (Builtin.Slice.sliceAdjust lo hi st items.size).1 (Builtin.Slice.sliceAdjust lo hi st items.size).2 st == items.size) = true then _ else _) _ _ s
  rw [if_neg hno]
  have e : ((List.range (Builtin.Slice.slicePlaces (Builtin.Slice.sliceAdjust lo hi st items.size).1 (Builtin.Slice.sliceAdjust lo hi st items.size).2 st)).filterMap fun (m : Nat) => items[((Builtin.Slice.sliceAdjust lo hi st items.size).1 + (m : Int) * st).toNat]?).toArray = (pickD items.toList lo hi st).toArray := by
    unfold pickD
    rw [Array.length_toList]
    simp only [Array.getElem?_toList]
  rw [e]
  first
    | exact wpAny_bind (m := Builtin.Tuple.tupleExact _) (wpAny_newObj_type (wpAny_pure ⟨_, rfl, wpAny_pure h⟩) htake)
    | exact wpAny_bind (m := Builtin.Tuple.tupleExact _) (wpAny_newObj_type (wpAny_bind (wpAny_pure (wpAny_pure ⟨_, rfl, wpAny_pure h⟩))) htake)
    | exact wpAny_bind (wpAny_bind (m := Builtin.Tuple.tupleExact _) (wpAny_newObj_type (wpAny_pure (wpAny_pure ⟨_, rfl, wpAny_pure h⟩)) htake))
    | exact wpAny_bind (wpAny_bind (m := Builtin.Tuple.tupleExact _) (wpAny_newObj_type (wpAny_pure ⟨_, rfl, wpAny_pure h⟩) htake))
end
theorem vals_filterMap {xs : List V} {us : List Value} (r : Vals xs us) (f : Nat → Nat) : ∀ (l : List Nat), Vals (l.filterMap fun m => xs[f m]?) (l.filterMap fun m => us[f m]?)
  | [] => .nil
  | m :: l => by
    rw [List.filterMap_cons, List.filterMap_cons]
    cases q : xs[f m]? with
    | none =>
      rw [r.none_of q]
      exact vals_filterMap r f l
    | some x =>
      obtain ⟨u, h1, h2⟩ := r.get q
      rw [h1]
      exact .cons h2 (vals_filterMap r f l)
theorem vals_pick {xs : List V} {us : List Value} (r : Vals xs us) (lo hi : Option Int) (st : Int) : Vals (pickD xs lo hi st) (pickD us lo hi st) := by
  unfold pickD
  rw [← r.length]
  exact vals_filterMap r _ _
section
variable {K : PySem.W.Frag} {T : CT} {H : Hp}
theorem Reps.filterMap {xs : List V} {us : List Dat} (r : Reps K T H xs us) (f : Nat → Nat) : ∀ (l : List Nat), Reps K T H (l.filterMap fun m => xs[f m]?) (l.filterMap fun m => us[f m]?)
  | [] => .nil
  | m :: l => by
    rw [List.filterMap_cons, List.filterMap_cons]
    cases q : us[f m]? with
    | none =>
      have : xs[f m]? = none := by
        have h1 := List.getElem?_eq_none_iff.mp q
        exact List.getElem?_eq_none_iff.mpr (by rw [r.length]; exact h1)
      rw [this]
      exact Reps.filterMap r f l
    | some d =>
      obtain ⟨u, h1, h2⟩ := r.get q
      rw [h1]
      exact .cons h2 (Reps.filterMap r f l)
theorem Reps.pick {xs : List V} {us : List Dat} (r : Reps K T H xs us) (lo hi : Option Int) (st : Int) : Reps K T H (pickD xs lo hi st) (pickD us lo hi st) := by
  unfold pickD
  rw [r.length]
  exact r.filterMap _ _
end
def tStep (K : PySem.W.Frag) (ta : TE) (tl th ts : TO) : TE := fun σ H Q => ta σ H fun x H1 => tl σ H1 fun l H2 => th σ H2 fun h H3 => ts σ H3 fun s H4 => ∃ a xs st, x = .ref a ∧ s = some st ∧ SqT K H4 a xs ∧ st ≠ 0 ∧ st ≠ 1 ∧ (pickD xs l h st).length ≤ sizeLine ∧ nT Q H4 (pickD xs l h st)
section
variable {X : Cx} {T : CT} {W : WX} {ow : List Nat} {e a b c : Expr} {pos p2 : Pos} {f fa : DEnv → Res Dat} {lo hi : Option Expr} {est : Expr} {fl fh fs : DEnv → Res (Option Int)}
theorem pe_step {ta : TE} {tl th ts : TO} (he : PE X e ta) (hl : PO X lo tl) (hh : PO X hi th) (hs : PO X (some est) ts) : PE X (.Subscript e (.Slice lo hi (some est) p2) pos) (tStep X.K ta tl th ts) := by
  refine ⟨fun pins s σ H Q I h => ?_⟩
  refine Subscript_ (thn (he.run pins s σ H _ I h) fun v s1 ⟨x, H1, I1, r1, q1⟩ => ?_)
  refine wpAny_Slice (thn (hl.run pins s1 σ H1 _ I1 q1) fun vl s2 ⟨l, H2, I2, pl, q2⟩ => thn (hh.run pins s2 σ H2 _ I2 q2) fun vu s3 ⟨u, H3, I3, pu, q3⟩ => thn (hs.run pins s3 σ H3 _ I3 q3) fun vs s4 ⟨o, H4, I4, ps, q4⟩ => ?_)
  obtain ⟨a, xs, st, rfl, rfl, hx, h0, h1, hlen, q⟩ := q4
  cases r1
  cases ps with
  | int _ tk =>
    have I5 : Inv X pins σ H4 { s4 with heap := s4.heap.push { cls := .type "slice", data := .fields #[vl, vu, .int st tk] } } := I4.kept (t' := s4.toks) fun b ob q => Heap.get?_push_of_some _ q
    obtain ⟨its, r, ht, hz⟩ := I5.tuple hx
    show wpAny (model X.prog X.w) X.A (subscriptTail e (.Slice lo hi (some est) p2) (.ref a) (.ref s4.heap.objs.size)) (EP X pins σ Q) X.xe { s4 with heap := s4.heap.push { cls := .type "slice", data := .fields #[vl, vu, .int st tk] } }
    have hpick := vals_pick r l u st
    refine tail_any (ops := [.ref a, .ref s4.heap.objs.size]) ht.typeIs (PyProof.Rows.slot_tuple_getitem.lookup) ?_ (by with_unfolding_all rfl)
    refine getItem_tuple_step ht (Heap.IsSliceOf.new _ vl vu (.int st tk)) pl pu h0 h1 ?_ (by rw [← hpick.length]; exact hlen)
    exact eTN I5 hpick hlen q
def stepK (l h s : Option Int) : Dat → Option Dat
  | .tup xs => match s with
    | some st => if st ≠ 0 ∧ st ≠ 1 ∧ (pickD xs l h st).length ≤ 10000000 then some (.tup (pickD xs l h st)) else none
    | none => none
  | _ => none
def vStep (fa : DEnv → Res Dat) (fl fh fs : DEnv → Res (Option Int)) : DEnv → Res Dat := fun ρ => (fa ρ).bind fun x => (fl ρ).bind fun l => (fh ρ).bind fun h => (fs ρ).bind fun s => ofO (stepK l h s x)
theorem de_step (ha : DE X T W ow e fa) (hl : DO X T W ow lo fl) (hh : DO X T W ow hi fh) (hs : DO X T W ow (some est) fs) : DE X T W ow (.Subscript e (.Slice lo hi (some est) p2) pos) (vStep fa fl fh fs) := pe_imp (pe_step ha hl hh hs) fun σ H Q h => by
  obtain ⟨ρ, S, re, w⟩ := h
  refine Want.part re w fun x dx H1 w1 re1 e1 rx => ?_
  refine Want.partO re1 w1 fun l H2 w2 re2 e2 => ?_
  refine Want.partO re2 w2 fun h H3 w3 re3 e3 => ?_
  refine Want.partO re3 w3 fun s H4 w4 re4 e4 => ?_
  have rx4 := ((rx.mono (hide_mono e2)).mono (hide_mono e3)).mono (hide_mono e4)
  cases rx4 with
  | @tup p vs ds hs rs =>
    cases s with
    | none => exact w4.elim
    | some st =>
      have w5 : Want X.K T W σ H4 S (ofO (if st ≠ 0 ∧ st ≠ 1 ∧ (pickD ds l h st).length ≤ 10000000 then some (.tup (pickD ds l h st)) else none)) Q := w4
      by_cases z : st ≠ 0 ∧ st ≠ 1 ∧ (pickD ds l h st).length ≤ 10000000
      · rw [if_pos z] at w5
        have rp := rs.pick l h st
        refine ⟨p, vs, st, rfl, rfl, ex_t hide_ex hs.sq, z.1, z.2.1, ?_, fun p2 o np t => w5 _ _ (Ex.new np) (rep_newT re4.mt np t rp)⟩
        rw [rp.length]
        exact Nat.le_trans z.2.2 (by decide)
      · rw [if_neg z] at w5
        exact w5.elim
  | _ => exact w4.elim

/-! ### a dict of the module with written texts as keys, read -/
structure GD (K : PySem.W.Frag) (T : CT) (w : World) (mg : Str → Option Value) (x : Str) (tb : List (Str × Dat)) : Prop where
  ex : ∃ d, mg x = some (.ref d) ∧ ∀ k e, tb.lookup k = some e → ∃ v, KDct K w d k v ∧ ∀ H, Rep K T H v e
def tabD (tb : List (Str × Dat)) : Dat → Option Dat
  | .str z => tb.lookup z
  | _ => none
theorem de_tab {x : Str} {tb : List (Str × Dat)} {xp : Pos} (g : GD X.K T X.w X.mg x tb) (hb : DE X T W ow b f) (hg : Gl X x := by rfl) (hd : (x == ("__debug__" : Str)) = false := by decide) (hs : PlainIx b := by exact fun _ _ => rfl) : DE X T W ow (.Subscript (.Name x xp) b pos) (v1 (tabD tb) f) := by
  obtain ⟨d, h1, h2⟩ := g.ex
  refine pe_imp (pe_ix ix_kdict (pe_glob (v := .ref d) hg h1 rfl hd) hb hs) fun σ H Q h => ?_
  obtain ⟨ρ, S, re, w⟩ := h
  refine Want.part re w fun x dx H1 w1 re1 e1 rx => ?_
  cases rx with
  | str z =>
    have w2 : Want X.K T W σ H1 S (ofO (tb.lookup z)) Q := w1
    cases q : tb.lookup z with
    | none =>
      rw [q] at w2
      exact w2.elim
    | some e =>
      rw [q] at w2
      obtain ⟨v, h3, h4⟩ := h2 z e q
      exact ⟨d, z, v, rfl, rfl, h3, w2 v H1 (Ex.refl H1) (h4 _)⟩
  | _ => exact w1.elim
end
end Dl
/-! The D layer, part 9: chains, small words, the law's end. -/
namespace Dl
open PySem PySem.Spec PyProof.Rows L2
theorem hu65 {A : Around} {k : Nat} (hr : Room k A) : A.units + 65 < cLine := by have := hr.un; omega
theorem hu64 {A : Around} {k : Nat} (hr : Room k A) : A.units + 64 < cLine := by have := hr.un; omega
section
variable {X : Cx} {T : CT} {W : WX} {ow : List Nat} {e a b c : Expr} {pos p2 : Pos} {fa fb fc : DEnv → Res Dat}
theorem de_chain {op op' : CmpOp} {r r' : R2} {g h : Dat → Dat → Option Dat} (ho : OpR X (compareOp op) r) (rd : R2D X.K T r g) (ho' : OpR X (compareOp op') r') (rd' : R2D X.K T r' h) (ha : DE X T W ow a fa) (hb : DE X T W ow b fb) (hc : DE X T W ow c fc)
    (hm : lastMarks [op, op'] [b, c] = false := by rfl) : DE X T W ow (.Compare a [op, op'] [b, c] pos) (vChain g h fa fb fc) := pe_imp (pe_chain ho ho' ha hb hc hm) fun _ _ _ q => chain_read rd rd' q
theorem dt_chain {op op' : CmpOp} {r r' : R2} {g h : Dat → Dat → Option Dat} (ho : OpR X (compareOp op) r) (rd : R2D X.K T r g) (ho' : OpR X (compareOp op') r') (rd' : R2D X.K T r' h) (ha : DE X T W ow a fa) (hb : DE X T W ow b fb) (hc : DE X T W ow c fc)
    (hm : lastMarks [op, op'] [b, c] = false := by rfl) : DT X T W ow (.Compare a [op, op'] [b, c] pos) (vTest (vChain g h fa fb fc)) := pt_imp (pt_chain ho ho' ha hb hc hm) fun σ H Q q => by
  obtain ⟨ρ, S, re, w⟩ := q
  refine chain_read rd rd' (Q := fun x H' => ∃ k, x = .bl k ∧ Q k H') ?_
  exact test_read ⟨ρ, S, re, w⟩
end
theorem FnD.mk' {P : Program} {w : World} {K : PySem.W.Frag} {mg : Str → Option Value} {base : Heap} {T : CT} {k n : Nat} {x qual : Str} {st : Stmt} {f : Addr} {fd : FuncData} {ps : List Str} {F : List Dat → Res Dat} (hm : mg x = some (.ref f)) (Fu : Fun K x qual st f fd) (b : Binds K fd ps []) (h : FnOk P w K mg base (L2.CX P w) k f fd ps (spD K T n F)) :
    FnD P w K mg base T k x n F := ⟨f, fd, ps, hm, Fu.kp, b, h⟩
/-! ### the law -/
def spLaw (K : PySem.W.Frag) : Sp := fun vs H Q _ => ∃ (a : Addr) (ns : List Int), vs = [.ref a] ∧ SqL K H a (ns.map V.int) ∧ ns.length ≤ 63 ∧ ∀ H', Q (.bl true) H'
theorem law_imp {P : Program} {w : World} {K : PySem.W.Frag} {mg : Str → Option Value} {base : Heap} {T : CT} {k : Nat} {f : Addr} {fd : FuncData} {ps : List Str} {F : List Dat → Res Dat} (h : FnOk P w K mg base (L2.CX P w) k f fd ps (spD K T 1 F))
    (hl : ∀ ns : List Int, ns.length ≤ 63 → F [.frz (ns.map .int)] = .ok (.bl true)) : FnOk P w K mg base (L2.CX P w) k f fd ps (spLaw K) := h.imp fun vs H Q E q => by
  obtain ⟨a, ns, rfl, hs, hlen, hq⟩ := q
  refine ⟨rfl, [], [.frz (ns.map .int)], (fun _ z => by cases z), .one (.frz ?_ (Reps.of_ints ns)), ?_⟩
  · refine ex_l ?_ hs
    intro b o e
    exact hide_get e (by simp)
  · rw [hl ns hlen]
    intro v H' e r
    cases r
    exact hq H'
theorem walk_law {l : PySem.W.OpenLaw} {k : Nat} {q : Program} {loose : List Str} {XP : (Str → Option Value) → Heap → Prop} {YP : World → Heap → Prop} {d : DefRec} {K : Params → PySem.W.Frag} (hn : l.most = some 63) (hdf : d.params.defaults = []) (hr : Room k callerA)
    (hY : ∀ (w : World) (h : Heap), YP w h → (K w.params).In h)
    (F : ∀ (w : World) (mg : Str → Option Value) (fa : Addr) (h : Heap), (K w.params).In h → h.Ns mainGlobals mg → mg d.name = some (.ref fa) →
      ∃ fd : FuncData, (∀ (s : Shared) (u : Value), BindsTo s fd ⟨[u], []⟩ [("script", u)]) ∧ ∀ base : Heap, (K w.params).In base → base.Ns mainGlobals mg → FnOk l.prog w (K w.params) mg base (L2.CX l.prog w) k fa fd ["script"] (spLaw (K w.params))) :
    PySem.W.WalkO q loose XP YP l.row.toRowW d [] (fun f vs => PySem.call f vs) :=
  L2.walk_of (n := 63) (k := k) (x := "script") (CX := fun w => L2.CX l.prog w) (sp := fun w => spLaw (K w.params)) hn (by decide) hdf hr hY F (fun _ _ a ns hl _ hS => ⟨a, ns, rfl, hS, hl, fun _ => rfl⟩) fun w H s e s' z => by
    obtain ⟨_, _, _, _, _, _, _, _, _, _, _, _, h⟩ := z
    exact h
end Dl
namespace Dl
open PySem PySem.Spec PyProof.Rows L2
theorem aName_same {i : Nat} : ∀ (d : Dat) (ρ ρ' : DEnv) (j : Nat), aName i d ρ = some ρ' → j ∉ [i] → ρ'[j]? = ρ[j]? := fun d ρ ρ' j e h => by
  cases e
  exact List.getElem?_set_ne fun z => h (by rw [z]; exact List.mem_singleton_self _)
theorem asNil_same : ∀ (ds : List Dat) (ρ ρ' : DEnv) (j : Nat), asNil ds ρ = some ρ' → j ∉ ([] : List Nat) → ρ'[j]? = ρ[j]? := fun ds ρ ρ' j e _ => by
  cases ds with
  | nil => cases e; rfl
  | cons d ds => cases e
theorem asCons_same {f : Dat → DEnv → Option DEnv} {g : List Dat → DEnv → Option DEnv} {is js : List Nat} (hf : ∀ d ρ ρ' j, f d ρ = some ρ' → j ∉ is → ρ'[j]? = ρ[j]?) (hg : ∀ ds ρ ρ' j, g ds ρ = some ρ' → j ∉ js → ρ'[j]? = ρ[j]?) :
    ∀ (ds : List Dat) (ρ ρ' : DEnv) (j : Nat), asCons f g ds ρ = some ρ' → j ∉ is ++ js → ρ'[j]? = ρ[j]? := fun ds ρ ρ' j e h => by
  cases ds with
  | nil => cases e
  | cons d ds =>
    cases q : f d ρ with
    | none => simp only [asCons, q] at e; cases e
    | some ρ1 =>
      simp only [asCons, q] at e
      rw [hg _ _ _ _ e fun z => h (List.mem_append_right _ z), hf _ _ _ _ q fun z => h (List.mem_append_left _ z)]
theorem aTup_same {g : List Dat → DEnv → Option DEnv} {is : List Nat} (hg : ∀ ds ρ ρ' j, g ds ρ = some ρ' → j ∉ is → ρ'[j]? = ρ[j]?) :
    ∀ (d : Dat) (ρ ρ' : DEnv) (j : Nat), aTup g d ρ = some ρ' → j ∉ is → ρ'[j]? = ρ[j]? := fun d ρ ρ' j e h => by
  cases d with
  | tup ds => exact hg _ _ _ _ e h
  | lst ds => exact hg _ _ _ _ e h
  | _ => cases e
def range3D : List Dat → Res (List Dat)
  | [.int i, .int j, .int c] => if decide (c ≠ 0) && decide (c.natAbs < 1073741824) && Builtin.Range.small i j c then .ok (rngC i c (Builtin.Range.rangeSize i j c).toNat) else .stuck
  | _ => .stuck
section
variable {X : Cx} {T : CT} {W : WX} {ow : List Nat} {a b c tg : Expr} {pos p : Pos} {fs : DEnv → Res (List Dat)}
theorem di_range3 (hm : X.mg "range" = none) (ha : DA X T W ow [a, b, c] fs) (hg : Gl X "range" := by rfl) (hs : starEach [a, b, c] X.env = (false, eval a X.env) :: starEach [b, c] X.env := by rfl) (hpl : (backTo pos (starEach [b, c] X.env)).any (·.1) = false := by rfl) :
    DI X T W ow tg (.Call (.Name "range" p) [a, b, c] [] pos) (gA range3D fs) := pi_imp (pi_range3 hg hm ha hs hpl) fun σ H R h => by
  obtain ⟨ρ, S, re, w⟩ := h
  refine WantI.partA re w fun vs ds H1 w1 re1 e1 rs => ?_
  cases rs with
  | nil => exact w1.elim
  | cons r rs =>
    cases rs with
    | nil => cases r <;> exact w1.elim
    | cons r2 rs =>
      cases rs with
      | nil => cases r <;> cases r2 <;> exact w1.elim
      | cons r3 rs =>
        cases rs with
        | cons _ _ => cases r <;> cases r2 <;> cases r3 <;> exact w1.elim
        | nil =>
          cases r with
          | int i =>
            cases r2 with
            | int j =>
              cases r3 with
              | int k =>
                have w2 : WantI X.K T W σ H1 S (if decide (k ≠ 0) && decide (k.natAbs < 1073741824) && Builtin.Range.small i j k then .ok (rngC i k (Builtin.Range.rangeSize i j k).toNat) else .stuck) R := w1
                by_cases z : (decide (k ≠ 0) && decide (k.natAbs < 1073741824) && Builtin.Range.small i j k) = true
                · rw [if_pos z] at w2
                  rw [Bool.and_eq_true, Bool.and_eq_true] at z
                  exact ⟨i, j, k, _, rfl, ⟨of_decide_eq_true z.1.1, of_decide_eq_true z.1.2, z.2, rangeSize_toNat _ _ _⟩, w2 _ H1 (Ex.refl H1) src_rangeC⟩
                · rw [if_neg z] at w2
                  exact w2.elim
              | _ => exact w1.elim
            | _ => cases r3 <;> exact w1.elim
          | _ => cases r2 <;> cases r3 <;> exact w1.elim
end
end Dl
namespace Dl
open PySem
theorem look_cases {k a : Str} {e x : Dat} {l : List (Str × Dat)} (h : ((a, x) :: l).lookup k = some e) : (k = a ∧ e = x) ∨ l.lookup k = some e := by
  have h' : (match k == a with | true => some x | false => List.lookup k l) = some e := h
  cases z : (k == a) with
  | true =>
    rw [z] at h'
    exact .inl ⟨eq_of_beq z, (Option.some.inj h').symm⟩
  | false =>
    rw [z] at h'
    exact .inr h'
end Dl
/-! The D layer, part 11: several handlers, methods of texts. -/
namespace Dl
open PySem PySem.Spec PyProof.Rows L2
/-- the handlers, one after the other: the classes, the suite (which raises nothing) -/
abbrev HdL := List ((Nat → Bool) × (DEnv → DFlow))
def endT : DFlow → DFlow
  | .ex _ _ => .stuck
  | f => f
def handM : HdL → Nat → DEnv → DFlow
  | [], c, ρ => .ex c ρ
  | (m, G) :: r, c, ρ => if m c = true then endT (G ρ) else handM r c ρ
def sTryM (F : DEnv → DFlow) (hs : HdL) : DEnv → DFlow := fun ρ => match F ρ with
  | .ex c ρ' => handM hs c ρ'
  | f => f
inductive HdD (X : Cx) (T : CT) (ow' ob : List Nat) : List ExceptHandler → HdL → List (Value × (Addr → Value → Option Addr → TS)) → Prop
  | nil : HdD X T ow' ob [] [] []
  | cons {x : Str} {cv : Value} {m : Nat → Bool} {G : DEnv → DFlow} {b₀ : Stmt} {suite : List Stmt} {np pos' : Pos} {hds : List ExceptHandler} {l : HdL} {l' : List (Value × (Addr → Value → Option Addr → TS))} (hc : Names X x cv) (hm : ∀ c, PySem.W.exmOne X.K (T.exc c) cv = some (m c))
      (hsu : ∀ (a : Addr) (oe : Obj) (cls : Value) (d : Option Addr) (pn : List (Addr × Obj)), Zc cls d oe → (∃ vs, oe.data = .fields vs) → DSs (X.suite a ((a, oe) :: pn)) T wNo [] ow' ob (b₀ :: suite) G) (r : HdD X T ow' ob hds l l') :
      HdD X T ow' ob (.ExceptHandler (some (.Name x np)) none (b₀ :: suite) pos' :: hds) ((m, G) :: l) ((cv, fun _ _ _ => tDS X.K T wNo [] ow' ob G) :: l')
section
variable {X : Cx} {T : CT} {W : WX} {ow ow' ob : List Nat} {pos : Pos} {F : DEnv → DFlow} {body : List Stmt}
theorem HdD.ok {hds : List ExceptHandler} {l : HdL} {l' : List (Value × (Addr → Value → Option Addr → TS))} (h : HdD X T ow' ob hds l l') : HdsOk X hds l' := by
  induction h with
  | nil => exact .nil
  | cons hc hm hsu r ih => exact .cons hc (fun a oe cls d pn hz hf => hsu a oe cls d pn hz hf) ih
theorem wants_ext {K : PySem.W.Frag} {B H H1 : Hp} {B0 S S1 : List Addr} {D : Ends} {f : DFlow} (w : Wants K T W B B0 ow' ob H S D (endT f)) (e : Ex (hide H S) (hide H1 S1)) (hn : W = wNo ∨ True) : Wants K T wNo B B0 ow' ob H1 S1 D f := by
  cases f with
  | ex c ρ => exact w.elim
  | nx ρ => exact fun σ' H' S' r e' => w σ' H' S' r (e.trans e')
  | bk ρ => exact fun σ' H' S' r e' => w σ' H' S' r (e.trans e')
  | ct ρ => exact fun σ' H' S' r e' => w σ' H' S' r (e.trans e')
  | rt d => exact w
  | stuck => exact w
theorem ds_tryM {h₀ : ExceptHandler} {hds : List ExceptHandler} {l : HdL} {l' : List (Value × (Addr → Value → Option Addr → TS))} (hs : X.stack = X.env :: X.outer) (hf : X.env.frame = some X.env.locals) (tk : Takes X W)
    (hb : ∀ (W : WX) (pn : List (Addr × Obj)) (xe : Value → Shared → Prop), Takes (X.tr pn xe) W → PassesOwn (model X.prog X.w) X.A X.env xe → DSs (X.tr pn xe) T W ow ow' ob body F)
    (hh : HdD X T ow' ob (h₀ :: hds) l l') : DS X T W ow ow' ob (.Try body (h₀ :: hds) [] [] pos) (sTryM F l) :=
  ps_imp (ps_try_many (tb := fun W => tDS X.K T W ow ow' ob F) hs hf tk hb hh.ok) fun D σ H q => by
    obtain ⟨B, B0, ρ, S, rs, w⟩ := q
    refine ⟨B, B0, ρ, S, rs, ?_⟩
    unfold sTryM at w
    cases qF : F ρ with
    | ex c ρ' =>
      rw [qF] at w
      intro σ' H' rs' e'
      have w : Wants X.K T W B B0 ow' ob H S D (handM l c ρ') := w
      clear qF hb
      generalize h₀ :: hds = hl at hh
      induction hh with
      | nil => exact w σ' H' rs' e'
      | @cons x cv m G b₀ suite np pos' hds2 l2 l2' hc hm hsu r ih =>
        refine ⟨m c, hm c, fun hb' a _ => ?_, fun hb' => ?_⟩
        · have w2 : Wants X.K T W B B0 ow' ob H S D (endT (G ρ')) := by
            have z : handM ((m, G) :: l2) c ρ' = endT (G ρ') := if_pos hb'
            rw [z] at w
            exact w
          exact ⟨B, B0, ρ', B0, rs', wants_ext w2 e' (.inr trivial)⟩
        · have z : handM ((m, G) :: l2) c ρ' = handM l2 c ρ' := if_neg (by rw [hb']; decide)
          rw [z] at w
          exact ih w w
    | nx ρ2 => rw [qF] at w; exact w
    | bk ρ2 => rw [qF] at w; exact w
    | ct ρ2 => rw [qF] at w; exact w
    | rt d => rw [qF] at w; exact w
    | stuck => rw [qF] at w; exact w
end
/-! ### methods of a text, one argument -/
def vM1 (g : Dat → Dat → Option Dat) (fo fa : DEnv → Res Dat) : DEnv → Res Dat := fun ρ => (fo ρ).bind fun x => match x with
  | .str z => (fa ρ).bind fun y => ofO (g (.str z) y)
  | _ => .stuck
def MtD (K : PySem.W.Frag) (T : CT) (r : V → List V → Hp → VK → Prop) (g : Dat → Dat → Option Dat) : Prop := ∀ (S : List Addr) (H : Hp) (z : Str) (v : V) (dv d : Dat) (Q : VK), Rep K T (hide H S) v dv → g (.str z) dv = some d →
  (∀ v' H', Ex H H' → Rep K T (hide H' S) v' d → Q v' H') → r (.str z) [v] H Q
section
variable {X : Cx} {T : CT} {W : WX} {ow : List Nat} {o e : Expr} {fo fa : DEnv → Res Dat} {id : String} {name : Str} {apos pos : Pos} {r : V → List V → Hp → VK → Prop} {g : Dat → Dat → Option Dat}
theorem de_sm1 (slot : Slot "str" name id) (ty : typeOf (.builtin id) = pure (.type "method_descriptor")) (rule : MtR X id r) (rd : MtD X.K T r g) (ho : DE X T W ow o fo) (he : DE X T W ow e fa)
    (hs : starEach [e] X.env = [(false, eval e X.env)] := by rfl) (hbase : attributeBase o name X.env (eval o X.env) = eval o X.env := by rfl) (hline : (apos.endLine == pos.line) = true := by rfl) :
    DE X T W ow (.Call (.Attribute o name apos) [e] [] pos) (vM1 g fo fa) := pe_imp (pe_m1 slot ty rule ho he hs hbase hline) fun σ H Q h => by
  obtain ⟨ρ, S, re, w⟩ := h
  refine Want.part re w fun x dx H1 w1 re1 e1 rx => ?_
  cases rx with
  | str z =>
    refine ⟨⟨z, rfl⟩, ?_⟩
    refine Want.part re1 w1 fun y dy H2 w2 re2 e2 ry => ?_
    cases q : g (.str z) dy with
    | none => rw [q] at w2; exact w2.elim
    | some d =>
      rw [q] at w2
      exact rd _ H2 z y dy d Q ry q w2
  | _ => exact w1.elim
end
def sindexD : Dat → Dat → Option Dat
  | .str a, .str b => (Builtin.Str.occurrences a b 0 a.length 1).head?.map fun i => .int (i : Nat)
  | _, _ => none
theorem md_sindex {K : PySem.W.Frag} {T : CT} : MtD K T (fun x xs H Q => ∃ a b i rest, x = .str a ∧ xs = [.str b] ∧ Builtin.Str.occurrences a b 0 a.length 1 = i :: rest ∧ Q (.int (i : Nat)) H) sindexD := fun S H z v dv d Q rv e q => by
  cases rv with
  | str b =>
    have e : (Builtin.Str.occurrences z b 0 z.length 1).head?.map (fun i => Dat.int (i : Nat)) = some d := e
    cases ho : Builtin.Str.occurrences z b 0 z.length 1 with
    | nil => rw [ho] at e; cases e
    | cons i rest =>
      rw [ho] at e
      cases e
      exact ⟨z, b, i, rest, rfl, rfl, ho, q _ H (Ex.refl H) (.int _)⟩
  | _ => cases e
end Dl
/-! The D layer, part 12: objects are made. An __init__ is: tests that raise, local names, then the attributes. -/
namespace Dl
open PySem PySem.Spec PyProof.Rows L2
/-- all but x is as it was -/
def Agr (x : Addr) (B H : Hp) : Prop := ∀ b o, b ≠ x → B b = some o → H b = some o
theorem Agr.ex {x : Addr} {B H H' : Hp} (a : Agr x B H) (e : Ex H H') : Agr x B H' := fun b o n q => e b o (a b o n q)
/-- what an __init__ stores, in order -/
def iEnd : DEnv → Res (List Dat) := fun _ => .ok []
def iFld (f : DEnv → Res Dat) (I : DEnv → Res (List Dat)) : DEnv → Res (List Dat) := fun ρ => (f ρ).bind fun d => (I ρ).bind fun l => .ok (d :: l)
def iIf (t : DEnv → Res Bool) (c : Nat) (I : DEnv → Res (List Dat)) : DEnv → Res (List Dat) := fun ρ => (t ρ).bind fun b => if b = true then .exc c else I ρ
def iAsg (i : Nat) (f : DEnv → Res Dat) (I : DEnv → Res (List Dat)) : DEnv → Res (List Dat) := fun ρ => (f ρ).bind fun d => I (ρ.set i (some d))
def iDrop (f : DEnv → Res Dat) (I : DEnv → Res (List Dat)) : DEnv → Res (List Dat) := fun ρ => (f ρ).bind fun _ => I ρ
def WantI2 (K : PySem.W.Frag) (T : CT) (W : WX) (x : Addr) (c : Nat) (S : List Addr) (B : Hp) (ds : List Dat) (D : Ends) : Res (List Dat) → Prop
  | .ok l => ∀ σ' H' dx' fs', Agr x B H' → H' x = some (.ins (T.addr c) dx' fs') → fs'.map (·.1) = T.names c → Reps K T (hide H' S) (fs'.map (·.2)) (ds ++ l) → D.nx σ' H'
  | .exc e => ∀ σ' H', Agr x B H' → W (T.exc e) none σ' H'
  | .stuck => False
def tIS (K : PySem.W.Frag) (T : CT) (W : WX) (c : Nat) (nms : List Str) (I : DEnv → Res (List Dat)) : TS := fun D σ H => ∃ (x : Addr) (S : List Addr) (B : Hp) (ρ : DEnv) (dx : Addr) (fs : List (Str × V)) (ds : List Dat),
  x ∈ S ∧ RE K T [] σ ρ H S ∧ σ[0]? = some (some (.ref x)) ∧ H x = some (.ins (T.addr c) dx fs) ∧ fs.map (·.1) ++ nms = T.names c ∧ Agr x B H ∧ Reps K T (hide H S) (fs.map (·.2)) ds ∧ WantI2 K T W x c S B ds D (I ρ)
def IS (X : Cx) (T : CT) (W : WX) (c : Nat) (st : List Stmt) (nms : List Str) (I : DEnv → Res (List Dat)) : Prop := PSs X st (tIS X.K T W c nms I)
section
variable {X : Cx} {T : CT} {W : WX} {c : Nat} {rest : List Stmt} {nms : List Str} {I : DEnv → Res (List Dat)} {pos p1 p2 p3 rpos : Pos} {e o : Expr}
theorem is_nil : IS X T W c [] [] iEnd := pss_imp pss_nil fun D σ H q => by
  obtain ⟨x, S, B, ρ, dx, fs, ds, hx, re, hs, hH, hn, ag, rs, w⟩ := q
  rw [List.append_nil] at hn
  exact w σ H dx fs ag hH hn (by rw [List.append_nil]; exact rs)
/-- the state goes on -/
theorem tIS_go {K : PySem.W.Frag} {D : Ends} {x : Addr} {S : List Addr} {B H H1 : Hp} {ρ : DEnv} {dx : Addr} {fs : List (Str × V)} {ds : List Dat} {σ : Sg} (e : Ex H H1) (hx : x ∈ S) (re : RE K T [] σ ρ H1 S) (hs : σ[0]? = some (some (.ref x))) (hH : H x = some (.ins (T.addr c) dx fs)) (hn : fs.map (·.1) ++ nms = T.names c)
    (ag : Agr x B H) (rs : Reps K T (hide H S) (fs.map (·.2)) ds) (w : WantI2 K T W x c S B ds D (I ρ)) : tIS K T W c nms I D σ H1 :=
  ⟨x, S, B, ρ, dx, fs, ds, hx, re, hs, e _ _ hH, hn, ag.ex e, rs.mono (hide_mono e), w⟩
theorem is_if {cn : Nat} {cond : Expr} {y m : Str} {j : Nat} {t : DEnv → Res Bool} (d : ExD X.K T X.mg cn y) (hc : X.calm = true) (tk : Takes X W) (ht : DT X T W [] cond t) (hr : IS X T W c rest nms I) (hg : Gl X y := by rfl) (hdb : (y == ("__debug__" : Str)) = false := by decide) :
    IS X T W c (.If cond [.Raise (some (.Call (.Name y p1) [.Constant (.str m) j p2] [] p3)) none rpos] [] pos :: rest) nms (iIf t cn I) := by
  obtain ⟨C, e1, e2, e3, e4, e5, e6⟩ := d.ex
  have pr := ps_raise (pos := rpos) hc tk (pmk_own (m := m) (j := j) (p := p1) (p2 := p2) (pos := p3) PySem.F.excBase_ValueError e4 e2 e3 (raises_own e5 e6) hg hdb)
  refine pss_imp (pss_cons (ps_if ht (pss_one pr) pss_nil) hr) fun D σ H q => ?_
  obtain ⟨x, S, B, ρ, dx, fs, ds, hx, re, hs, hH, hn, ag, rs, w⟩ := q
  refine ⟨ρ, S, re, ?_⟩
  unfold iIf at w
  cases qt : t ρ with
  | stuck => rw [qt] at w; exact w.elim
  | exc e => rw [qt] at w; exact fun H1 e1 => w σ H1 (ag.ex e1)
  | ok b =>
    rw [qt] at w
    intro H1 ex
    cases b with
    | true =>
      have := w σ H1 (ag.ex ex)
      rw [e1] at this
      exact this
    | false => exact tIS_go ex hx (re.mono ex) hs hH hn ag rs w
theorem is_drop {f : DEnv → Res Dat} (he : DE X T W [] e f) (hr : IS X T W c rest nms I) (hsw : swapsWith e none pos.line X.env = pure false := by rfl) : IS X T W c (.Expr e pos :: rest) nms (iDrop f I) := by
  refine pss_imp (pss_cons (ps_expr he hsw) hr) fun D σ H q => ?_
  obtain ⟨x, S, B, ρ, dx, fs, ds, hx, re, hs, hH, hn, ag, rs, w⟩ := q
  refine ⟨ρ, S, re, ?_⟩
  unfold iDrop at w
  cases qt : f ρ with
  | stuck => rw [qt] at w; exact w.elim
  | exc e => rw [qt] at w; exact fun H1 e1 => w σ H1 (ag.ex e1)
  | ok d =>
    rw [qt] at w
    intro v H1 ex r
    exact tIS_go ex hx (re.mono ex) hs hH hn ag rs w
theorem is_asg {i : Nat} {y : Str} {f : DEnv → Res Dat} {pos' : Pos} (hN : X.N.Nodup) (he : DE X T W [] e f) (hr : IS X T W c rest nms I) (h0 : i ≠ 0 := by decide) (hi : X.N[i]? = some y := by rfl) (hx : Loc X.env.scope y := by first | exact .inl rfl | exact .inr rfl)
    (hsw : swapsWith e (some (.Name y pos')) pos.line X.env = pure false := by rfl) (hf : X.fn y = true ∨ X.env.scope.names.lookup y = some .local := by first | exact .inl rfl | exact .inr rfl) : IS X T W c (.Assign [.Name y pos'] e pos :: rest) nms (iAsg i f I) := by
  refine pss_imp (pss_cons (ps_set hN hi hx he hsw hf) hr) fun D σ H q => ?_
  obtain ⟨x, S, B, ρ, dx, fs, ds, hx, re, hs, hH, hn, ag, rs, w⟩ := q
  refine ⟨ρ, S, re, ?_⟩
  unfold iAsg at w
  cases qt : f ρ with
  | stuck => rw [qt] at w; exact w.elim
  | exc e => rw [qt] at w; exact fun H1 e1 => w σ H1 (ag.ex e1)
  | ok d =>
    rw [qt] at w
    intro v H1 ex r
    exact tIS_go ex hx ((re.mono ex).set (by simp) r) (by rw [List.getElem?_set_ne h0]; exact hs) hH hn ag rs w
theorem putF_new {f : Str} {v : V} : ∀ {fs : List (Str × V)}, f ∉ fs.map (·.1) → putF f v fs = fs ++ [(f, v)]
  | [], _ => rfl
  | (g, y) :: r, h => by
    rw [List.map_cons, List.mem_cons, not_or] at h
    show (if g = f then (g, v) :: r else (g, y) :: putF f v r) = _
    rw [if_neg (fun z => h.1 z.symm), putF_new h.2]
    rfl
theorem hide_upd2 {H : Hp} {S : List Addr} {x : Addr} {ob : HO} (hx : x ∈ S) : hide (upd H x ob) S = hide H S := by
  funext b
  unfold hide
  by_cases z : b ∈ S
  · rw [if_pos z, if_pos z]
  · rw [if_neg z, if_neg z, upd_ne (fun q => z (by rw [q]; exact hx))]
theorem is_fld {f : Str} {g : DEnv → Res Dat} {slf : Str} {p p' : Pos} (cl : Cls X.K (T.addr c)) (na : NoAttr X.K (T.addr c) f) (hnd : (T.names c).Nodup) (hsz : (T.names c).length < 1000) (hN : X.N.Nodup) (he : DE X T W [] e g) (hr : IS X T W c rest nms I)
    (hi : X.N[0]? = some slf := by rfl) (hv : X.env.scope.names.lookup slf = some .local ∨ X.env.scope.names.lookup slf = some .cell ∨ X.env.scope.names.lookup slf = some .free := by first | exact .inl rfl | exact .inr (.inl rfl))
    (hd : (slf == ("__debug__" : Str)) = false := by decide) (hcd : (slf == ("__classdict__" : Str)) = false := by decide)
    (hsw : swapsWith e (some (.Attribute (.Name slf p) f p')) pos.line X.env = pure false := by rfl) : IS X T W c (.Assign [.Attribute (.Name slf p) f p'] e pos :: rest) (f :: nms) (iFld g I) := by
  refine pss_imp (pss_cons (ps_fld (pe_var hi hv hd hcd) he hsw) hr) fun D σ H q => ?_
  obtain ⟨x, S, B, ρ, dx, fs, ds, hx, re, hs, hH, hn, ag, rs, w⟩ := q
  refine ⟨ρ, S, re, ?_⟩
  unfold iFld at w
  cases qt : g ρ with
  | stuck => rw [qt] at w; exact w.elim
  | exc e => rw [qt] at w; exact fun H1 e1 => w σ H1 (ag.ex e1)
  | ok d =>
    rw [qt] at w
    intro v H1 ex r
    have hlen : fs.length < 1000 := by
      have := congrArg List.length hn
      rw [List.length_append, List.length_map] at this
      omega
    have hnf : f ∉ fs.map (·.1) := by
      rw [← hn, List.nodup_append] at hnd
      exact fun z => hnd.2.2 f z f (List.mem_cons_self ..) rfl
    refine ⟨_, hs, x, _, dx, fs, rfl, ex _ _ hH, cl, na, hlen, ?_⟩
    rw [putF_new hnf]
    have re1 := re.mono ex
    have eh := hide_upd2 (H := H1) (ob := .ins (T.addr c) dx (fs ++ [(f, v)])) hx
    refine ⟨x, S, B, ρ, dx, fs ++ [(f, v)], ds ++ [d], hx, ⟨fun q hq => ?_, re1.len, fun i d' hi hd => ?_, fun i d h => (by cases h), fun i j d e p h => (by cases h)⟩, hs, upd_same .., ?_, fun b ob hb hB => ?_, ?_, ?_⟩
    · by_cases z : q = x
      · subst z
        exact ⟨_, upd_same .., rfl⟩
      · rw [upd_ne z]
        exact re1.mt q hq
    · rw [eh]
      exact re1.fro i d' hi hd
    · rw [List.map_append, List.append_assoc]
      exact hn
    · rw [upd_ne hb]
      exact ex _ _ (ag b ob hb hB)
    · rw [eh, List.map_append]
      exact (rs.mono (hide_mono ex)).append (.cons r .nil)
    · have w : WantI2 X.K T W x c S B ds D ((I ρ).bind fun l => .ok (d :: l)) := w
      cases qi : I ρ with
      | stuck => rw [qi] at w; exact w.elim
      | exc e => rw [qi] at w; exact w
      | ok l =>
        rw [qi] at w
        intro σ' H' dx' fs' a h1 h2 h3
        exact w σ' H' dx' fs' a h1 h2 (by rw [List.append_assoc] at h3; exact h3)
end
end Dl
namespace Dl
open PySem PySem.Spec PyProof.Rows L2
/-! ### what an __init__ promises, a class is called -/
def startI (m : Nat) (ds : List Dat) : DEnv := (startD m (.non :: ds)).set 0 none
def spI (K : PySem.W.Frag) (T : CT) (c n m : Nat) (I : DEnv → Res (List Dat)) : Sp := fun vs H Q E => vs.length = n + 1 ∧ ∃ (x dx : Addr) (vs' : List V) (S : List Addr) (ds : List Dat), vs = .ref x :: vs' ∧ H x = some (.ins (T.addr c) dx []) ∧ x ∈ S ∧ Hid H S ∧ Reps K T (hide H S) vs' ds ∧
  WantI2 K T (fun cls d _ H => E cls d H) x c S H [] { nx := fun _ H' => Q .non H', rt := fun _ _ => False, bk := fun _ _ => False, ct := fun _ _ => False } (I (startI m ds))
theorem re_startI {K : PySem.W.Frag} {T : CT} {H : Hp} {S : List Addr} {N : List Str} {x : Addr} {vs : List V} {ds : List Dat} (hN : N ≠ []) (m : Hid H S) (r : Reps K T (hide H S) vs ds) : RE K T [] (start N (.ref x :: vs)) (startI N.length ds) H S ∧ (start N (.ref x :: vs))[0]? = some (some (.ref x)) := by
  have hl := r.length
  refine ⟨⟨m, ?_, fun i d _ hd => ?_, fun i d h => (by cases h), fun i j d e p h => (by cases h)⟩, ?_⟩
  · unfold L2.start startI startD
    simp [hl]
  · unfold startI startD at hd
    unfold L2.start
    cases i with
    | zero => simp at hd
    | succ i =>
      rw [List.getElem?_set_ne (by omega)] at hd
      simp only [List.map_cons, List.cons_append, List.getElem?_cons_succ, List.length_cons] at hd ⊢
      by_cases hi : i < ds.length
      · rw [List.getElem?_append_left (by simpa using hi), List.getElem?_map] at hd
        rw [List.getElem?_append_left (by rw [List.length_map, hl]; exact hi), List.getElem?_map]
        cases q : ds[i]? with
        | none => rw [q] at hd; cases hd
        | some d' =>
          rw [q] at hd
          cases hd
          obtain ⟨v, h1, h2⟩ := r.get q
          exact ⟨v, by rw [h1]; rfl, h2⟩
      · rw [List.getElem?_append_right (by simpa using hi), List.getElem?_replicate] at hd
        split at hd <;> cases hd
  · unfold L2.start
    rfl
theorem init_D {P : Program} {w : World} {K : PySem.W.Frag} {mg : Str → Option Value} {base : Heap} {T : CT} {x qual : Str} {st : Stmt} {f : Addr} {fd : FuncData} {N ps : List Str} {k n c : Nat} {I : DEnv → Res (List Dat)} (Fu : Fun K x qual st f fd) (Sc : FnScope N ps (defScope st)) (hn : ps.length = n + 1) (hN : N ≠ [])
    (hb : ∀ (cdv : Value) (A : Around) (outer : List Env) (s : Shared) (H : Hp) (E : XK), Room k (A.deeper (envOfC qual (defScope st) s.heap.objs.size f cdv)) →
      IS (cxOf (L2.CX P w) P w K mg base N qual (defScope st) f cdv A outer s H E) T (fun cls d _ H => E cls d H) c (defBody st) (T.names c) I) :
    FnOk P w K mg base (L2.CX P w) (k + 1) f fd ps (spI K T c n N.length I) := by
  refine Fu.okX Sc (fun vs H Q E h => h.1.trans hn.symm) (fun cdv A outer s H vs Q E hr h => ?_)
  obtain ⟨hlen, y, dx, vs', S, ds, rfl, h1, h2, h3, h4, h5⟩ := h
  refine ⟨_, hb cdv A outer s H E hr, ?_⟩
  obtain ⟨r1, r2⟩ := re_startI (x := y) hN h3 h4
  refine ⟨y, S, H, startI N.length ds, dx, [], [], h2, r1, r2, h1, rfl, fun b o _ q => q, .nil, ?_⟩
  cases q : I (startI N.length ds) with
  | stuck => rw [q] at h5; exact h5.elim
  | exc e => rw [q] at h5; exact h5
  | ok l => rw [q] at h5; exact h5
/-- a class that is made so: its index, how many arguments, what it stores -/
structure MkD (P : Program) (w : World) (K : PySem.W.Frag) (mg : Str → Option Value) (base : Heap) (T : CT) (k : Nat) (x : Str) (c n m : Nat) (I : DEnv → Res (List Dat)) : Prop where
  ex : ∃ f fd ps, mg x = some (.ref (T.addr c)) ∧ Mk K (T.addr c) f ∧ Binds K fd ps [] ∧ FnOk P w K mg base (L2.CX P w) k f fd ps (spI K T c n m I)
def makeD (c n m : Nat) (I : DEnv → Res (List Dat)) (ds : List Dat) : Res Dat := if ds.length = n then (I (startI m ds)).bind fun l => .ok (.obj c l) else .stuck
def vMake (c n m : Nat) (I : DEnv → Res (List Dat)) (fs : DEnv → Res (List Dat)) : DEnv → Res Dat := fun ρ => (fs ρ).bind (makeD c n m I)
section
variable {X : Cx} {T : CT} {W : WX} {ow : List Nat} {e : Expr} {es : List Expr} {pos p : Pos} {fs : DEnv → Res (List Dat)}
/-- a class is called: the errors of its __init__ go on by slots -/
theorem run_new {pins : List (Addr × Obj)} {σ : Sg} {H : Hp} {s : Shared} {Q : VK} {k : Nat} {f C : Addr} {fd : FuncData} {ps : List Str} {sp : Sp} {E : XK} {us : List Value} {vs : List V} (M : Mk X.K C f) (F : FnOk X.prog X.w X.K X.mg X.base (L2.CX X.prog X.w) k f fd ps sp) (hr : Room (k + 1) X.A) (hb : Binds X.K fd ps [])
    (hx : PassesAt (L2.CX X.prog X.w) X σ E) (I : Inv X pins σ H s) (r : Vals vs us) (h : ∀ x dx, H x = none → H dx = none → dx ≠ x → sp (.ref x :: vs) (upd (upd H dx (.own x)) x (.ins C dx [])) (fun v H2 => v = .non ∧ Q (.ref x) H2) E) :
    wpAny (model X.prog X.w) X.A (call (.ref C) us) (EP X pins σ Q) X.xe s := by
  have n1 := I.hok.fresh (Nat.le_succ s.heap.objs.size)
  have n2 := I.hok.fresh (Nat.le_refl s.heap.objs.size)
  have q := h _ _ n1 n2 (Nat.ne_of_lt (Nat.lt_succ_self _))
  have J := Inv.made (C := C) I
  have rr : Vals (V.ref (s.heap.objs.size + 1) :: vs) (Value.ref (s.heap.objs.size + 1) :: us) := .cons rfl r
  have len := (rr.length).symm.trans (F.len _ _ _ _ q)
  have bnd := hb _ (Value.ref (s.heap.objs.size + 1) :: us) J.kIn (by rw [List.append_nil]; exact len)
  rw [List.append_nil] at bnd
  have body := F.run _ X.stack _ _ ⟨Value.ref (s.heap.objs.size + 1) :: us, []⟩ _ _ _ E (hr.make C us []) (J.env0.make C us []) bnd rr q
  refine wpAny_call (make_map (f := f) I.kIn M.makes M.init (beq_iff_eq.mp M.fn) (codeAny_mono body fun res s' z => ?_))
  match res, z with
  | .error e, z => exact hx pins _ _ e s' J z
  | .ok (.ret u), z =>
    obtain ⟨v, H', J3, rv, ev, q3⟩ := J.after z
    subst ev
    exact ⟨rv, ⟨V.ref (s.heap.objs.size + 1), H', J3, rfl, q3⟩⟩
  | .ok .next, z => exact z.elim
  | .ok .brk, z => exact z.elim
  | .ok .cont, z => exact z.elim
theorem pe_new {k : Nat} {x : Str} {f C : Addr} {fd : FuncData} {ps : List Str} {sp : Sp} {E : Sg → XK} {t : TA} (M : Mk X.K C f) (F : FnOk X.prog X.w X.K X.mg X.base (L2.CX X.prog X.w) k f fd ps sp) (hr : Room (k + 1) X.A) (hg : Gl X x) (hm : X.mg x = some (.ref C)) (hb : Binds X.K fd ps [])
    (hx : ∀ σ, PassesAt (L2.CX X.prog X.w) X σ (E σ)) (ha : PA X (e :: es) t) (hdb : (x == ("__debug__" : Str)) = false) (he : starEach (e :: es) X.env = (false, eval e X.env) :: starEach es X.env) (hpl : (backTo pos (starEach es X.env)).any (·.1) = false) :
    PE X (.Call (.Name x p) (e :: es) [] pos) (fun σ H Q => t σ H fun vs H1 => ∀ y dx, H1 y = none → H1 dx = none → dx ≠ y → sp (.ref y :: vs) (upd (upd H1 dx (.own y)) y (.ins C dx [])) (fun v H2 => v = .non ∧ Q (.ref y) H2) (E σ)) :=
  ⟨fun pins s σ H Q I h => wpAny_Call_Name_kw (ld_glob I hg hm (PySem.W.callWith_K (h₀ := X.base) I.ok.mod.kin M.kp (thn (ha.run pos pins s σ H _ I h) fun us s1 ⟨vs, H1, I1, r, q⟩ => ⟨I1.kIn, run_new M F hr hb (hx σ) I1 r q⟩) he hpl) hdb)⟩
theorem de_make {k j c n m : Nat} {x : Str} {I : DEnv → Res (List Dat)} (cc : MkD X.prog X.w X.K X.mg X.base T k x c n m I) (hr : Room j X.A) (hk : k + 1 ≤ j) (hp : ∀ σ, PassesAt (L2.CX X.prog X.w) X σ (WE W σ)) (ha : DA X T W ow (e :: es) fs) (hg : Gl X x := by rfl)
    (hdb : (x == ("__debug__" : Str)) = false := by decide) (he : starEach (e :: es) X.env = (false, eval e X.env) :: starEach es X.env := by rfl) (hpl : (backTo pos (starEach es X.env)).any (·.1) = false := by rfl) :
    DE X T W ow (.Call (.Name x p) (e :: es) [] pos) (vMake c n m I fs) := by
  obtain ⟨f, fd, ps, h1, h2, h3, h4⟩ := cc.ex
  refine pe_imp (pe_new h2 h4 (hr.mono hk) hg h1 h3 hp ha hdb he hpl) fun σ H Q h => ?_
  obtain ⟨ρ, S, re, w⟩ := h
  refine Want.partA re w fun vs ds H1 w1 re1 e1 rs => ?_
  intro y dx hy hdx hne
  unfold makeD at w1
  split at w1
  · rename_i hl
    have eo : Ex H1 (upd (upd H1 dx (.own y)) y (.ins (T.addr c) dx [])) := (Ex.new hdx).trans (Ex.new (by rw [upd_ne (fun q => hne q.symm)]; exact hy))
    have yS : y ∉ S := re1.mt.not hy
    have eh : Ex (hide H1 S) (hide (upd (upd H1 dx (.own y)) y (.ins (T.addr c) dx [])) (y :: S)) := fun b o hb => by
      unfold hide at hb ⊢
      by_cases z : b ∈ S
      · rw [if_pos z] at hb; cases hb
      · rw [if_neg z] at hb
        have nb : b ≠ y := fun q => by rw [q, hy] at hb; cases hb
        rw [if_neg (by rw [List.mem_cons, not_or]; exact ⟨nb, z⟩)]
        exact eo b o hb
    refine ⟨by rw [List.length_cons, rs.length, hl], y, dx, vs, y :: S, ds, rfl, upd_same .., List.mem_cons_self .., fun q hq => ?_, rs.mono eh, ?_⟩
    · rcases List.mem_cons.mp hq with z | z
      · subst z
        exact ⟨_, upd_same .., rfl⟩
      · obtain ⟨o, a, b⟩ := re1.mt q z
        exact ⟨o, eo q o a, b⟩
    have back : ∀ {H' : Hp}, Agr y (upd (upd H1 dx (.own y)) y (.ins (T.addr c) dx [])) H' → Ex H1 H' := fun {H'} ag b o hb => ag b o (fun q => by rw [q, hy] at hb; cases hb) (eo b o hb)
    cases q : I (startI m ds) with
    | stuck => rw [q] at w1; exact w1.elim
    | exc e =>
      rw [q] at w1
      exact fun σ' H' ag => w1 H' (back ag)
    | ok l =>
      rw [q] at w1
      intro σ' H' dx' fs' ag hH hn hr'
      refine ⟨rfl, w1 (.ref y) H' (back ag) ?_⟩
      refine .obj (dx := dx') (fs := fs') ?_ hn (hr'.mono fun b o hb => ?_)
      · unfold hide
        rw [if_neg yS]
        exact hH
      · unfold hide at hb ⊢
        split at hb
        · cases hb
        · rename_i z
          rw [List.mem_cons, not_or] at z
          rw [if_neg z.2]
          exact hb
  · exact w1.elim
end
end Dl
/-! The D layer, part 13: methods of own objects; except .. as e. -/
namespace Dl
open PySem PySem.Spec PyProof.Rows L2
structure MetD (P : Program) (w : World) (K : PySem.W.Frag) (mg : Str → Option Value) (base : Heap) (T : CT) (k c : Nat) (m : Str) (n : Nat) (F : List Dat → Res Dat) : Prop where
  ex : ∃ f fd ps, Cls K (T.addr c) ∧ Meth K (T.addr c) m f ∧ Binds K fd ps [] ∧ FnOk P w K mg base (L2.CX P w) k f fd ps (spD K T n F)
def methK (c n : Nat) (F : List Dat → Res Dat) (ds : List Dat) : Dat → Res Dat
  | .obj c' l => if c' = c ∧ ds.length + 1 = n then F (.obj c' l :: ds) else .stuck
  | _ => .stuck
def isObj (c : Nat) : Dat → Bool
  | .obj c' _ => c' == c
  | _ => false
def vMeth (c n : Nat) (F : List Dat → Res Dat) (fo : DEnv → Res Dat) (fs : DEnv → Res (List Dat)) : DEnv → Res Dat := fun ρ => (fo ρ).bind fun x => if isObj c x = true then (fs ρ).bind fun ds => methK c n F ds x else .stuck
theorem lookup_none {m : Str} : ∀ {fs : List (Str × V)}, m ∉ fs.map (·.1) → fs.lookup m = none
  | [], _ => rfl
  | (g, y) :: r, h => by
    rw [List.map_cons, List.mem_cons, not_or] at h
    show (match m == g with | true => some y | false => r.lookup m) = none
    rw [beq_eq_false_iff_ne.mpr h.1]
    exact lookup_none h.2
section
variable {X : Cx} {T : CT} {W : WX} {ow : List Nat} {o e : Expr} {es : List Expr} {pos apos : Pos} {fo : DEnv → Res Dat} {fs : DEnv → Res (List Dat)}
theorem pe_mcall {pl : Sem Bool} {k : Nat} {C f : Addr} {m : Str} {fd : FuncData} {ps : List Str} {sp : Sp} {E : Sg → XK} {ta : TE} {t : TA} (he : PE X o ta) (c : Cls X.K C) (hm : Meth X.K C m f) (F : FnOk X.prog X.w X.K X.mg X.base (L2.CX X.prog X.w) k f fd ps sp) (hr : Room k X.A) (hb : Binds X.K fd ps []) (hx : ∀ σ, PassesAt (L2.CX X.prog X.w) X σ (E σ)) (ha : PA X (e :: es) t)
    (hst : starEach (e :: es) X.env = (false, eval e X.env) :: starEach es X.env) (hpl : (backTo pos (starEach es X.env)).any (·.1) = false)
    (ht : eval (.Call (.Attribute o m apos) (e :: es) [] pos) X.env = (do
      let ov ← eval o X.env
      standAt apos.atName
      let (f, first) ← holding [ov] (getMethod ov m pl)
      callWith pos f first (backTo pos (starEach (e :: es) X.env)) (backToKw pos (keywordEach [] X.env)))) :
    PE X (.Call (.Attribute o m apos) (e :: es) [] pos) (fun σ H Q => ta σ H fun x H1 => ∃ a dx fs, x = .ref a ∧ H1 a = some (.ins C dx fs) ∧ fs.lookup m = none ∧ t σ H1 fun vs H2 => sp (x :: vs) H2 Q (E σ)) :=
  ⟨fun pins s σ H Q I h => PySem.W.methodCall_KW (pl := pl) (thn (he.run pins s σ H _ I h) fun u s1 z => by
    obtain ⟨x, H1, I1, rx, a, dx, fs, ex, ea, l, q⟩ := z
    subst ex
    obtain rfl : u = Value.ref a := rx
    exact getmeth_ok I1 ea c hm l (PySem.W.callWith_K (first := [.ref a]) (h₀ := X.base) I.ok.mod.kin hm.kp (thn (ha.run pos pins s1 σ H1 _ I1 q) fun us s2 ⟨vs, H2, I2, r, q2⟩ => ⟨I2.kIn, run_fnS (us := .ref a :: us) (vs := .ref a :: vs) F hr hb (hx σ) I2 (.cons rfl r) q2⟩) hst hpl)) ht⟩
theorem pe_mcall0 {pl : Sem Bool} {k : Nat} {C f : Addr} {m : Str} {fd : FuncData} {ps : List Str} {sp : Sp} {E : Sg → XK} {ta : TE} (he : PE X o ta) (c : Cls X.K C) (hm : Meth X.K C m f) (F : FnOk X.prog X.w X.K X.mg X.base (L2.CX X.prog X.w) k f fd ps sp) (hr : Room k X.A) (hb : Binds X.K fd ps []) (hx : ∀ σ, PassesAt (L2.CX X.prog X.w) X σ (E σ))
    (ht : eval (.Call (.Attribute o m apos) [] [] pos) X.env = (do
      let ov ← eval o X.env
      standAt apos.atName
      let (f, first) ← holding [ov] (getMethod ov m pl)
      callWith pos f first (backTo pos (starEach [] X.env)) (backToKw pos (keywordEach [] X.env)))) :
    PE X (.Call (.Attribute o m apos) [] [] pos) (fun σ H Q => ta σ H fun x H1 => ∃ a dx fs, x = .ref a ∧ H1 a = some (.ins C dx fs) ∧ fs.lookup m = none ∧ sp [x] H1 Q (E σ)) :=
  ⟨fun pins s σ H Q I h => PySem.W.methodCall_KW (pl := pl) (thn (he.run pins s σ H _ I h) fun u s1 z => by
    obtain ⟨x, H1, I1, rx, a, dx, fs, ex, ea, l, q⟩ := z
    subst ex
    obtain rfl : u = Value.ref a := rx
    exact getmeth_ok I1 ea c hm l (PySem.W.callWith_K0 (first := [.ref a]) I1.kIn hm.kp (run_fnS (us := [.ref a]) (vs := [.ref a]) F hr hb (hx σ) I1 (.cons rfl .nil) q))) ht⟩
theorem want_call {K : PySem.W.Frag} {σ : Sg} {H : Hp} {S : List Addr} {r : Res Dat} {Q : VK} (w : Want K T W σ H S r Q) : Want K T (fun cls d _ H => WE W σ cls d H) [] H S r Q := by
  cases r with
  | ok d => exact w
  | exc c => exact w
  | stuck => exact w
theorem de_meth {pl : Sem Bool} {k j c n : Nat} {m : Str} {F : List Dat → Res Dat} (cm : MetD X.prog X.w X.K X.mg X.base T k c m n F) (hr : Room j X.A) (hk : k ≤ j) (hp : ∀ σ, PassesAt (L2.CX X.prog X.w) X σ (WE W σ)) (hn : m ∉ T.names c) (ho : DE X T W ow o fo) (ha : DA X T W ow (e :: es) fs)
    (hst : starEach (e :: es) X.env = (false, eval e X.env) :: starEach es X.env := by rfl) (hpl : (backTo pos (starEach es X.env)).any (·.1) = false := by rfl)
    (ht : eval (.Call (.Attribute o m apos) (e :: es) [] pos) X.env = (do
      let ov ← eval o X.env
      standAt apos.atName
      let (f, first) ← holding [ov] (getMethod ov m pl)
      callWith pos f first (backTo pos (starEach (e :: es) X.env)) (backToKw pos (keywordEach [] X.env))) := by rfl) :
    DE X T W ow (.Call (.Attribute o m apos) (e :: es) [] pos) (vMeth c n F fo fs) := by
  obtain ⟨f, fd, ps, h1, h2, h3, h4⟩ := cm.ex
  refine pe_imp (pe_mcall (pl := pl) ho h1 h2 h4 (hr.mono hk) h3 hp ha hst hpl ht) fun σ H Q h => ?_
  obtain ⟨ρ, S, re, w⟩ := h
  refine Want.part re w fun x dx H1 w1 re1 e1 rx => ?_
  cases rx with
  | @obj a dx' c' fs' ds' hs hnm rs' =>
    split at w1
    · rename_i hc
      have hc : (c' == c) = true := hc
      obtain rfl : c' = c := eq_of_beq hc
      have hH : H1 a = some (.ins (T.addr c') dx' fs') := hide_ex _ _ hs
      refine ⟨a, dx', fs', rfl, hH, lookup_none (by rw [hnm]; exact hn), ?_⟩
      refine Want.partA re1 w1 fun vs ds H2 w2 re2 e2 rs => ?_
      have w2 : Want X.K T W σ H2 S (if c' = c' ∧ ds.length + 1 = n then F (.obj c' ds' :: ds) else .stuck) Q := w2
      split at w2
      · rename_i hl
        exact ⟨by rw [List.length_cons, rs.length]; exact hl.2, S, .obj c' ds' :: ds, re2.mt, .cons ((Rep.obj hs hnm rs').mono (hide_mono e2)) rs, want_call w2⟩
      · exact w2.elim
    · exact w1.elim
  | _ => exact w1.elim
theorem de_meth0 {pl : Sem Bool} {k j c : Nat} {m : Str} {F : List Dat → Res Dat} (cm : MetD X.prog X.w X.K X.mg X.base T k c m 1 F) (hr : Room j X.A) (hk : k ≤ j) (hp : ∀ σ, PassesAt (L2.CX X.prog X.w) X σ (WE W σ)) (hn : m ∉ T.names c) (ho : DE X T W ow o fo)
    (ht : eval (.Call (.Attribute o m apos) [] [] pos) X.env = (do
      let ov ← eval o X.env
      standAt apos.atName
      let (f, first) ← holding [ov] (getMethod ov m pl)
      callWith pos f first (backTo pos (starEach [] X.env)) (backToKw pos (keywordEach [] X.env))) := by rfl) :
    DE X T W ow (.Call (.Attribute o m apos) [] [] pos) (vMeth c 1 F fo aNil) := by
  obtain ⟨f, fd, ps, h1, h2, h3, h4⟩ := cm.ex
  refine pe_imp (pe_mcall0 (pl := pl) ho h1 h2 h4 (hr.mono hk) h3 hp ht) fun σ H Q h => ?_
  obtain ⟨ρ, S, re, w⟩ := h
  refine Want.part re w fun x dx H1 w1 re1 e1 rx => ?_
  cases rx with
  | @obj a dx' c' fs' ds' hs hnm rs' =>
    split at w1
    · rename_i hc
      have hc : (c' == c) = true := hc
      obtain rfl : c' = c := eq_of_beq hc
      refine ⟨a, dx', fs', rfl, hide_ex _ _ hs, lookup_none (by rw [hnm]; exact hn), ?_⟩
      have w2 : Want X.K T W σ H1 S (if c' = c' ∧ ([] : List Dat).length + 1 = 1 then F [.obj c' ds'] else .stuck) Q := w1
      rw [if_pos ⟨rfl, rfl⟩] at w2
      exact ⟨rfl, S, [.obj c' ds'], re1.mt, .cons (Rep.obj hs hnm rs') .nil, want_call w2⟩
    · exact w1.elim
  | _ => exact w1.elim
end
end Dl
namespace Dl
open PySem PySem.Spec PyProof.Rows L2
def isBD : Dat → Dat → Option Dat
  | .bl a, .bl b => some (.bl (decide (a = b)))
  | _, _ => none
def isnotBD : Dat → Dat → Option Dat
  | .bl a, .bl b => some (.bl (!decide (a = b)))
  | _, _ => none
section
variable {K : PySem.W.Frag} {T : CT}
theorem rd_isB : R2D K T (fun x y H Q => ∃ a b, x = .bl a ∧ y = .bl b ∧ Q (.bl (decide (a = b))) H) isBD := fun S H x y dx dy d Q m rx ry e q => by
  cases rx with
  | bl a =>
    cases ry with
    | bl b =>
      cases e
      exact ⟨a, b, rfl, rfl, q _ H (Ex.refl H) (.bl _)⟩
    | _ => cases e
  | _ => cases ry <;> cases e
theorem rd_isnotB : R2D K T (fun x y H Q => ∃ a b, x = .bl a ∧ y = .bl b ∧ Q (.bl (!decide (a = b))) H) isnotBD := fun S H x y dx dy d Q m rx ry e q => by
  cases rx with
  | bl a =>
    cases ry with
    | bl b =>
      cases e
      exact ⟨a, b, rfl, rfl, q _ H (Ex.refl H) (.bl _)⟩
    | _ => cases e
  | _ => cases ry <;> cases e
end
end Dl
namespace Dl
open PySem PySem.Spec PyProof.Rows L2
/-! ### division by a great negative number, three names at once -/
def CDivX (_ j : Int) : Prop := j ≠ 0 ∧ j.natAbs.log2 < 9000
theorem op_fdivX {X : Cx} : OpR X (binaryOp .FloorDiv) (rI CDivX fun i j => .int (i.fdiv j)) := opI fun _ _ _ _ _ _ _ hc q => floordiv_int hc.1 q (.inl (PyProof.noPylong_of_log2 hc.2))
def fdivXI (i j : Int) : Option Int := if j ≠ 0 ∧ j.natAbs.log2 < 9000 then some (i.fdiv j) else none
def fdivXD := intOp fdivXI
theorem rd_fdivX {K : PySem.W.Frag} {T : CT} : R2D K T (rI CDivX fun i j => .int (i.fdiv j)) fdivXD := rd_int fun i j k Q H e q => by
  unfold fdivXI at e
  split at e
  · rename_i h
    exact ⟨i, j, rfl, rfl, h, by cases e; exact q⟩
  · cases e
def sPar3 (i j l : Nat) (f g h : DEnv → Res Dat) : DEnv → DFlow := fun ρ => rBind (f ρ) ρ fun d => rBind (g ρ) ρ fun e => rBind (h ρ) ρ fun d3 => .nx (((ρ.set i (some d)).set j (some e)).set l (some d3))
section
variable {X : Cx} {T : CT} {W : WX} {ow ow' ob : List Nat} {a b c : Expr} {pos : Pos} {f g h : DEnv → Res Dat}
theorem ds_par3 {i j l : Nat} {x y z : Str} {px py pz pt : Pos} {kt k2 pt2} (hc : X.calm = true) (hN : X.N.Nodup) (ha : DE X T W ow a f) (hb : DE X T W ow b g) (hd : DE X T W ow c h) (hs : ∀ k ∈ ow', k ∈ ow) (hi1 : i ∉ ow') (hj1 : j ∉ ow') (hl1 : l ∉ ow')
    (hw : swappedStores [.Tuple [.Name x px, .Name y py, .Name z pz] kt pt] (.Tuple [a, b, c] k2 pt2) X.env = pure (some [x, y, z]))
    (hi : X.N[i]? = some x := by rfl) (hj : X.N[j]? = some y := by rfl) (hl : X.N[l]? = some z := by rfl) (hij : i ≠ j := by decide) (hil : i ≠ l := by decide) (hjl : j ≠ l := by decide)
    (hx : X.env.scope.names.lookup x = some .local := by rfl) (hy : X.env.scope.names.lookup y = some .local := by rfl) (hz : X.env.scope.names.lookup z = some .local := by rfl)
    (h1 : starEach [a, b, c] X.env = (false, eval a X.env) :: starEach [b, c] X.env := by rfl) (h2 : starEach [b, c] X.env = (false, eval b X.env) :: starEach [c] X.env := by rfl) (h3 : starEach [c] X.env = (false, eval c X.env) :: starEach [] X.env := by rfl)
    (hsw : swapsWithSole [.Tuple [.Name x px, .Name y py, .Name z pz] kt pt] (.Tuple [a, b, c] k2 pt2) pos.line X.env = pure false := by rfl) :
    DS X T W ow ow' ob (.Assign [.Tuple [.Name x px, .Name y py, .Name z pz] kt pt] (.Tuple [a, b, c] k2 pt2) pos) (sPar3 i j l f g h) := ps_imp (ps_par3 hc hN hi hj hl hij hil hjl hx hy hz (pa_cons ha (pa_cons hb (pa_cons hd pa_nil h3) h2) h1) hw hsw) fun D σ H q => by
  obtain ⟨B, B0, ρ, S, rs, w⟩ := q
  refine Wants.part rs w fun v d H1 w1 rs1 e1 r => ?_
  refine Wants.part rs1 w1 fun v2 d2 H2 w2 rs2 e2 r2 => ?_
  refine Wants.part rs2 w2 fun v3 d3 H3 w3 rs3 e3 r3 => ?_
  obtain ⟨rs4, sub⟩ := rs3.less hs
  refine ⟨v, v2, v3, rfl, ?_⟩
  exact Wants.go w3 (((rs4.set hi1 (((r.mono (hide_mono e2)).mono (hide_mono e3)).mono (hide_sub sub))).set hj1 ((r2.mono (hide_mono e3)).mono (hide_sub sub))).set hl1 (r3.mono (hide_sub sub))) (hide_sub sub)
end
end Dl
/-! The D layer, part 14: a list's last item taken; defs that call themselves. -/
namespace Dl
open PySem PySem.Spec PyProof.Rows L2
/-- targets = x.pop(), x's list its own -/
def sPopT (i : Nat) (asg : Dat → DEnv → Option DEnv) : DEnv → DFlow := fun ρ => match ρ[i]? with
  | some (some (.lst l)) => (match l.getLast? with
    | some d => (match asg d (ρ.set i (some (.lst l.dropLast))) with
      | some ρ' => .nx ρ'
      | none => .stuck)
    | none => .stuck)
  | _ => .stuck
theorem Reps.init {K : PySem.W.Frag} {T : CT} {H : Hp} : ∀ {vs : List V} {ds : List Dat}, Reps K T H vs ds → Reps K T H vs.dropLast ds.dropLast
  | _, _, .nil => .nil
  | [_], [_], .cons _ .nil => .nil
  | _ :: _ :: _, _ :: _ :: _, .cons r (.cons r2 rs) => .cons r (Reps.init (.cons r2 rs))
section
variable {X : Cx} {T : CT} {W : WX} {ow ob : List Nat} {pos : Pos}
theorem ds_popT {tg : Expr} {is : List Nat} {asg : Dat → DEnv → Option DEnv} {i : Nat} {x : Str} {apos cpos xp : Pos} (hg : DG X T ow is tg asg) (hd' : ∀ j ∈ ow, j ∉ is) (hsame : ∀ d ρ ρ' j, asg d ρ = some ρ' → j ∉ is → ρ'[j]? = ρ[j]?)
    (hiw : i ∈ ow := by decide) (hN : X.N[i]? = some x := by rfl) (hv : Vis X.env.scope x := by first | exact Or.inl rfl | exact Or.inr (Or.inl rfl) | exact Or.inr (Or.inr rfl)) (hd : (x == ("__debug__" : Str)) = false := by decide)
    (hcd : (x == ("__classdict__" : Str)) = false := by decide) (hbase : attributeBase (.Name x xp) "pop" X.env (eval (.Name x xp) X.env) = eval (.Name x xp) X.env := by rfl) (hline : (apos.endLine == cpos.line) = true := by rfl)
    (hsw : swapsWithSole [tg] (.Call (.Attribute (.Name x xp) "pop" apos) [] [] cpos) pos.line X.env = pure false := by rfl) (hw : swappedStores [tg] (.Call (.Attribute (.Name x xp) "pop" apos) [] [] cpos) X.env = pure none := by rfl) (hae : (assignEach [tg] X.env).map (·.2) = [assign tg X.env] := by rfl) :
    DS X T W ow ow ob (.Assign [tg] (.Call (.Attribute (.Name x xp) "pop" apos) [] [] cpos) pos) (sPopT i asg) :=
  ps_imp (ps_asg (pe_bm0 PySem.F.plainAttrs_list PySem.F.slot_list_pop PySem.F.type_list_pop mt_pop (pe_var hN hv hd hcd) hbase hline) hg hsw hw hae) fun D σ H q => by
    obtain ⟨B, B0, ρ, S, rs, w⟩ := q
    unfold sPopT at w
    split at w
    · rename_i l hl
      obtain ⟨p, vs, h1, h2, h3, h4⟩ := own_at rs hiw hl
      refine ⟨_, h1, .inl ⟨rfl, vs, .inl (.inl h3)⟩, ?_⟩
      split at w
      · rename_i d hlast
        rw [List.getLast?_eq_getElem?] at hlast
        obtain ⟨v, hv1, hv2⟩ := h4.get hlast
        refine ⟨p, vs, v, rfl, rfl, h3, by rw [h4.length]; exact hv1, ?_⟩
        have rs1 := rs.chg hiw hl h1 h2 h4.init
        split at w
        · rename_i ρ' qa
          refine ⟨ρ.set i (some (.lst l.dropLast)), S, d, rs1.re, by rw [hide_upd h2]; exact hv2, ρ', qa, fun σ' re' hsm hlen => ?_⟩
          refine Wants.go w (S' := S) ⟨re', rs1.ex, rs1.sub, rs1.bd, fun j d' p' hj g1 g2 => ?_, rs1.new⟩ (by rw [hide_upd h2]; exact Ex.refl _)
          rw [hsame _ _ _ j qa (hd' j hj)] at g1
          rw [hsm j (hd' j hj)] at g2
          exact rs1.onew j d' p' hj g1 g2
        · exact w.elim
      · exact w.elim
    · exact w.elim
end
/-! ### a def that calls itself: by how deep -/
theorem fnok_none {P : Program} {w : World} {K : PySem.W.Frag} {mg : Str → Option Value} {base : Heap} {T : CT} {k n : Nat} {f : Addr} {fd : FuncData} {ps : List Str} (hn : ps.length = n) : FnOk P w K mg base (L2.CX P w) k f fd ps (spD K T n fun _ => .stuck) :=
  ⟨fun vs H Q E h => h.1.trans hn.symm, fun A outer s H args us vs Q E _ _ _ _ h => by
    obtain ⟨_, S, ds, _, _, z⟩ := h
    exact z.elim⟩
theorem rec_D {P : Program} {w : World} {K : PySem.W.Frag} {mg : Str → Option Value} {base : Heap} {T : CT} {L n : Nat} {x qual : Str} {st : Stmt} {f : Addr} {fd : FuncData} {ps : List Str} {D : Nat → List Dat → Res Dat} (hm : mg x = some (.ref f)) (Fu : Fun K x qual st f fd) (b : Binds K fd ps []) (hn : ps.length = n)
    (h0 : D 0 = fun _ => .stuck) (hs : ∀ m, FnD P w K mg base T (L + m) x n (D m) → FnOk P w K mg base (L2.CX P w) (L + m + 1) f fd ps (spD K T n (D (m + 1)))) : ∀ m, FnD P w K mg base T (L + m) x n (D m)
  | 0 => FnD.mk' hm Fu b (by rw [h0]; exact fnok_none hn)
  | m + 1 => FnD.mk' hm Fu b (hs m (rec_D hm Fu b hn h0 hs m))
end Dl
/-! The D layer, part 15: enumerate over a tuple. -/
namespace Dl
open PySem PySem.Spec PyProof.Rows L2
open AutoSeq1 (wpAny_loadPart')
/-- an enumerate over the tuple at t is made -/
theorem enumT_new (t : Addr) (its : Array Value) (n : Nat) (dct : Option Addr) (sl : Array (Option Value)) :
    Meets (Builtin.«enumerate.__new__» ⟨[.type "enumerate", .ref t], []⟩) (fun _ R s => s.heap.get? t = some { cls := .type "tuple", dict := dct, data := .seq its n, slots := sl } ∧
      R (.ok (.ret (.ref (s.heap.push { cls := .type "tuple_iterator", data := .fields #[.ref t, .int 0 0] }).objs.size)))
        { s with heap := (s.heap.push { cls := .type "tuple_iterator", data := .fields #[.ref t, .int 0 0] }).push { cls := .type "enumerate", data := .fields #[.none, .bool false, .ref s.heap.objs.size, rawInt 0, .none, .none] } }) :=
  .of_wp fun prog w A R s h => by
    obtain ⟨hp, g, d, tk, os⟩ := s; obtain ⟨ht, h⟩ := h
    have sub := sub_enumerate
    have hT : Heap.IsTuple (Shared.heap ⟨hp, g, d, tk, os⟩) t its := ⟨_, ht, rfl, n, rfl⟩
    wp_walk using wpAny_loadPart' ht
    refine wpAny_stack_any fun st => wpAny_pure ?_
    split
    · rename_i c _ _ _ _ _
      cases (c == Value.type "enumerate")
      · wp_walk using wpAny_loadPart' ht, wpAny_pyIter_tuple hT
        exact ⟨_, rfl, h⟩
      · wp_walk using wpAny_loadPart' ht, wpAny_pyIter_tuple hT
        exact ⟨_, rfl, h⟩
    · wp_walk using wpAny_loadPart' ht, wpAny_pyIter_tuple hT
      exact ⟨_, rfl, h⟩
section
variable {prog : Program} {w : World} {A : Around} {E : Value → Shared → Prop} {s : Shared}
theorem call_enumT {t : Addr} {its : Array Value} {Q : Value → Shared → Prop} (hT : s.heap.IsTuple t its)
    (h : ∀ h', IsEnum h' (s.heap.objs.size + 1) s.heap.objs.size 0 .none → h'.IsTupleIter s.heap.objs.size t 0 → h'.objs.size = s.heap.objs.size + 2 →
      (∀ b o, s.heap.get? b = some o → h'.get? b = some o) → Q (.ref (s.heap.objs.size + 1)) { s with heap := h' }) :
    wpAny (model prog w) A (call (.type "enumerate") [.ref t]) Q E s := by
  obtain ⟨⟨c, dct, dt, sl⟩, ht, hc, n, hd⟩ := hT
  obtain rfl : c = .type "tuple" := hc
  obtain rfl : dt = .seq its n := hd
  refine callType_new F.called_enumerate (by decide) (F.typeCall_enumerate_1 _) (F.newCall_enumerate_1 _) (fun obj => F.args_object_init_2 obj _) F.entry_enumerate_new (enumT_new t its n dct sl) ⟨ht, ?_⟩
  have hz : (s.heap.push { cls := .type "tuple_iterator", data := .fields #[.ref t, .int 0 0] }).objs.size = s.heap.objs.size + 1 := Heap.size_push ..
  show _ ∧ _
  rw [hz]
  have he : IsEnum ((s.heap.push { cls := .type "tuple_iterator", data := .fields #[.ref t, .int 0 0] }).push { cls := .type "enumerate", data := .fields #[.none, .bool false, .ref s.heap.objs.size, rawInt 0, .none, .none] }) (s.heap.objs.size + 1) s.heap.objs.size 0 .none := by
    have q := Heap.get?_push_size (s.heap.push { cls := .type "tuple_iterator", data := .fields #[.ref t, .int 0 0] }) (o := { cls := .type "enumerate", data := .fields #[.none, .bool false, .ref s.heap.objs.size, rawInt 0, .none, .none] }) rfl
    rw [hz] at q
    exact q
  exact ⟨⟨_, he, rfl⟩, h _ he ⟨_, Heap.get?_push_of_some _ (Heap.get?_push_size _ rfl), rfl, rfl⟩ (by rw [Heap.size_push, hz]) fun b o x => Heap.get?_push_of_some _ (Heap.get?_push_of_some _ x)⟩
end
theorem draws_tup {prog : Program} {w : World} {A : Around} (hh : A.handled = none) (it t : Addr) (hne : t ≠ it) (its : Array Value) :
    Draws prog w A it [it, t] its.size (fun i v => its[i]? = some v) (fun i h => h.IsTupleIter it t i ∧ h.IsTuple t its) where
  live := fun _ _ st => let ⟨o, ho, _⟩ := st.1; ⟨o, ho⟩
  frame := fun _ _ _ st hk => ⟨st.1.at fun o e => hk it (by simp) o e, let ⟨o, ho, r⟩ := st.2; ⟨o, hk t (by simp) o ho, r⟩⟩
  item := fun i s Q E hi st hQ => by
    obtain ⟨s1, s2⟩ := st
    refine RZ.nextOf_tuple_item s1 s2 (x := its[i]) (by simp [hi]) fun h' a b => ?_
    obtain ⟨o, ho, r⟩ := s2
    exact hQ _ h' s.toks (by simp [hi]) ⟨a, o, (b.2 t hne).trans ho, r⟩ b
  done := fun s Q E st hE => RZ.nextOf_tuple_end hh st.1 st.2 (by simp) hE
end Dl
namespace Dl
open PySem PySem.Spec PyProof.Rows L2
/-- the tuple at a, each item in a new pair -/
def ItT (K : PySem.W.Frag) (a : Addr) : It :=
  ⟨fun i H => ∃ (xs : List V) (x : V), SqT K H a xs ∧ xs[i]? = some x, fun i H v H' => ∃ T o x, v = .ref T ∧ H T = none ∧ TF [.int (i : Nat), x] o ∧ H' = upd H T o ∧ ∀ xs, SqT K H a xs → xs[i]? = some x, fun i H => ∃ xs : List V, SqT K H a xs ∧ xs.length = i⟩
theorem turn_enumT {P : Program} {w : World} {K : PySem.W.Frag} {elts : List Expr} {kk : Nat} {tpos : Pos} (a e it : Addr) (hae : a ≠ e) (hai : a ≠ it) :
    Turn P w K (.Tuple elts kk tpos) (ItT K a) [e, it] e (fun i h => (∃ old, IsEnum h e it ((i : Nat) : Int) old) ∧ h.IsTupleIter it a i ∧ e ≠ it) where
  mem := by simp
  obj := fun i h st b hb => by
    obtain ⟨⟨old, he⟩, ⟨o, ho, hc, hd⟩, _⟩ := st
    rcases (by simpa using hb : b = e ∨ b = it) with z | z
    · rw [z]; exact ⟨_, he, fun v q => nomatch q⟩
    · rw [z]; exact ⟨o, ho, fun v q => by rw [hd] at q; cases q⟩
  keep := fun i h h' st k => let ⟨⟨old, he⟩, hi, hne⟩ := st; ⟨⟨old, k e (by simp) _ he⟩, hi.at fun o q => k it (by simp) o q, hne⟩
  item := by
    intro X hP hw hK hc i pins s σ H E I hf st hg
    subst hP hw hK
    obtain ⟨⟨old, he⟩, hit, hne⟩ := st
    obtain ⟨xs, x, hq, hx⟩ := hg
    obtain ⟨its, rv, p, hz⟩ := I.tuple hq
    obtain ⟨u, hu, ru⟩ := rv.get hx
    have hil : i < its.toArray.size := by
      have := (List.getElem?_eq_some_iff.mp hu).1
      simpa using this
    have le : e < s.heap.objs.size := Heap.lt_size he
    have li : it < s.heap.objs.size := by obtain ⟨_, q, _⟩ := hit; exact Heap.lt_size q
    have D := draws_tup (prog := X.prog) (w := X.w) (A := X.A.in1) (by exact I.ok.hd hc) it a hai its.toArray
    refine wpAny_pyNext_enum_itemD D he ⟨hit, p⟩ hil hne (by simp [hne, hae.symm]) fun y h' tk hy ho hst hT hsz hk => ?_
    have ey : y = u := by
      have hu' : its.toArray[i]? = some u := by simpa using hu
      rw [hu'] at hy
      exact (Option.some.inj hy).symm
    subst ey
    refine ⟨_, rfl, wpAny_letOwnedTupleGo_enum (s := { s with heap := h', toks := tk + 1 }) ho fun h'' he' sb => ?_⟩
    have hT2 : h''.get? s.heap.objs.size = some { cls := .type "tuple", data := .seq #[.int i tk, y] } := (sb.2 _ (Nat.ne_of_gt le)).trans hT
    let ob : Obj := { cls := .type "tuple", data := .seq #[.int i tk, y] }
    have new : ObjOk X.prog X.w (upd H s.heap.objs.size (.frz ob (.tup [.int (i : Nat), x]))) h'' s.heap.objs.size (.frz ob (.tup [.int (i : Nat), x])) :=
      ⟨hT2, by show 2 ≤ sizeLine; decide, [.int i tk, y], .cons ⟨_, rfl⟩ (.cons ru .nil), ⟨_, hT2, rfl, _, rfl⟩⟩
    have J : Inv X pins σ (upd H s.heap.objs.size (.frz ob (.tup [.int (i : Nat), x]))) { s with heap := h'', toks := tk + 1 } :=
      I.turnedNew (ch := [e, it]) (fun b ob hb q => (sb.2 b (fun z => hb (by simp [z]))).trans (hk b ob (fun z => hb (by simp [z])) (fun z => hb (by simp [z])) q)) hf (Nat.le_refl _) new
    refine ⟨.ref s.heap.objs.size, _, J, rfl, ⟨_, _, x, rfl, I.hok.fresh (Nat.le_refl _), ⟨ob, rfl, rfl⟩, rfl, fun ys hy => by rw [I.tuple_inj hy hq]; exact hx⟩, ⟨⟨y, ?_⟩, hst.1.at fun o q => (sb.2 it (Ne.symm hne)).trans q, hne⟩, fun b hb => ?_⟩
    · rw [show ((i + 1 : Nat) : Int) = (i : Int) + 1 by omega]
      exact he'
    · have lb : b < s.heap.objs.size := by
        rcases (by simpa using hb : b = e ∨ b = it) with z | z
        · rw [z]; exact le
        · rw [z]; exact li
      rw [upd_ne (Nat.ne_of_lt lb)]
      exact (hf b hb).1
  done := by
    intro X hP hw hK hc i pins s σ H E I hf st hg
    subst hP hw hK
    obtain ⟨⟨old, he⟩, hit, hne⟩ := st
    obtain ⟨xs, hq, hx⟩ := hg
    obtain ⟨its, rv, p, hz⟩ := I.tuple hq
    obtain ⟨f0, f1, f2, f3, f4, f5⟩ := hf it (by simp)
    have D := draws_tup (prog := X.prog) (w := X.w) (A := X.A.in1) (by exact I.ok.hd hc) it a hai its.toArray
    have en : i = its.toArray.size := by
      rw [List.size_toArray, ← rv.length]
      exact hx.symm
    rw [en] at hit
    exact wpAny_pyNext_enum_endD D he ⟨hit, p⟩ fun h' eb => ⟨rfl, I.turned (t' := s.toks) (fun b o hb q => eb b o hb q) f0 f1 f3 f4 f5⟩
  self := fun A i s Q E st h => let ⟨⟨_, he⟩, _⟩ := st; wpAny_pyIter_enum he h
end Dl
namespace Dl
open PySem PySem.Spec PyProof.Rows L2
def iEnumT (K : PySem.W.Frag) (ta : TA) : TI := fun σ H R => ta σ H fun vs H1 => ∃ a xs, vs = [.ref a] ∧ SqT K H1 a xs ∧ R (ItT K a) H1
theorem pi_enumT {X : Cx} {e : Expr} {ta : TA} {p pos tpos : Pos} {elts : List Expr} {kk : Nat} (hg : Gl X "enumerate") (hm : X.mg "enumerate" = none) (ha : PA X [e] ta) (hs : starEach [e] X.env = [(false, eval e X.env)] := by rfl) :
    PI X (.Tuple elts kk tpos) (.Call (.Name "enumerate" p) [e] [] pos) (iEnumT X.K ta) := by
  refine ⟨fun pins s σ H R I h => ?_⟩
  refine Call_ (ld_blt I hg hm boot_enumerate (PyProof.Rows.callWith_type1 (thn (ha.run pos pins s σ H _ I h) fun us s1 ⟨vs, H1, I1, r1, q1⟩ => ?_) hs rfl))
  obtain ⟨a, xs, rfl, hq, q⟩ := q1
  obtain ⟨u, rfl, ru⟩ := r1.one
  obtain rfl : u = Value.ref a := ru
  obtain ⟨its, rv, pt, hz⟩ := I1.tuple hq
  have la : a < s1.heap.objs.size := by obtain ⟨_, z, _⟩ := pt; exact Heap.lt_size z
  refine call_enumT pt fun h' he hit hsz hk => wpAny_pyIter_enum he ?_
  have I2 : Inv X pins σ H1 { s1 with heap := h' } := I1.kept (t' := s1.toks) hk
  refine ⟨s1.heap.objs.size + 1, [s1.heap.objs.size + 1, s1.heap.objs.size], _, _, H1, rfl, I2, turn_enumT a (s1.heap.objs.size + 1) s1.heap.objs.size (Nat.ne_of_lt (Nat.lt_succ_of_lt la)) (Nat.ne_of_lt la), ⟨⟨.none, he⟩, hit, Nat.succ_ne_self _⟩, fun b hb => ?_, q⟩
  have le : s1.heap.objs.size ≤ b := by
    rcases (by simpa using hb : b = s1.heap.objs.size + 1 ∨ b = s1.heap.objs.size) with z | z
    · rw [z]; exact Nat.le_succ _
    · rw [z]; exact Nat.le_refl _
  exact I1.fpOk le (I1.hok.fresh le)
end Dl
namespace Dl
open PySem PySem.Spec PyProof.Rows L2
/-- the numbered items -/
def numD (l : List Dat) : List Dat := (List.range l.length).map fun i => .tup [.int (i : Nat), l[i]?.getD .non]
def enumK : Dat → Res (List Dat)
  | .tup l => .ok (numD l)
  | _ => .stuck
def gEnum (fa : DEnv → Res Dat) : DEnv → Res (List Dat) := fun ρ => (fa ρ).bind enumK
theorem walk_enumT {K : PySem.W.Frag} {a : Addr} {xs : List V} : Walk (ItT K a) xs.length (fun H => SqT K H a xs) (fun i H v H' => ∃ T o x, v = .ref T ∧ H T = none ∧ TF [.int (i : Nat), x] o ∧ H' = upd H T o ∧ xs[i]? = some x) :=
  ⟨fun i _ hi q => ⟨xs, xs[i], q, by simp [hi]⟩, fun _ q => ⟨xs, q, rfl⟩, fun _ _ _ _ _ q y => by
    obtain ⟨T, o, x, h1, h2, h3, h4, h5⟩ := y
    exact ⟨T, o, x, h1, h2, h3, h4, h5 xs q⟩⟩
theorem src_enumT {K : PySem.W.Frag} {T : CT} {S : List Addr} {H1 : Hp} {vs : List V} {ds : List Dat} {a : Addr} (h : SqT K (hide H1 S) a vs) (rs : Reps K T (hide H1 S) vs ds) : Src K T S (numD ds) (ItT K a) H1 :=
  ⟨_, _, walk_of_eq walk_enumT (by unfold numD; rw [List.length_map, List.length_range]; exact rs.length.symm), fun H' S' e => ex_t hide_ex (ex_t e h), fun i d x H2 H3 S' hi e m y => by
    obtain ⟨P, o, v, rfl, hP, tf, rfl, hv⟩ := y
    have il : i < ds.length := by
      rw [← rs.length]
      exact (List.getElem?_eq_some_iff.mp hv).1
    unfold numD at hi
    rw [List.getElem?_map, List.getElem?_range il] at hi
    cases hi
    obtain ⟨v', h1, h2⟩ := rs.get (List.getElem?_eq_getElem il)
    rw [hv] at h1
    cases h1
    show Ex H2 (upd H2 P o) ∧ Rep K T (hide (upd H2 P o) S') (.ref P) (.tup [.int (i : Nat), ds[i]?.getD .non])
    rw [List.getElem?_eq_getElem il]
    exact ⟨Ex.new hP, rep_newT m hP tf (.cons (.int _) (.cons (h2.mono e) .nil))⟩⟩
section
variable {X : Cx} {T : CT} {W : WX} {ow : List Nat} {e : Expr} {pos p tpos : Pos} {fa : DEnv → Res Dat} {elts : List Expr} {kk : Nat}
theorem di_enum (hm : X.mg "enumerate" = none) (ha : DE X T W ow e fa) (hg : Gl X "enumerate" := by rfl) (hs : starEach [e] X.env = [(false, eval e X.env)] := by rfl) (hs2 : starEach [e] X.env = (false, eval e X.env) :: starEach [] X.env := by rfl) :
    DI X T W ow (.Tuple elts kk tpos) (.Call (.Name "enumerate" p) [e] [] pos) (gEnum fa) := pi_imp (pi_enumT hg hm (pa_cons ha pa_nil hs2) hs) fun σ H R h => by
  obtain ⟨ρ, S, re, w⟩ := h
  refine ⟨ρ, S, re, ?_⟩
  unfold gEnum at w
  cases q : fa ρ with
  | stuck => rw [q] at w; exact w.elim
  | exc c => rw [q] at w; exact w
  | ok d =>
    rw [q] at w
    intro v H1 e1 r
    cases r with
    | tup hs rs => exact ⟨_, _, rfl, ex_t hide_ex hs.sq, w _ H1 e1 (src_enumT hs.sq rs)⟩
    | _ => exact w.elim
end
end Dl
/-! The D layer, part 16: except clauses with names, whose suites ask for the class of the error. -/
namespace Dl
open PySem PySem.Spec PyProof.Rows L2
/-- behind a named clause: slot i is empty again -/
def offE (i : Nat) (D : Ends) : Ends := { nx := fun σ H => D.nx (σ.set i none) H, rt := D.rt, bk := fun σ H => D.bk (σ.set i none) H, ct := fun σ H => D.ct (σ.set i none) H }
abbrev ClA := Value × Nat × (Addr → Value → Option Addr → TS)
/-- what named clauses want of an error -/
def wClA (K : PySem.W.Frag) (U : WX) (D : Ends) : List ClA → WX
  | [] => U
  | q :: r => fun k d σ H => ∃ b, PySem.W.exmOne K k q.1 = some b ∧ (b = true → ∀ a, H a = none → q.2.2 a k d (offE q.2.1 D) (σ.set q.2.1 (some (.ref a))) H) ∧ (b = false → wClA K U D r k d σ H)
inductive ClsA (X : Cx) : List ExceptHandler → List ClA → Prop
  | nil : ClsA X [] []
  | cons {y n : Str} {k : Value} {i : Nat} {ts : Addr → Value → Option Addr → TS} {s₀ : Stmt} {ss : List Stmt} {q q' : Pos} {more : List ExceptHandler} {l : List ClA} (nm : Names X y k) (hi : X.N[i]? = some n) (lo : X.env.kindOf n = some .local)
      (su : ∀ (a : Addr) (o : Obj) (k' : Value) (d : Option Addr) (pn : List (Addr × Obj)), Zc k' d o → (∃ vs, o.data = .fields vs) → PSs (X.suite a ((a, o) :: pn)) (s₀ :: ss) (ts a k' d)) (r : ClsA X more l) :
      ClsA X (.ExceptHandler (some (.Name y q)) (some n) (s₀ :: ss) q' :: more) ((k, i, ts) :: l)
section
variable {X : Cx} {body : List Stmt} {c₀ : ExceptHandler} {cs : List ExceptHandler} {l : List ClA} {pos : Pos} {tb : WX → TS} {U : WX}
theorem ps_tryA (st : X.stack = X.env :: X.outer) (fr : X.env.frame = some X.env.locals) (nd : X.N.Nodup) (tk : Takes X U)
    (hb : ∀ (W : WX) (pn : List (Addr × Obj)) (xe : Value → Shared → Prop), Takes (X.tr pn xe) W → PassesOwn (model X.prog X.w) X.A X.env xe → PSs (X.tr pn xe) body (tb W))
    (hc : ClsA X (c₀ :: cs) l) : PS X (.Try body (c₀ :: cs) [] [] pos) (fun D σ H => tb (wClA X.K U D l) D σ H) := by
  refine ⟨fun pins s σ H D I q => ?_⟩
  have ok := I.ok
  have frs' : X.A.frames = some (X.env :: X.outer) := ok.frames.trans (congrArg some st)
  refine wpAny_Try_except (wpAny_mono ((hb (wClA X.K U D l) (X.pn ++ pins) (fun e s₁ => wpAny (model X.prog X.w) X.A (noteFrame e X.env) (fun _ s₂ => wpAny (model X.prog X.w) X.A (setFlight e none) (fun _ s₃ => wpAny (model X.prog X.w) X.A (handleBy e X.env (c₀ :: cs)) (SP X pins D) X.xe s₃) X.xe s₂) X.xe s₁)
    (fun _ s' ex => ?_) PassesOwn.looking).run [] s σ H D (I.toTry _) q) (fun f s1 g => ?_) (fun _ _ z => z))
  · obtain ⟨a, B, sI, pins', σ', H', k, d, rfl, It, nb, up, sky, na, os, ag, w⟩ := ex
    have It : Inv X pins σ' H' sI := It.ofTry ok
    rw [st] at sky
    show wpAny (model X.prog X.w) X.A (noteFrame (.ref a) X.env) _ _ _
    refine Sky.land Zc.steady frs' fr sky fun hp fl up2 => ?_
    have I2 : Inv X pins σ' H' { s' with heap := hp } := It.landed nb fl.1 (up.trans up2) os ag
    obtain ⟨o, vs, ho, hz, hd⟩ := fl.there
    have off : a ∉ frs (X.env :: X.outer) := fun hm => by
      obtain ⟨_, o', e', no⟩ := fl.2.2.1.mem hm
      rw [ho] at e'
      cases e'
      exact no _ hd
    have nl : a ≠ X.env.locals := fun z => off (List.mem_filterMap.mpr ⟨X.env, List.mem_cons_self, by rw [fr, z]⟩)
    have nf : a ∉ X.fs := fun hm => by
      obtain ⟨e, he, z⟩ := List.mem_filterMap.mp hm
      exact off (List.mem_filterMap.mpr ⟨e, List.mem_cons_of_mem _ he, z⟩)
    have I3 := I2.suite ho hd na nl nf
    have main : ∀ {cs' : List ExceptHandler} {l' : List ClA}, ClsA X cs' l' → wClA X.K U D l' k d σ' H' → wpAny (model X.prog X.w) X.A (handleBy (.ref a) X.env cs') (SP X pins D) X.xe { s' with heap := hp } := by
      intro cs' l' h
      induction h with
      | nil =>
        intro w
        obtain ⟨_, _, _, o2, vs2, t2, _, _, g1, _, g3, g4, _⟩ := id fl
        have last : wpAny (model X.prog X.w) X.A (setFlight (.ref a) X.env.frame) (fun _ s4 => wpAny (model X.prog X.w) X.A (throw (.ref a) : Sem Flow) (SP X pins D) X.xe s4) X.xe { s' with heap := hp } := by
          rw [fr]
          refine HandSPX.setFlight_upZ fl fun h4 g up4 => wpAny_throw (tk _ _ ⟨a, B, sI, pins, σ', H', k, d, rfl, It, nb, (up.trans up2).trans up4, .inr (.inr ?_), na, os, ag, w⟩)
          rw [st]
          exact g
        refine wpAny_handleBy_nil ?_
        unfold PySem.passOn
        refine wpAny_bind (wpAny_field g1 g3 g4 ?_)
        rw [if_neg (by simp)]
        first
          | exact wpAny_bind last
          | exact wpAny_bind (wpAny_pure (wpAny_bind last))
      | @cons y n k0 i ts s₀ ss q q' more l2 nm hi lo su r ih =>
        intro w
        obtain ⟨b, hm, yes, no⟩ := w
        refine wpAny_handleBy_cons (codeAny_handlers_test ?_) (by intro z; cases z)
        have look : PySem.W.Looks (model X.prog X.w) hp (typeOf (.ref a)) k := fun A Q E s kk z => wpAny_typeOf_ref (kk _ _ ho) (by rw [hz.1]; exact z)
        have try1 := PySem.W.exm_one (M := model X.prog X.w) I2.kIn look hm
        have name : ∀ {Q : Value → Shared → Prop} {E : Value → Shared → Prop}, Q k0 { s' with heap := hp } → wpAny (model X.prog X.w) (X.A.mark (some (.ref a))) (eval (.Name y q) X.env) Q E { s' with heap := hp } := fun {Q E} z => by
          obtain ⟨n1, n2, n3⟩ := nm
          rcases n3 with n3 | ⟨n3, n4, n5⟩
          · exact ld_glob (X := X.suite a ((a, o) :: (X.pn ++ pins))) I3 n1 n3 z n2
          · exact ld_blt (X := X.suite a ((a, o) :: (X.pn ++ pins))) I3 n1 n3 n4 z n5 n2
        refine name (try1.here ?_)
        cases b with
        | false => exact ih (no rfl)
        | true =>
          refine codeAny_handlers_suite_as (HandSPX.lands_againZ fl fun h4 fl4 up4 => ?_)
          obtain ⟨o4, vs4, ho4, hz4, hd4⟩ := fl4.there
          have I4 : Inv X pins σ' H' { s' with heap := h4 } := It.landed nb fl4.1 ((up.trans up2).trans up4) os ag
          refine store_ok (X := X.suite a ((a, o4) :: (X.pn ++ pins))) (v := .ref a) (I4.suite ho4 hd4 na nl nf) nd hi (.inl lo) rfl (fun s5 I5 => ?_) (.inr lo)
          refine wpAny_mono ((su a o4 k d (X.pn ++ pins) hz4 ⟨_, hd4⟩).run [] s5 _ H' _ I5 (yes rfl a na)) (fun f s6 g => ?_) (fun _ _ z => z.elim)
          have tidy : ∀ {σ6 : Sg} {H6 : Hp} {Q : Shared → Prop}, Inv (X.suite a ((a, o4) :: (X.pn ++ pins))) [] σ6 H6 s6 → (∀ s7, Inv X pins (σ6.set i none) H6 s7 → Q s7) → wpAny (model X.prog X.w) X.A (do bindName X.env n .none; unbindBehindTheSuite X.env n q') (fun _ s7 => Q s7) X.xe s6 :=
            fun {σ6 H6 Q} I6 z => gone_ok (I6.unsuite ok) nd hi lo z
          cases f with
          | ret u =>
            obtain ⟨v6, σ6, H6, I6, r6, z6⟩ := g
            exact tidy I6 fun s7 I7 => ⟨_, _, _, I7, r6, z6⟩
          | next =>
            obtain ⟨σ6, H6, I6, z6⟩ := g
            exact tidy I6 fun s7 I7 => ⟨_, _, I7, z6⟩
          | brk =>
            obtain ⟨σ6, H6, I6, z6⟩ := g
            exact tidy I6 fun s7 I7 => ⟨_, _, I7, z6⟩
          | cont =>
            obtain ⟨σ6, H6, I6, z6⟩ := g
            exact tidy I6 fun s7 I7 => ⟨_, _, I7, z6⟩
    exact main hc w
  · cases f with
    | ret u =>
      obtain ⟨v, σ', H', I', r, z⟩ := g
      exact ⟨v, σ', H', I'.ofTry ok, r, z⟩
    | next =>
      obtain ⟨σ', H', I', z⟩ := g
      exact wpAny_execs_nil ⟨σ', H', I'.ofTry ok, z⟩
    | brk =>
      obtain ⟨σ', H', I', z⟩ := g
      exact ⟨σ', H', I'.ofTry ok, z⟩
    | cont =>
      obtain ⟨σ', H', I', z⟩ := g
      exact ⟨σ', H', I'.ofTry ok, z⟩
end
/-! ### suites that ask isinstance(e, y) -/
theorem kit_one {K : PySem.W.Frag} {D C : Addr} {b : Bool} (h1 : PySem.W.typeIn K (.ref C) = some (.type "type")) (hd : PySem.W.hasDictIn K C = true) (hcc : PySem.W.subIn K (.ref C) (.ref C) = some true) (h : PySem.W.subIn K (.ref D) (.ref C) = some b) : PySem.W.kitOne K (.ref D) (.ref C) = some b := by
  unfold PySem.W.kitOne
  by_cases z : ((Value.ref D) == (Value.ref C)) = true
  · have e : D = C := Value.ref.inj (beq_iff_eq.mp z)
    subst e
    rw [if_pos z]
    rw [hcc] at h
    exact h
  · rw [if_neg z]
    have hs : (PySem.W.clsIn K C).isSome = true := by
      unfold PySem.W.hasDictIn at hd
      cases q : PySem.W.clsIn K C with
      | none => rw [q] at hd; cases hd
      | some _ => rfl
    show (if ((PySem.W.clsIn K C).isSome && PySem.W.typeIn K (.ref C) == some (.type "type")) = true then PySem.W.subIn K (.ref D) (.ref C) else none) = some b
    rw [if_pos (by rw [hs, h1]; rfl)]
    exact h
/-- the error's class asks rightly -/
def AskE (K : PySem.W.Frag) (T : CT) : Prop := ∀ c, ∃ D, T.exc c = .ref D ∧ ExcC K D
section
variable {X : Cx} {a D C : Addr} {oe : Obj} {pn : List (Addr × Obj)} {i : Nat} {n y : Str} {b : Bool} {p p1 p2 pos : Pos}
def tAsk (i : Nat) (a : Addr) (v : V) : TE := fun σ H Q => σ[i]? = some (some (.ref a)) ∧ Q v H
theorem pe_ask (ec : ExcC X.K D) (hz : Zc (.ref D) none oe) (hf : ∃ vs, oe.data = .fields vs) (hN : X.N[i]? = some n) (hv : Vis X.env.scope n) (hmi : X.mg "isinstance" = none) (hmy : X.mg y = some (.ref C)) (hk : PySem.W.kitOne X.K (.ref D) (.ref C) = some b) (hg : Gl X "isinstance") (hgy : Gl X y)
    (hd : (n == ("__debug__" : Str)) = false) (hcd : (n == ("__classdict__" : Str)) = false) (hdy : (y == ("__debug__" : Str)) = false)
    (h1 : starEach [.Name n p1, .Name y p2] X.env = (false, eval (.Name n p1) X.env) :: starEach [.Name y p2] X.env) (h2 : starEach [.Name y p2] X.env = (false, eval (.Name y p2) X.env) :: starEach [] X.env) (hpl : (backTo pos (starEach [.Name y p2] X.env)).any (·.1) = false) :
    PE (X.suite a ((a, oe) :: pn)) (.Call (.Name "isinstance" p) [.Name n p1, .Name y p2] [] pos) (tAsk i a (.bl b)) :=
  pe_imp (pe_callB (X := X.suite a ((a, oe) :: pn)) (call_isE ec hz hf) hg hmi (by decide +kernel) (pa_cons (X := X.suite a ((a, oe) :: pn)) (pe_var (i := i) hN hv hd hcd) (pa_cons (X := X.suite a ((a, oe) :: pn)) (pe_glob (v := .ref C) hgy hmy rfl hdy) pa_nil h2) h1) (by decide) (by decide) h1 hpl)
    fun σ H Q h => ⟨_, h.1, .ref C, .ref C, b, rfl, fun u z => z, hk, h.2⟩
end
/-- what a named clause's suite gives back for each class -/
def SuA (X : Cx) (T : CT) (i : Nat) (ss : List Stmt) (g : Nat → Dat) : Prop := ∀ (a : Addr) (oe : Obj) (pn : List (Addr × Obj)) (c : Nat), Zc (T.exc c) none oe → (∃ vs, oe.data = .fields vs) → ∃ v, (∀ H, Rep X.K T H v (g c)) ∧ PSs (X.suite a ((a, oe) :: pn)) ss fun D σ H => σ[i]? = some (some (.ref a)) ∧ D.rt v H
section
variable {X : Cx} {T : CT} {i : Nat} {n y : Str} {p p1 p2 pos rp ip : Pos} {C : Value} {m : Nat → Bool}
theorem su_ask (ak : AskE X.K T) (kk : ∀ c, PySem.W.kitOne X.K (T.exc c) C = some (m c)) (hmy : X.mg y = some C) (hmi : X.mg "isinstance" = none) (hC : ∃ A, C = .ref A) (hN : X.N[i]? = some n := by rfl) (hv : Vis X.env.scope n := by first | exact Or.inl rfl | exact Or.inr (Or.inl rfl) | exact Or.inr (Or.inr rfl)) (hg : Gl X "isinstance" := by rfl) (hgy : Gl X y := by rfl)
    (hd : (n == ("__debug__" : Str)) = false := by decide) (hcd : (n == ("__classdict__" : Str)) = false := by decide) (hdy : (y == ("__debug__" : Str)) = false := by decide)
    (h1 : starEach [.Name n p1, .Name y p2] X.env = (false, eval (.Name n p1) X.env) :: starEach [.Name y p2] X.env := by rfl) (h2 : starEach [.Name y p2] X.env = (false, eval (.Name y p2) X.env) :: starEach [] X.env := by rfl) (hpl : (backTo pos (starEach [.Name y p2] X.env)).any (·.1) = false := by rfl) :
    SuA X T i [.Return (some (.Call (.Name "isinstance" p) [.Name n p1, .Name y p2] [] pos)) rp] fun c => .bl (m c) := fun a oe pn c hz hf => by
  obtain ⟨A, rfl⟩ := hC
  obtain ⟨D, e, ec⟩ := ak c
  have k := kk c
  rw [e] at hz k
  exact ⟨.bl (m c), fun _ => .bl _, pss_one (ps_ret (pe_ask ec hz hf hN hv hmi hmy k hg hgy hd hcd hdy h1 h2 hpl))⟩
theorem su_askIf {d e : Dat} {x z : Expr} {vx vz : V} (ak : AskE X.K T) (kk : ∀ c, PySem.W.kitOne X.K (T.exc c) C = some (m c)) (hmy : X.mg y = some C) (hmi : X.mg "isinstance" = none) (hC : ∃ A, C = .ref A) (hx : ∀ X' : Cx, PE X' x (tC vx)) (hzz : ∀ X' : Cx, PE X' z (tC vz)) (rx : ∀ K H, Rep K T H vx d) (rz : ∀ K H, Rep K T H vz e)
    (hN : X.N[i]? = some n := by rfl) (hv : Vis X.env.scope n := by first | exact Or.inl rfl | exact Or.inr (Or.inl rfl) | exact Or.inr (Or.inr rfl)) (hg : Gl X "isinstance" := by rfl) (hgy : Gl X y := by rfl)
    (hd : (n == ("__debug__" : Str)) = false := by decide) (hcd : (n == ("__classdict__" : Str)) = false := by decide) (hdy : (y == ("__debug__" : Str)) = false := by decide)
    (h1 : starEach [.Name n p1, .Name y p2] X.env = (false, eval (.Name n p1) X.env) :: starEach [.Name y p2] X.env := by rfl) (h2 : starEach [.Name y p2] X.env = (false, eval (.Name y p2) X.env) :: starEach [] X.env := by rfl) (hpl : (backTo pos (starEach [.Name y p2] X.env)).any (·.1) = false := by rfl) :
    SuA X T i [.Return (some (.IfExp (.Call (.Name "isinstance" p) [.Name n p1, .Name y p2] [] pos) x z ip)) rp] fun c => if m c then d else e := fun a oe pn c hz hf => by
  obtain ⟨A, rfl⟩ := hC
  obtain ⟨D, e1, ec⟩ := ak c
  have k := kk c
  rw [e1] at hz k
  refine ⟨if m c then vx else vz, fun H => ?_, pss_one (ps_imp (ps_ret (pe_ifExp (pt_val (pe_ask ec hz hf hN hv hmi hmy k hg hgy hd hcd hdy h1 h2 hpl)) (hx _) (hzz _))) fun D σ H h => ?_)⟩
  · show Rep X.K T H (if m c = true then vx else vz) (if m c = true then d else e)
    by_cases q : m c = true
    · rw [if_pos q, if_pos q]
      exact rx _ _
    · rw [if_neg q, if_neg q]
      exact rz _ _
  refine ⟨h.1, m c, rfl, ?_⟩
  have h2 := h.2
  cases q : m c with
  | true => rw [q] at h2; exact h2
  | false => rw [q] at h2; exact h2
end
/-! ### try with named clauses -/
abbrev CatL := List ((Nat → Bool) × (Nat → Dat))
def handA : CatL → Nat → DEnv → DFlow
  | [], c, ρ => .ex c ρ
  | (m, g) :: r, c, ρ => if m c = true then .rt (g c) else handA r c ρ
def sTryA (F : DEnv → DFlow) (l : CatL) : DEnv → DFlow := fun ρ => match F ρ with
  | .ex c ρ' => handA l c ρ'
  | f => f
/-- the clause's wish: the error is of class c, the value of c goes back -/
def tsA (K : PySem.W.Frag) (T : CT) (i : Nat) (m : Nat → Bool) (g : Nat → Dat) : Addr → Value → Option Addr → TS := fun a k d D σ H => ∃ c, k = T.exc c ∧ d = none ∧ (i < σ.length → σ[i]? = some (some (.ref a))) ∧ ∀ v, (∀ H, Rep K T H v (g c)) → D.rt v H
inductive CatD (X : Cx) (T : CT) : List ExceptHandler → CatL → List ClA → Prop
  | nil : CatD X T [] [] []
  | cons {y n : Str} {k : Value} {i : Nat} {m : Nat → Bool} {g : Nat → Dat} {s₀ : Stmt} {ss : List Stmt} {q q' : Pos} {more : List ExceptHandler} {l : CatL} {l' : List ClA} (nm : Names X y k) (hm : ∀ c, PySem.W.exmOne X.K (T.exc c) k = some (m c)) (su : SuA X T i (s₀ :: ss) g) (hi : X.N[i]? = some n) (lo : X.env.kindOf n = some .local)
      (r : CatD X T more l l') : CatD X T (.ExceptHandler (some (.Name y q)) (some n) (s₀ :: ss) q' :: more) ((m, g) :: l) ((k, i, tsA X.K T i m g) :: l')
section
variable {X : Cx} {T : CT} {W : WX} {ow ow' ob : List Nat} {pos : Pos} {F : DEnv → DFlow} {body : List Stmt}
theorem CatD.ok {hds : List ExceptHandler} {l : CatL} {l' : List ClA} (h : CatD X T hds l l') : ClsA X hds l' := by
  induction h with
  | nil => exact .nil
  | @cons y n k i m g s₀ ss q q' more l l' nm hm su hi lo r ih =>
    refine .cons nm hi lo (fun a o k' d pn hz hf => ⟨fun pins s σ H D I h => ?_⟩) ih
    obtain ⟨c, rfl, rfl, h3, h4⟩ := h
    obtain ⟨v, rv, run⟩ := su a o pn c hz hf
    have hlt : i < X.N.length := (List.getElem?_eq_some_iff.mp hi).1
    exact run.run pins s σ H D I ⟨h3 (by rw [show σ.length = X.N.length from I.len]; exact hlt), h4 v rv⟩
theorem ds_tryA {h₀ : ExceptHandler} {hds : List ExceptHandler} {l : CatL} {l' : List ClA} (hs : X.stack = X.env :: X.outer) (hf : X.env.frame = some X.env.locals) (nd : X.N.Nodup) (tk : Takes X W)
    (hb : ∀ (W : WX) (pn : List (Addr × Obj)) (xe : Value → Shared → Prop), Takes (X.tr pn xe) W → PassesOwn (model X.prog X.w) X.A X.env xe → DSs (X.tr pn xe) T W ow ow' ob body F)
    (hh : CatD X T (h₀ :: hds) l l') : DS X T W ow ow' ob (.Try body (h₀ :: hds) [] [] pos) (sTryA F l) :=
  ps_imp (ps_tryA (tb := fun W => tDS X.K T W ow ow' ob F) hs hf nd tk hb hh.ok) fun D σ H q => by
    obtain ⟨B, B0, ρ, S, rs, w⟩ := q
    refine ⟨B, B0, ρ, S, rs, ?_⟩
    unfold sTryA at w
    cases qF : F ρ with
    | ex c ρ' =>
      rw [qF] at w
      intro σ' H' rs' e'
      have w : Wants X.K T W B B0 ow' ob H S D (handA l c ρ') := w
      clear qF hb
      generalize h₀ :: hds = hl at hh
      induction hh with
      | nil => exact w σ' H' rs' e'
      | @cons y n k i m g s₀ ss q q' more l2 l2' nm hm su hi lo r ih =>
        refine ⟨m c, hm c, fun hb' a _ => ?_, fun hb' => ?_⟩
        · have z : handA ((m, g) :: l2) c ρ' = .rt (g c) := if_pos hb'
          rw [z] at w
          refine ⟨c, rfl, rfl, fun hlt => ?_, fun v rv => w v H' rs'.ex (rv _)⟩
          rw [List.length_set] at hlt
          exact List.getElem?_set_self hlt
        · have z : handA ((m, g) :: l2) c ρ' = handA l2 c ρ' := if_neg (by rw [hb']; decide)
          rw [z] at w
          exact ih w w
    | nx ρ2 => rw [qF] at w; exact w
    | bk ρ2 => rw [qF] at w; exact w
    | ct ρ2 => rw [qF] at w; exact w
    | rt d => rw [qF] at w; exact w
    | stuck => rw [qF] at w; exact w
end
end Dl
/-! The D layer, part 17: max, min of a list or a tuple of ints. -/
namespace Dl
open PySem PySem.Spec PyProof.Rows L2
def bestK (f : Int → Int → Int) (l : List Dat) : Option Dat := match intsD l with
  | some (n :: r) => some (.int (r.foldl f n))
  | _ => none
def bestD (f : Int → Int → Int) : List Dat → Option Dat
  | [.lst l] => bestK f l
  | [.frz l] => bestK f l
  | [.tup l] => bestK f l
  | _ => none
def max1D := bestD max
def min1D := bestD min
def rBest (K : PySem.W.Frag) (f : Int → Int → Int) : List V → Hp → VK → Prop := fun vs H Q => ∃ (a : Addr) (n : Int) (r : List Int), vs = [V.ref a] ∧ (SqL K H a ((n :: r).map V.int) ∨ SqT K H a ((n :: r).map V.int)) ∧ Q (.int (r.foldl f n)) H
theorem reads_ints {h : Heap} : ∀ {us : List Value} {ns : List Int}, IntsAre us ns → ReadsAll h us (ns.map .int) []
  | _, _, .nil => .nil
  | _, _, .cons i t r => ReadsAll.cons (Reads.int i t) (reads_ints r)
theorem depth_ints : ∀ ns : List Int, PyData.depthAll (ns.map .int) ≤ 1
  | [] => by decide
  | n :: r => by
    have ih := depth_ints r
    show max (PyData.depth (.int n)) (PyData.depthAll (r.map .int)) ≤ 1
    exact Nat.max_le.mpr ⟨by simp [PyData.depth], ih⟩
theorem alike_ints (ns : List Int) : PySem.W.AlikeAll (ns.map .int) := ⟨fun x hx y hy => by
  obtain ⟨i, _, rfl⟩ := List.mem_map.mp hx
  obtain ⟨j, _, rfl⟩ := List.mem_map.mp hy
  rfl, fun x hx => by
  obtain ⟨i, _, rfl⟩ := List.mem_map.mp hx
  intro z
  cases z⟩
section
variable {X : Cx}
theorem read_int {h : Heap} {v : Value} {m : Int} {bs : List Addr} (r : Reads h v (.int m) bs) : ∃ t, v = .int m t := by
  cases r
  exact ⟨_, rfl⟩
theorem call_max1 (hc : X.calm = true) (hu : X.A.units + 64 < cLine) : CallR X (.builtin "max") (rBest X.K max) := by
  intro pins s σ H vs us Q I r h
  obtain ⟨a, n, ns, rfl, hs, q⟩ := h
  rw [Vals.ref1 r]
  have hd : PyData.depthAll ((n :: ns).map .int) ≤ 1 := depth_ints _
  rcases hs with hs | hs
  · obtain ⟨its, rv, hl, _⟩ := I.list hs
    refine PySem.W.max_list_data (x := .int n) (xs := ns.map .int) (as := []) (I.ok.hd hc) hl.isList (by rw [List.toList_toArray]; exact reads_ints rv.ints) (alike_ints (n :: ns)) (Nat.lt_of_le_of_lt (Nat.add_le_add_left hd _) (by omega)) fun i v h' tk bs e1 e2 hk => ?_
    rw [PySem.W.maxD_ints] at e2
    obtain ⟨t, rfl⟩ := read_int e2
    exact ⟨.int _, H, I.kept hk, ⟨_, rfl⟩, q⟩
  · obtain ⟨its, rv, hl, _⟩ := I.tuple hs
    refine PySem.W.max_tuple_data (x := .int n) (xs := ns.map .int) (as := []) (I.ok.hd hc) hl (by rw [List.toList_toArray]; exact reads_ints rv.ints) (alike_ints (n :: ns)) (Nat.lt_of_le_of_lt (Nat.add_le_add_left hd _) (by omega)) fun i v h' tk bs e1 e2 hk => ?_
    rw [PySem.W.maxD_ints] at e2
    obtain ⟨t, rfl⟩ := read_int e2
    exact ⟨.int _, H, I.kept hk, ⟨_, rfl⟩, q⟩
theorem call_min1 (hc : X.calm = true) (hu : X.A.units + 64 < cLine) : CallR X (.builtin "min") (rBest X.K min) := by
  intro pins s σ H vs us Q I r h
  obtain ⟨a, n, ns, rfl, hs, q⟩ := h
  rw [Vals.ref1 r]
  have hd : PyData.depthAll ((n :: ns).map .int) ≤ 1 := depth_ints _
  rcases hs with hs | hs
  · obtain ⟨its, rv, hl, _⟩ := I.list hs
    refine PySem.W.min_list_data (x := .int n) (xs := ns.map .int) (as := []) (I.ok.hd hc) hl.isList (by rw [List.toList_toArray]; exact reads_ints rv.ints) (alike_ints (n :: ns)) (Nat.lt_of_le_of_lt (Nat.add_le_add_left hd _) (by omega)) fun i v h' tk bs e1 e2 hk => ?_
    rw [PySem.W.minD_ints] at e2
    obtain ⟨t, rfl⟩ := read_int e2
    exact ⟨.int _, H, I.kept hk, ⟨_, rfl⟩, q⟩
  · obtain ⟨its, rv, hl, _⟩ := I.tuple hs
    refine PySem.W.min_tuple_data (x := .int n) (xs := ns.map .int) (as := []) (I.ok.hd hc) hl (by rw [List.toList_toArray]; exact reads_ints rv.ints) (alike_ints (n :: ns)) (Nat.lt_of_le_of_lt (Nat.add_le_add_left hd _) (by omega)) fun i v h' tk bs e1 e2 hk => ?_
    rw [PySem.W.minD_ints] at e2
    obtain ⟨t, rfl⟩ := read_int e2
    exact ⟨.int _, H, I.kept hk, ⟨_, rfl⟩, q⟩
end
section
variable {K : PySem.W.Frag} {T : CT}
theorem rc_best {f : Int → Int → Int} : RcD K T (rBest K f) (bestD f) := fun S H vs ds d Q m rs e q => by
  cases rs with
  | nil => cases e
  | cons r rs =>
    cases rs with
    | cons _ _ => cases r <;> cases e
    | nil =>
      have fin : ∀ {p : Addr} {vs l}, (SqL K H p vs ∨ SqT K H p vs) → Reps K T (hide H S) vs l → bestK f l = some d → rBest K f [.ref p] H Q := fun {p vs l} hs rs e => by
        unfold bestK at e
        split at e
        · rename_i n r z
          cases e
          have := rs.intsD z
          subst this
          exact ⟨p, n, r, rfl, hs, q _ H (Ex.refl H) (.int _)⟩
        · cases e
      cases r with
      | @lst p vs ds hs rs => exact fin (.inl (.inl (.inl (hide_ex _ _ hs)))) rs e
      | @frz p vs ds hs rs => exact fin (.inl (ex_l hide_ex hs)) rs e
      | @tup p vs ds hs rs => exact fin (.inr (ex_t hide_ex hs.sq)) rs e
      | _ => cases e
theorem rc_max1 : RcD K T (rBest K max) max1D := rc_best
theorem rc_min1 : RcD K T (rBest K min) min1D := rc_best
end
end Dl
/-! The D layer, part 18: tuple(range(..)), list(range(..)). -/
namespace Dl
open PySem PySem.Spec PyProof.Rows L2
def rgK (a b : Int) : Res (List Dat) := if (big62 a && big62 b && decide ((b - a).toNat ≤ 2 ^ 24)) = true then .ok (rng a (b - a).toNat) else .stuck
def rg1K : Dat → Res (List Dat)
  | .int j => rgK 0 j
  | _ => .stuck
def rg2K : Dat → Dat → Res (List Dat)
  | .int i, .int j => rgK i j
  | _, _ => .stuck
def vRg1 (mk : List Dat → Dat) (fa : DEnv → Res Dat) : DEnv → Res Dat := fun ρ => (fa ρ).bind fun x => (rg1K x).bind fun l => .ok (mk l)
def vRg2 (mk : List Dat → Dat) (fa fb : DEnv → Res Dat) : DEnv → Res Dat := fun ρ => (fa ρ).bind fun x => (fb ρ).bind fun y => (rg2K x y).bind fun l => .ok (mk l)
section
variable {K : PySem.W.Frag} {T : CT}
theorem reps_rg {H : Hp} (a : Int) : ∀ l : List Nat, Reps K T H (l.map fun i : Nat => V.int (a + (i : Nat))) (l.map fun i : Nat => Dat.int (a + (i : Nat)))
  | [] => .nil
  | i :: r => .cons (.int _) (reps_rg a r)
theorem rgK_ok {a b : Int} {l : List Dat} (h : rgK a b = .ok l) : RgOk a b ∧ l = rng a (b - a).toNat := by
  unfold rgK at h
  split at h
  · rename_i z
    cases h
    rw [Bool.and_eq_true, Bool.and_eq_true, decide_eq_true_iff] at z
    obtain ⟨⟨z1, z2⟩, z3⟩ := z
    obtain ⟨a1, a2⟩ := big62_ok z1
    obtain ⟨b1, b2⟩ := big62_ok z2
    exact ⟨⟨a1, a2, b1, b2, z3⟩, rfl⟩
  · cases h
theorem rgK_not {a b : Int} {c : Nat} (h : rgK a b = .exc c) : False := by
  unfold rgK at h
  split at h <;> cases h
end
section
variable {X : Cx} {T : CT} {W : WX} {ow : List Nat} {a b : Expr} {pos p p2 pos2 : Pos} {fa fb : DEnv → Res Dat}
/-- the end of both: the new object -/
theorem rg_end {σ : Sg} {H : Hp} {S : List Addr} {Q : VK} {i j : Int} {mk : List Dat → Dat} {ho : List V → HO} (w : Want X.K T W σ H S ((rgK i j).bind fun l => .ok (mk l)) Q)
    (rep : ∀ (q : Addr) (l : List Dat) (vs : List V), H q = none → Reps X.K T (hide H S) vs l → Rep X.K T (hide (upd H q (ho vs)) S) (.ref q) (mk l)) : RgOk i j ∧ ∀ q, H q = none → Q (.ref q) (upd H q (ho (rgV i j))) := by
  cases z : rgK i j with
  | ok l =>
    rw [z] at w
    obtain ⟨ok, rfl⟩ := rgK_ok z
    exact ⟨ok, fun q nq => w (.ref q) _ (Ex.new nq) (rep q _ _ nq (reps_rg i _))⟩
  | exc c => exact (rgK_not z).elim
  | stuck =>
    rw [z] at w
    exact w.elim
theorem rg_endT {σ : Sg} {H : Hp} {S : List Addr} {Q : VK} {i j : Int} (m : Hid H S) (w : Want X.K T W σ H S ((rgK i j).bind fun l => .ok (.tup l)) Q) : RgOk i j ∧ nT Q H (rgV i j) := by
  cases z : rgK i j with
  | ok l =>
    rw [z] at w
    obtain ⟨ok, rfl⟩ := rgK_ok z
    exact ⟨ok, fun q o nq t => w (.ref q) _ (Ex.new nq) (rep_newT m nq t (reps_rg i _))⟩
  | exc c => exact (rgK_not z).elim
  | stuck =>
    rw [z] at w
    exact w.elim
theorem de_tupRg1 (hmt : X.mg "tuple" = none) (hmr : X.mg "range" = none) (hc : X.calm = true) (ha : DE X T W ow a fa) (hgt : Gl X "tuple" := by rfl) (hgr : Gl X "range" := by rfl) (na : starEach [a] X.env = (false, eval a X.env) :: starEach [] X.env := by rfl)
    (ne : starEach [.Call (.Name "range" p) [a] [] pos] X.env = (false, eval (.Call (.Name "range" p) [a] [] pos) X.env) :: starEach [] X.env := by rfl) : DE X T W ow (.Call (.Name "tuple" p2) [.Call (.Name "range" p) [a] [] pos] [] pos2) (vRg1 .tup fa) :=
  pe_imp (pe_tupRgN hc hgt hmt (prg_1 hgr hmr ha na) ne) fun σ H Q h => by
    obtain ⟨ρ, S, re, w⟩ := h
    refine Want.part re w fun x dx H1 w1 re1 e1 rx => ?_
    cases rx with
    | int j => exact ⟨j, rfl, rg_endT re1.mt w1⟩
    | _ => exact w1.elim
theorem de_tupRg2 (hmt : X.mg "tuple" = none) (hmr : X.mg "range" = none) (hc : X.calm = true) (ha : DE X T W ow a fa) (hb : DE X T W ow b fb) (hgt : Gl X "tuple" := by rfl) (hgr : Gl X "range" := by rfl) (na : starEach [a, b] X.env = (false, eval a X.env) :: starEach [b] X.env := by rfl)
    (nb : starEach [b] X.env = (false, eval b X.env) :: starEach [] X.env := by rfl) (hp : (backTo pos (starEach [b] X.env)).any (·.1) = false := by rfl)
    (ne : starEach [.Call (.Name "range" p) [a, b] [] pos] X.env = (false, eval (.Call (.Name "range" p) [a, b] [] pos) X.env) :: starEach [] X.env := by rfl) : DE X T W ow (.Call (.Name "tuple" p2) [.Call (.Name "range" p) [a, b] [] pos] [] pos2) (vRg2 .tup fa fb) :=
  pe_imp (pe_tupRgN hc hgt hmt (prg_2 hgr hmr ha hb na nb hp) ne) fun σ H Q h => by
    obtain ⟨ρ, S, re, w⟩ := h
    refine Want.part re w fun x dx H1 w1 re1 e1 rx => ?_
    refine Want.part re1 w1 fun y dy H2 w2 re2 e2 ry => ?_
    cases rx with
    | int i =>
      cases ry with
      | int j => exact ⟨i, j, rfl, rfl, rg_endT re2.mt w2⟩
      | _ => exact w2.elim
    | _ => cases ry <;> exact w2.elim
theorem de_lstRg1 (hmt : X.mg "list" = none) (hmr : X.mg "range" = none) (hc : X.calm = true) (ha : DE X T W ow a fa) (hgt : Gl X "list" := by rfl) (hgr : Gl X "range" := by rfl) (na : starEach [a] X.env = (false, eval a X.env) :: starEach [] X.env := by rfl)
    (ne : starEach [.Call (.Name "range" p) [a] [] pos] X.env = (false, eval (.Call (.Name "range" p) [a] [] pos) X.env) :: starEach [] X.env := by rfl) : DE X T W ow (.Call (.Name "list" p2) [.Call (.Name "range" p) [a] [] pos] [] pos2) (vRg1 .lst fa) :=
  pe_imp (pe_listRg hc hgt hmt (prg_1 hgr hmr ha na) ne) fun σ H Q h => by
    obtain ⟨ρ, S, re, w⟩ := h
    refine Want.part re w fun x dx H1 w1 re1 e1 rx => ?_
    cases rx with
    | int j => exact ⟨j, rfl, rg_end (ho := .lst) w1 fun q l vs nq rs => rep_newL re1.mt nq rs⟩
    | _ => exact w1.elim
theorem de_lstRg2 (hmt : X.mg "list" = none) (hmr : X.mg "range" = none) (hc : X.calm = true) (ha : DE X T W ow a fa) (hb : DE X T W ow b fb) (hgt : Gl X "list" := by rfl) (hgr : Gl X "range" := by rfl) (na : starEach [a, b] X.env = (false, eval a X.env) :: starEach [b] X.env := by rfl)
    (nb : starEach [b] X.env = (false, eval b X.env) :: starEach [] X.env := by rfl) (hp : (backTo pos (starEach [b] X.env)).any (·.1) = false := by rfl)
    (ne : starEach [.Call (.Name "range" p) [a, b] [] pos] X.env = (false, eval (.Call (.Name "range" p) [a, b] [] pos) X.env) :: starEach [] X.env := by rfl) : DE X T W ow (.Call (.Name "list" p2) [.Call (.Name "range" p) [a, b] [] pos] [] pos2) (vRg2 .lst fa fb) :=
  pe_imp (pe_listRg hc hgt hmt (prg_2 hgr hmr ha hb na nb hp) ne) fun σ H Q h => by
    obtain ⟨ρ, S, re, w⟩ := h
    refine Want.part re w fun x dx H1 w1 re1 e1 rx => ?_
    refine Want.part re1 w1 fun y dy H2 w2 re2 e2 ry => ?_
    cases rx with
    | int i =>
      cases ry with
      | int j => exact ⟨i, j, rfl, rfl, rg_end (ho := .lst) w2 fun q l vs nq rs => rep_newL re2.mt nq rs⟩
      | _ => exact w2.elim
    | _ => cases ry <;> exact w2.elim
end
end Dl
/-! The D layer, part 19: x, y = [..], e by way of a tuple, the new list x's own. -/
namespace Dl
open PySem PySem.Spec PyProof.Rows L2
section
variable {X : Cx} {T : CT} {W : WX} {ow ow' ob : List Nat} {a b : Expr} {g : DEnv → Res Dat}
theorem ds_parOT {f : DEnv → Res (List Dat)} {i j : Nat} {x y : Str} {px py pt pos : Pos} {kt k2 pt2} (hc : X.calm = true) (hN : X.N.Nodup) (ha : DF X T W ow a f) (hb : DE X T W ow b g) (hs : ∀ k ∈ ow', k ∈ ow) (hi1 : i ∉ ow') (hj1 : j ∉ i :: ow')
    (hi : X.N[i]? = some x := by rfl) (hj : X.N[j]? = some y := by rfl) (hij : i ≠ j := by decide) (hx : Loc X.env.scope x := by first | exact .inl rfl | exact .inr rfl) (hy : Loc X.env.scope y := by first | exact .inl rfl | exact .inr rfl)
    (hfx : X.fn x = true ∨ X.env.scope.names.lookup x = some .local := by first | exact .inl rfl | exact .inr rfl) (hfy : X.fn y = true ∨ X.env.scope.names.lookup y = some .local := by first | exact .inl rfl | exact .inr rfl)
    (h1 : starEach [a, b] X.env = (false, eval a X.env) :: starEach [b] X.env := by rfl) (h2 : starEach [b] X.env = (false, eval b X.env) :: starEach [] X.env := by rfl) (hsw : swapsWithSole [.Tuple [.Name x px, .Name y py] kt pt] (.Tuple [a, b] k2 pt2) pos.line X.env = pure false := by rfl)
    (hw : swappedStores [.Tuple [.Name x px, .Name y py] kt pt] (.Tuple [a, b] k2 pt2) X.env = pure none := by rfl) (hae : (assignEach [.Tuple [.Name x px, .Name y py] kt pt] X.env).map (·.2) = [assign (.Tuple [.Name x px, .Name y py] kt pt) X.env] := by rfl)
    (ht1 : (assignEach [.Name x px, .Name y py] X.env).map (·.2) = assign (.Name x px) X.env :: (assignEach [.Name y py] X.env).map (·.2) := by rfl) (ht2 : (assignEach [.Name y py] X.env).map (·.2) = assign (.Name y py) X.env :: (assignEach [] X.env).map (·.2) := by rfl)
    (hn : (assignEach [.Name x px, .Name y py] X.env).length = 2 := by rfl) (hst : (assignEach [.Name x px, .Name y py] X.env).findIdx? (·.1) = none := by rfl) :
    DS X T W ow (i :: ow') ob (.Assign [.Tuple [.Name x px, .Name y py] kt pt] (.Tuple [a, b] k2 pt2) pos) (sParO i j f g) :=
  ps_imp (ps_asg (pe_tup (pa_cons (te := tDF X.K T W ow f) ha (pa_cons hb pa_nil h2) h1)) (pg_tup hc (pgs_cons (pg_name hN hi hx hfx) (pgs_cons (pg_name hN hj hy hfy) pgs_nil ht2) ht1) hn hst) hsw hw hae) fun D σ H q => by
  obtain ⟨B, B0, ρ, S, rs, w⟩ := q
  refine Wants.partF rs w fun p vs ds H1 w1 rs1 e1 n hp r => ?_
  have pB : B p = none := rs.ex.fresh n
  have rsm : RS X.K T B B0 ow σ ρ H1 (p :: S) := ⟨rs.re.more e1 n ⟨_, hp, rfl⟩, rs.ex.trans e1, fun q hq => List.mem_cons_of_mem _ (rs.sub q hq), rs.bd, rs.onew, fun q hq => (List.mem_cons.mp hq).elim (fun z => by rw [z]; exact .inr pB) (rs.new q)⟩
  refine Wants.part rsm (w1.mono (hide_new e1 n)) fun v2 d2 H2 w2 rs2 e2 r2 => ?_
  show [V.ref p, v2].length ≤ sizeLine ∧ _
  refine ⟨show 2 ≤ sizeLine by decide, fun t nt => ⟨t, [.ref p, v2], rfl, .inl (.inl upd_same), rfl, .ref p, [v2], rfl, v2, [], rfl, rfl, ?_⟩⟩
  have e3 : Ex H2 (upd H2 t (.tup [.ref p, v2])) := Ex.new nt
  obtain ⟨rs3, sub⟩ := rs.less hs
  have sub2 : ∀ q ∈ p :: (B0 ++ ownA ow' σ ρ), q ∈ p :: S := fun q hq => (List.mem_cons.mp hq).elim (fun z => by rw [z]; exact List.mem_cons_self) fun z => List.mem_cons_of_mem _ (sub q z)
  have rs4 := rs3.own hi1 ((e1.trans e2).trans e3) n (e3 _ _ (e2 _ _ hp)) ((r.mono (hide_mono (e2.trans e3))).mono (hide_sub sub2))
  exact Wants.go w2 (rs4.set hj1 ((r2.mono (hide_mono e3)).mono (hide_sub sub2))) ((hide_mono e3).trans (hide_sub sub2))
end
end Dl
/-! The D layer, part 20: slices with steps of lists. -/
namespace Dl
open PySem PySem.Spec PyProof.Rows L2
def pickL {α : Type} (l : List α) (lo hi : Option Int) (st : Int) : List α :=
  (sliceRange (sliceBounds lo hi (some st) l.length).1 (sliceBounds lo hi (some st) l.length).2.1 (sliceBounds lo hi (some st) l.length).2.2).filterMap (l[·]?)
theorem pickL_arr {α : Type} (l : List α) (lo hi : Option Int) (st : Int) : pickL l lo hi st = (sliceRange (sliceBounds lo hi (some st) l.toArray.size).1 (sliceBounds lo hi (some st) l.toArray.size).2.1 (sliceBounds lo hi (some st) l.toArray.size).2.2).filterMap (l.toArray[·]?) := by
  unfold pickL
  rw [List.size_toArray]
  congr 1
  funext x
  simp
theorem pickL_le (l : List Value) (lo hi : Option Int) (st : Int) : (pickL l lo hi st).length ≤ l.length := by
  have := slicePick_size_le l.toArray lo hi (some st)
  unfold slicePick at this
  rw [List.size_toArray, ← pickL_arr, List.size_toArray] at this
  exact this
theorem vals_idx {xs : List V} {us : List Value} (r : Vals xs us) : ∀ (l : List Nat), Vals (l.filterMap fun m => xs[m]?) (l.filterMap fun m => us[m]?)
  | [] => .nil
  | m :: l => by
    rw [List.filterMap_cons, List.filterMap_cons]
    cases q : xs[m]? with
    | none =>
      rw [r.none_of q]
      exact vals_idx r l
    | some x =>
      obtain ⟨u, h1, h2⟩ := r.get q
      rw [h1]
      exact .cons h2 (vals_idx r l)
theorem vals_pickL {xs : List V} {us : List Value} (r : Vals xs us) (lo hi : Option Int) (st : Int) : Vals (pickL xs lo hi st) (pickL us lo hi st) := by
  unfold pickL
  rw [r.length]
  exact vals_idx r _
theorem Reps.idx {K : PySem.W.Frag} {T : CT} {H : Hp} {xs : List V} {us : List Dat} (r : Reps K T H xs us) : ∀ (l : List Nat), Reps K T H (l.filterMap fun m => xs[m]?) (l.filterMap fun m => us[m]?)
  | [] => .nil
  | m :: l => by
    rw [List.filterMap_cons, List.filterMap_cons]
    cases q : us[m]? with
    | none =>
      have : xs[m]? = none := List.getElem?_eq_none_iff.mpr (by rw [r.length]; exact List.getElem?_eq_none_iff.mp q)
      rw [this]
      exact Reps.idx r l
    | some d =>
      obtain ⟨u, h1, h2⟩ := r.get q
      rw [h1]
      exact .cons h2 (Reps.idx r l)
theorem Reps.pickL {K : PySem.W.Frag} {T : CT} {H : Hp} {xs : List V} {us : List Dat} (r : Reps K T H xs us) (lo hi : Option Int) (st : Int) : Reps K T H (pickL xs lo hi st) (pickL us lo hi st) := by
  unfold Dl.pickL
  rw [r.length]
  exact r.idx _
def tStepL (K : PySem.W.Frag) (ta : TE) (tl th ts : TO) : TE := fun σ H Q => ta σ H fun x H1 => tl σ H1 fun l H2 => th σ H2 fun h H3 => ts σ H3 fun s H4 => ∃ a xs st, x = .ref a ∧ s = some st ∧ SqL K H4 a xs ∧ st ≠ 0 ∧ ∀ p, H4 p = none → Q (.ref p) (upd H4 p (.lst (pickL xs l h st)))
section
variable {X : Cx} {T : CT} {W : WX} {ow : List Nat} {e a b c : Expr} {pos p2 : Pos} {f fa : DEnv → Res Dat} {lo hi : Option Expr} {est : Expr} {fl fh fs : DEnv → Res (Option Int)}
theorem pe_stepL {ta : TE} {tl th ts : TO} (he : PE X e ta) (hl : PO X lo tl) (hh : PO X hi th) (hs : PO X (some est) ts) : PE X (.Subscript e (.Slice lo hi (some est) p2) pos) (tStepL X.K ta tl th ts) := by
  refine ⟨fun pins s σ H Q I h => ?_⟩
  refine Subscript_ (thn (he.run pins s σ H _ I h) fun v s1 ⟨x, H1, I1, r1, q1⟩ => ?_)
  refine wpAny_Slice (thn (hl.run pins s1 σ H1 _ I1 q1) fun vl s2 ⟨l, H2, I2, pl, q2⟩ => thn (hh.run pins s2 σ H2 _ I2 q2) fun vu s3 ⟨u, H3, I3, pu, q3⟩ => thn (hs.run pins s3 σ H3 _ I3 q3) fun vs s4 ⟨o, H4, I4, ps, q4⟩ => ?_)
  obtain ⟨a, xs, st, rfl, rfl, hx, h0, q⟩ := q4
  cases r1
  cases ps with
  | int _ tk =>
    have I5 : Inv X pins σ H4 { s4 with heap := s4.heap.push { cls := .type "slice", data := .fields #[vl, vu, .int st tk] } } := I4.kept (t' := s4.toks) fun b ob q => Heap.get?_push_of_some _ q
    obtain ⟨its, r, ht, hz⟩ := I5.list hx
    show wpAny (model X.prog X.w) X.A (subscriptTail e (.Slice lo hi (some est) p2) (.ref a) (.ref s4.heap.objs.size)) (EP X pins σ Q) X.xe { s4 with heap := s4.heap.push { cls := .type "slice", data := .fields #[vl, vu, .int st tk] } }
    have hpick : Vals (pickL xs l u st) (slicePick its.toArray l u (some st)).toList := by
      unfold slicePick
      rw [List.toList_toArray, ← pickL_arr]
      exact vals_pickL r l u st
    have hlen : (pickL xs l u st).length ≤ sizeLine := by
      have := pickL_le its l u st
      rw [← (vals_pickL r l u st).length, ← r.length] at this
      exact Nat.le_trans this hz
    refine tail_any (ops := [.ref a, .ref s4.heap.objs.size]) ht.isList.typeIs list_getitem_lookup ?_ (by with_unfolding_all rfl)
    refine wpAny_getItem_list_slice ht.isList (Heap.IsSliceOf.new _ vl vu (.int st tk)) pl pu (.int st tk) (fun z => h0 (Option.some.inj z)) ?_ (by rw [List.size_toArray, ← r.length]; exact hz)
    refine ⟨.ref _, _, I5.laid (t' := s4.toks) (o := .lst (pickL xs l u st)) (fun b ob q => Heap.get?_push_of_some _ q) (Nat.le_refl _) ?_, rfl, q _ (I5.hok.fresh (Nat.le_refl _))⟩
    exact ⟨hlen, _, _, hpick, by rw [Array.toArray_toList]; exact Heap.get?_push_size _ rfl⟩
def stepL (l h s : Option Int) : Dat → Option Dat
  | .lst xs => match s with
    | some st => if st ≠ 0 then some (.lst (pickL xs l h st)) else none
    | none => none
  | _ => none
def stepA (l h s : Option Int) : Dat → Option Dat
  | .lst xs => stepL l h s (.lst xs)
  | d => stepK l h s d
def isLstR : Res Dat → Bool
  | .ok (.lst _) => true
  | _ => false
/-- a slice with a step, of a tuple or a list -/
def vStepA (fa : DEnv → Res Dat) (fl fh fs : DEnv → Res (Option Int)) : DEnv → Res Dat := fun ρ => (fa ρ).bind fun x => (fl ρ).bind fun l => (fh ρ).bind fun h => (fs ρ).bind fun s => ofO (stepA l h s x)
theorem pe_either {e : Expr} {t u : TE} (h : PE X e t) (k : PE X e u) : PE X e fun σ H Q => t σ H Q ∨ u σ H Q := ⟨fun pins s σ H Q I q => q.elim (h.run pins s σ H Q I) (k.run pins s σ H Q I)⟩
theorem de_stepA (ha : DE X T W ow e fa) (hl : DO X T W ow lo fl) (hh : DO X T W ow hi fh) (hs : DO X T W ow (some est) fs) : DE X T W ow (.Subscript e (.Slice lo hi (some est) p2) pos) (vStepA fa fl fh fs) :=
  pe_imp (pe_either (de_step ha hl hh hs) (pe_stepL ha hl hh hs)) fun σ H Q h => by
  obtain ⟨ρ, S, re, w⟩ := h
  cases z : isLstR (fa ρ) with
  | false =>
    refine .inl ⟨ρ, S, re, ?_⟩
    unfold vStep
    unfold vStepA at w
    cases q : fa ρ with
    | ok x =>
      rw [q] at w z
      cases x <;> first | exact w | cases z
    | exc c => rw [q] at w; exact w
    | stuck => rw [q] at w; exact w
  | true =>
    refine .inr ?_
    cases q : fa ρ with
    | exc c => rw [q] at z; cases z
    | stuck => rw [q] at z; cases z
    | ok x =>
      rw [q] at z
      unfold vStepA at w
      rw [q] at w
      cases x with
      | lst xs0 =>
        have w0 : Want X.K T W σ H S ((fa ρ).bind fun x => (fl ρ).bind fun l => (fh ρ).bind fun h => (fs ρ).bind fun s => ofO (stepL l h s x)) Q := by rw [q]; exact w
        refine Want.part re w0 fun x dx H1 w1 re1 e1 rx => ?_
        refine Want.partO re1 w1 fun l H2 w2 re2 e2 => ?_
        refine Want.partO re2 w2 fun h H3 w3 re3 e3 => ?_
        refine Want.partO re3 w3 fun s H4 w4 re4 e4 => ?_
        have rx4 := ((rx.mono (hide_mono e2)).mono (hide_mono e3)).mono (hide_mono e4)
        cases rx4 with
        | @lst p vs ds hs rs =>
          cases s with
          | none => exact w4.elim
          | some st =>
            have w5 : Want X.K T W σ H4 S (ofO (if st ≠ 0 then some (.lst (pickL ds l h st)) else none)) Q := w4
            by_cases zz : st ≠ 0
            · rw [if_pos zz] at w5
              exact ⟨p, vs, st, rfl, rfl, .inl (.inl (hide_ex _ _ hs)), zz, fun p2 np => w5 _ _ (Ex.new np) (rep_newL re4.mt np (rs.pickL l h st))⟩
            · rw [if_neg zz] at w5
              exact w5.elim
        | _ => exact w4.elim
      | _ => cases z
end
end Dl
/-! The D layer, part 21: list.count; two own lists at once. -/
namespace Dl
open PySem PySem.Spec PyProof.Rows L2
def countD : Dat → Dat → Option Dat
  | .lst l, y => if (isFlat y && l.all isFlat) = true then some (.int ((l.countP fun e => eqvD e y) : Nat)) else none
  | _, _ => none
def isLst : Dat → Bool
  | .lst _ => true
  | _ => false
def vCnt (fo fa : DEnv → Res Dat) : DEnv → Res Dat := fun ρ => (fo ρ).bind fun x => if isLst x = true then (fa ρ).bind fun y => ofO (countD x y) else .stuck
def rCntF (K : PySem.W.Frag) : V → List V → Hp → VK → Prop := fun x xs H Q => ∃ (p : Addr) (vs : List V) (y : V), x = .ref p ∧ xs = [y] ∧ SqL K H p vs ∧ flatV y = true ∧ vs.all flatV = true ∧ Q (.int ((vs.countP fun e => eqV e y) : Nat)) H
section
variable {X : Cx}
theorem count_eqU {x : V} : ∀ {xs : List V} {us : List Value}, Vals xs us → xs.all flatV = true → us.countP (eqU x) = xs.countP fun y => eqV y x
  | _, _, .nil, _ => rfl
  | y :: xs, u :: us, .cons r t, f => by
    rw [List.all_cons, Bool.and_eq_true] at f
    rw [List.countP_cons, List.countP_cons, count_eqU t f.2, eqU_of r f.1]
theorem mt_countF : MtR X "list.count" (rCntF X.K) := by
  intro pins s σ H x xs v us Q I rx rxs h
  obtain ⟨p, vs, y, rfl, rfl, hs, fy, fs, q⟩ := h
  cases rx
  obtain ⟨u, rfl, ru⟩ := rxs.one
  obtain ⟨its, rv, ⟨⟨cls, dd, data, sl⟩, n, ho, hc, hdn, hd⟩, hlen⟩ := I.list hs
  simp only at hc hd
  subst hc hd
  refine call_meets PySem.F.slot_list_count ⟨_, ho, rfl⟩ PySem.F.entry_list_count (PySem.F.args_list_count_2 _ _)
    (SeqAt.list_countAt p its.toArray n dd sl u (eqU y)) ⟨ho, fun z hz => mem_eqAt ru fy rv fs z (by simpa using hz), ?_⟩
  have ec : its.toArray.toList.countP (eqU y) = vs.countP fun e => eqV e y := by rw [List.toList_toArray]; exact count_eqU rv fs
  refine ⟨.int ((vs.countP fun e => eqV e y) : Nat), H, I.tok _, ⟨s.toks, ?_⟩, q⟩
  rw [ec]
end
section
variable {K : PySem.W.Frag} {T : CT}
theorem count_rep {H : Hp} {x : V} {d : Dat} (s : Rep K T H x d) (f : isFlat d = true) : ∀ {xs : List V} {ds : List Dat}, Reps K T H xs ds → ds.all isFlat = true → (xs.countP fun e => eqV e x) = ds.countP fun e => eqvD e d
  | _, _, .nil, _ => rfl
  | _, e :: es, .cons r rs, g => by
    have g' : isFlat e = true ∧ es.all isFlat = true := by
      rw [List.all_cons, Bool.and_eq_true] at g
      exact g
    rw [List.countP_cons, List.countP_cons, count_rep s f rs g'.2, eqV_rep r s f g'.1]
end
section
variable {X : Cx} {T : CT} {W : WX} {ow : List Nat} {o e : Expr} {fo fa : DEnv → Res Dat} {apos pos : Pos}
theorem de_count (ho : DE X T W ow o fo) (he : DE X T W ow e fa) (hs : starEach [e] X.env = (false, eval e X.env) :: starEach [] X.env := by rfl) (hbase : attributeBase o "count" X.env (eval o X.env) = eval o X.env := by rfl) (hline : (apos.endLine == pos.line) = true := by rfl)
    (hfew : ((backTo pos (starEach [e] X.env)).all (fun x => !x.1) && (backToKw pos (keywordEach [] X.env)).all (fun x => x.1.isSome) && decide ([e].length + ([] : List Keyword).length + (if ([] : List Keyword).isEmpty then 0 else 1) < 30)) = true := by rfl)
    (hpl : (backTo pos (starEach [] X.env)).any (·.1) = false := by rfl) :
    DE X T W ow (.Call (.Attribute o "count" apos) [e] [] pos) (vCnt fo fa) := pe_imp (pe_bm (T := "list") PySem.F.plainAttrs_list PySem.F.slot_list_count PySem.F.type_list_count mt_countF ho (pa_cons he pa_nil hs) hbase hfew hline hs hpl) fun σ H Q h => by
  obtain ⟨ρ, S, re, w⟩ := h
  refine Want.part re w fun x dx H1 w1 re1 e1 rx => ?_
  cases rx with
  | @lst p vs ds hs rs =>
    refine ⟨.inl ⟨rfl, vs, .inl (.inl (hide_ex _ _ hs))⟩, ?_⟩
    refine Want.part re1 w1 fun y dy H2 w2 re2 e2 ry => ?_
    have w3 : Want X.K T W σ H2 S (ofO (if (isFlat dy && ds.all isFlat) = true then some (.int ((ds.countP fun e => eqvD e dy) : Nat)) else none)) Q := w2
    by_cases z : (isFlat dy && ds.all isFlat) = true
    · rw [if_pos z] at w3
      rw [Bool.and_eq_true] at z
      have rs2 := rs.mono (hide_mono e2)
      refine ⟨p, vs, y, rfl, rfl, .inl (.inl (e2 _ _ (hide_ex _ _ hs))), by rw [flat_rep ry]; exact z.1, by rw [flats_rep rs2]; exact z.2, ?_⟩
      rw [count_rep ry z.1 rs2 z.2]
      exact w3 _ H2 (Ex.refl H2) (.int _)
    · rw [if_neg z] at w3
      exact w3.elim
  | _ => exact w1.elim
end
section
variable {X : Cx} {T : CT} {W : WX} {ow ow' ob : List Nat} {a b : Expr}
/-- x, y = [..], [..], both lists their names' own -/
def sParOO (i j : Nat) (f g : DEnv → Res (List Dat)) : DEnv → DFlow := fun ρ => rBind (f ρ) ρ fun d => rBind (g ρ) ρ fun e => .nx ((ρ.set i (some (.lst d))).set j (some (.lst e)))
theorem ds_parOO {f g : DEnv → Res (List Dat)} {i j : Nat} {x y : Str} {px py pt pos : Pos} {kt k2 pt2} (hc : X.calm = true) (hN : X.N.Nodup) (ha : DF X T W ow a f) (hb : DF X T W ow b g) (hs : ∀ k ∈ ow', k ∈ ow) (hi1 : i ∉ ow') (hj1 : j ∉ i :: ow') (hw : swappedStores [.Tuple [.Name x px, .Name y py] kt pt] (.Tuple [a, b] k2 pt2) X.env = pure (some [x, y]))
    (hi : X.N[i]? = some x := by rfl) (hj : X.N[j]? = some y := by rfl) (hij : i ≠ j := by decide) (hx : X.env.scope.names.lookup x = some .local := by rfl) (hy : X.env.scope.names.lookup y = some .local := by rfl)
    (h1 : starEach [a, b] X.env = (false, eval a X.env) :: starEach [b] X.env := by rfl) (h2 : starEach [b] X.env = (false, eval b X.env) :: starEach [] X.env := by rfl) (hsw : swapsWithSole [.Tuple [.Name x px, .Name y py] kt pt] (.Tuple [a, b] k2 pt2) pos.line X.env = pure false := by rfl) :
    DS X T W ow (j :: i :: ow') ob (.Assign [.Tuple [.Name x px, .Name y py] kt pt] (.Tuple [a, b] k2 pt2) pos) (sParOO i j f g) := ps_imp (ps_par hc hN hi hj hij hx hy (pa_cons (te := tDF X.K T W ow f) ha (pa_cons (te := tDF X.K T W ow g) hb pa_nil h2) h1) hw hsw) fun D σ H q => by
  obtain ⟨B, B0, ρ, S, rs, w⟩ := q
  refine Wants.partF rs w fun p vs ds H1 w1 rs1 e1 n hp r => ?_
  have pB : B p = none := rs.ex.fresh n
  have rsm : RS X.K T B B0 ow σ ρ H1 (p :: S) := ⟨rs.re.more e1 n ⟨_, hp, rfl⟩, rs.ex.trans e1, fun q hq => List.mem_cons_of_mem _ (rs.sub q hq), rs.bd, rs.onew, fun q hq => (List.mem_cons.mp hq).elim (fun z => by rw [z]; exact .inr pB) (rs.new q)⟩
  refine Wants.partF rsm (w1.mono (hide_new e1 n)) fun p2 vs2 ds2 H2 w2 rs2 e2 n2 hp2 r2 => ?_
  refine ⟨.ref p, .ref p2, rfl, ?_⟩
  obtain ⟨rs3, sub⟩ := rs.less hs
  have sub2 : ∀ q ∈ p :: (B0 ++ ownA ow' σ ρ), q ∈ p :: S := fun q hq => (List.mem_cons.mp hq).elim (fun z => by rw [z]; exact List.mem_cons_self) fun z => List.mem_cons_of_mem _ (sub q z)
  have sub3 : ∀ q ∈ p2 :: p :: (B0 ++ ownA ow' σ ρ), q ∈ p2 :: p :: S := fun q hq => (List.mem_cons.mp hq).elim (fun z => by rw [z]; exact List.mem_cons_self) fun z => List.mem_cons_of_mem _ (sub2 q z)
  have rs4 := rs3.own hi1 e1 n hp (r.mono (hide_sub sub2))
  have rs5 := rs4.own hj1 e2 n2 hp2 (r2.mono (hide_sub sub3))
  exact Wants.go w2 rs5 ((hide_new e2 n2).trans (hide_sub sub3))
end
end Dl
/-! The D layer, part 22: tuple * 1 is the tuple itself. -/
namespace Dl
open PySem PySem.Spec PyProof.Rows L2
open AutoSeq1 (wpAny_loadPart')
theorem mul_one (l : Addr) (its : Array Value) (n : Nat) (dct : Option Addr) (sl : Array (Option Value)) (u : Tok) :
    Meets (Builtin.«tuple.__mul__» ⟨[.ref l, .int 1 u], []⟩) (fun _ R s => s.heap.get? l = some { cls := .type "tuple", dict := dct, data := .seq its n, slots := sl } ∧ R (.ok (.ret (.ref l))) s) :=
  .of_wp fun prog w A R s h => by
    obtain ⟨hp, g, d, tk, os⟩ := s
    obtain ⟨hl, h⟩ := h
    have g1 := AutoSeq1.idx_int
    have t1 : (its.isEmpty || (1 : Int) == 1) = true := by simp
    wp_walk using wpAny_loadPart' hl
    exact ⟨_, rfl, h⟩
def rOneT (K : PySem.W.Frag) : R2 := fun x y H Q => ∃ l xs, x = .ref l ∧ y = .int 1 ∧ SqT K H l xs ∧ Q (.ref l) H
theorem op_one {X : Cx} : OpR X (binaryOp .Mult) (rOneT X.K) := by
  intro pins s σ H x y v u Q I rx ry h
  obtain ⟨l, xs, rfl, rfl, hT, q⟩ := h
  cases rx
  obtain ⟨t, rfl⟩ := ry
  obtain ⟨its, r, ⟨⟨cls, dd, data, sl⟩, ho, hc, n, hd⟩, hs⟩ := I.tuple hT
  simp only at hc hd
  subst hc hd
  exact wpAny_binaryOp_repeat_ref (T := "tuple") (U := "int") (by decide) ⟨_, ho, rfl⟩ (fun s' => typeIs_int s' 1 t) noFill_tuple_mul F.fills_int_mul F.slot_int_rmul repeat_tuple F.slot_int_index.lookup
    (call_meets F.slot_int_rmul (typeIs_int s 1 t) F.entry_int_rmul (F.args_int_rmul_2 _ _) (int_rmul_tuple 1 t l its.toArray n dd sl)
      ⟨ho, rfl, ⟨_, ho, rfl⟩, call_meets F.slot_tuple_mul ⟨_, ho, rfl⟩ F.entry_tuple_mul (F.args_tuple_mul_2 _ _) (mul_one l its.toArray n dd sl t) ⟨ho, .ref l, H, I, rfl, q⟩⟩)
def rMulX (K : PySem.W.Frag) : R2 := fun x y H Q => rMulAll K x y H Q ∨ rOneT K x y H Q
theorem op_mulX {X : Cx} : OpR X (binaryOp .Mult) (rMulX X.K) := op_mulAll.or op_one
def mulXD (x y : Dat) : Option Dat := match x, y with
  | .tup l, .int k => if k = 1 then some (.tup l) else mulD (.tup l) (.int k)
  | _, _ => mulD x y
theorem rd_mulX {K : PySem.W.Frag} {T : CT} : R2D K T (rMulX K) mulXD := fun S H x y dx dy d Q m rx ry e q => by
  by_cases z : mulXD dx dy = mulD dx dy
  · rw [z] at e
    exact .inl (rd_mul S H x y dx dy d Q m rx ry e q)
  · unfold mulXD at e z
    cases rx with
    | @tup p vs ds hs rs =>
      cases ry with
      | int k =>
        by_cases k1 : k = 1
        · subst k1
          have e : (if (1 : Int) = 1 then some (Dat.tup ds) else mulD (Dat.tup ds) (.int 1)) = some d := e
          rw [if_pos rfl] at e
          cases e
          exact .inr ⟨p, vs, rfl, rfl, ex_t hide_ex hs.sq, q _ H (Ex.refl H) (.tup hs rs)⟩
        · exact absurd (if_neg k1) z
      | _ => exact absurd rfl z
    | _ => exact absurd (by cases dy <;> rfl) z
end Dl
/-! The D layer, part 23: count and index of lists and tuples. -/
namespace Dl
open PySem PySem.Spec PyProof.Rows L2
def tyT (K : PySem.W.Frag) (x : V) (H : Hp) : Prop := ∃ p xs, x = .ref p ∧ TupN K H p xs
def tyL (K : PySem.W.Frag) (x : V) (H : Hp) : Prop := ∃ p xs, x = .ref p ∧ SqL K H p xs
section
variable {X : Cx}
theorem ty_tup : TyOk X "tuple" (tyT X.K) := by
  intro pins σ H s x v I r ty
  obtain ⟨p, xs, rfl, h⟩ := ty
  cases r
  obtain ⟨its, rv, ⟨ob', ho', hc', _⟩, _⟩ := I.tuple h.sq
  refine ⟨⟨ob', ho', hc'⟩, fun b e => ?_⟩
  cases e
  rcases h with ⟨ob, d, h⟩ | ⟨o, _, _, hk, _, d, _⟩
  · obtain ⟨ho, _⟩ := (show ObjOk X.prog X.w H s.heap p (.frz ob (.tup xs)) from I.hok p _ h)
    exact ⟨ob, ho, d⟩
  · exact ⟨o, I.kIn p o hk, d⟩
theorem ty_lst : TyOk X "list" (tyL X.K) := by
  intro pins σ H s x v I r ty
  obtain ⟨p, xs, rfl, h⟩ := ty
  exact tyV_is I r (.inl ⟨rfl, xs, h⟩)
def tM2 (tyA tyB : V → Hp → Prop) (rA rB : V → List V → Hp → VK → Prop) (to : TE) (t : TA) : TE := fun σ H Q => to σ H fun x H1 => (tyA x H1 ∧ t σ H1 fun xs H2 => rA x xs H2 Q) ∨ (tyB x H1 ∧ t σ H1 fun xs H2 => rB x xs H2 Q)
variable {o e : Expr} {es : List Expr} {to : TE} {t : TA} {name : Str} {apos cpos : Pos} {TA' TB' idA idB : String} {rA rB : V → List V → Hp → VK → Prop} {tyA tyB : V → Hp → Prop}
/-- o.m(e, ..), o of one of two types -/
theorem pe_m2 (hA : TyOk X TA' tyA) (paA : PlainAttrs TA') (slA : Slot TA' name idA) (htA : typeOf (.builtin idA) = pure (.type "method_descriptor")) (hmA : MtR X idA rA)
    (hB : TyOk X TB' tyB) (paB : PlainAttrs TB') (slB : Slot TB' name idB) (htB : typeOf (.builtin idB) = pure (.type "method_descriptor")) (hmB : MtR X idB rB) (ho : PE X o to) (ha : PA X (e :: es) t)
    (hbase : attributeBase o name X.env (eval o X.env) = eval o X.env)
    (hfew : ((backTo cpos (starEach (e :: es) X.env)).all (fun x => !x.1) && (backToKw cpos (keywordEach [] X.env)).all (fun x => x.1.isSome)
      && decide ((e :: es).length + ([] : List Keyword).length + (if ([] : List Keyword).isEmpty then 0 else 1) < 30)) = true)
    (hline : (apos.endLine == cpos.line) = true) (hs : starEach (e :: es) X.env = (false, eval e X.env) :: starEach es X.env) (hplain : (backTo cpos (starEach es X.env)).any (·.1) = false) :
    PE X (.Call (.Attribute o name apos) (e :: es) [] cpos) (tM2 tyA tyB rA rB to t) := by
  refine ⟨fun pins s σ H Q I h => ?_⟩
  have hst : (false || (backTo cpos (starEach es X.env)).any (·.1)) = false := by rw [hplain] <;> rfl
  refine wpAny_Call_method_late hbase hfew hline rfl (thn (ho.run pins s σ H _ I h) fun v s1 ⟨x, H1, I1, r1, q1⟩ => ?_)
  rcases q1 with ⟨ty1, q1⟩ | ⟨ty1, q1⟩
  · obtain ⟨h1, h2⟩ := hA _ _ _ _ _ _ I1 r1 ty1
    refine ⟨TA', idA, paA, slA, htA, h1, h2, ?_⟩
    have hR := ha.run cpos pins s1 σ H1 _ I1 q1
    rw [hs] at hR ⊢
    exact Calls.callWith_builtin hst (Calls.evalArgs_plain (thn hR fun us s2 ⟨vs, H2, I2, r2, q2⟩ => hmA pins s2 σ H2 x vs v us Q I2 r1 r2 q2))
  · obtain ⟨h1, h2⟩ := hB _ _ _ _ _ _ I1 r1 ty1
    refine ⟨TB', idB, paB, slB, htB, h1, h2, ?_⟩
    have hR := ha.run cpos pins s1 σ H1 _ I1 q1
    rw [hs] at hR ⊢
    exact Calls.callWith_builtin hst (Calls.evalArgs_plain (thn hR fun us s2 ⟨vs, H2, I2, r2, q2⟩ => hmB pins s2 σ H2 x vs v us Q I2 r1 r2 q2))
end
def rCntT (K : PySem.W.Frag) : V → List V → Hp → VK → Prop := fun x xs H Q => ∃ (p : Addr) (vs : List V) (y : V), x = .ref p ∧ xs = [y] ∧ SqT K H p vs ∧ flatV y = true ∧ vs.all flatV = true ∧ Q (.int ((vs.countP fun e => eqV e y) : Nat)) H
def rIdxT (K : PySem.W.Frag) : V → List V → Hp → VK → Prop := fun x xs H Q => ∃ (a : Addr) (ys : List V) (y : V) (j : Nat) (z : V), x = V.ref a ∧ xs = [y] ∧ SqT K H a ys ∧ flatV y = true ∧ ys.all flatV = true ∧ ys[j]? = some z ∧ eqV z y = true ∧
  (∀ (m : Nat) (z' : V), m < j → ys[m]? = some z' → eqV z' y = false) ∧ Q (.int (j : Nat)) H
section
variable {X : Cx}
theorem mt_countT : MtR X "tuple.count" (rCntT X.K) := by
  intro pins s σ H x xs v us Q I rx rxs h
  obtain ⟨p, vs, y, rfl, rfl, hs, fy, fs, q⟩ := h
  cases rx
  obtain ⟨u, rfl, ru⟩ := rxs.one
  obtain ⟨its, rv, ⟨⟨cls, dd, data, sl⟩, ho, hc, n, hd⟩, hlen⟩ := I.tuple hs
  simp only at hc hd
  subst hc hd
  refine call_meets PySem.F.slot_tuple_count ⟨_, ho, rfl⟩ PySem.F.entry_tuple_count (PySem.F.args_tuple_count_2 _ _)
    (SeqAt.tuple_countAt p its.toArray n dd sl u (eqU y)) ⟨ho, fun z hz => mem_eqAt ru fy rv fs z (by simpa using hz), ?_⟩
  have ec : its.toArray.toList.countP (eqU y) = vs.countP fun e => eqV e y := by rw [List.toList_toArray]; exact count_eqU rv fs
  refine ⟨.int ((vs.countP fun e => eqV e y) : Nat), H, I.tok _, ⟨s.toks, ?_⟩, q⟩
  rw [ec]
theorem mt_indexT : MtR X "tuple.index" (rIdxT X.K) := by
  intro pins s σ H x xs v us Q I rx rxs h
  obtain ⟨a, ys, y, j, z, rfl, rfl, hs, fy, fys, hz, hzj, hno, q⟩ := h
  cases rx
  obtain ⟨u, rfl, ru⟩ := rxs.one
  obtain ⟨its, rv, ⟨⟨cls, dd, data, sl⟩, ho, hc, n, hd⟩, hlen⟩ := I.tuple hs
  simp only at hc hd
  subst hc hd
  have hvl := rv.length
  have at' : ∀ (m : Nat) (hm : m < its.toArray.size) (w : V), ys[m]? = some w → eqU y its.toArray[m] = eqV w y := fun m hm w hw => by
    obtain ⟨u', h1, h2⟩ := rv.get hw
    obtain ⟨h3, h4⟩ := List.getElem?_eq_some_iff.mp h1
    have h5 : its.toArray[m] = u' := by simpa using h4
    rw [h5]
    exact eqU_of h2 (List.all_eq_true.mp fys w (List.mem_of_getElem? hw))
  have hj : j < its.toArray.size := by
    have := (List.getElem?_eq_some_iff.mp hz).1
    rw [List.size_toArray]
    omega
  refine call_meets PySem.F.slot_tuple_index ⟨_, ho, rfl⟩ PySem.F.entry_tuple_index (PySem.F.args_tuple_index_2 _ _) (TI.tuple_indexAt a its.toArray n dd sl u (eqU y) j hj ?_ ?_)
    ⟨ho, fun w hw => mem_eqAt ru fy rv fys w (by simpa using hw), ⟨.int (j : Nat), H, I.tok _, ⟨_, rfl⟩, q⟩⟩
  · rw [at' j hj z hz]
    exact hzj
  · intro m hm hmj
    have hm' : m < ys.length := by rw [List.size_toArray] at hm; omega
    rw [at' m hm _ (List.getElem?_eq_getElem hm')]
    exact hno m _ hmj (List.getElem?_eq_getElem hm')
end
def isSq : Dat → Bool
  | .lst _ => true
  | .tup _ => true
  | _ => false
def cntA (l : List Dat) (y : Dat) : Option Dat := if (isFlat y && l.all isFlat) = true then some (.int ((l.countP fun e => eqvD e y) : Nat)) else none
def idxA (l : List Dat) (y : Dat) : Option Dat := if (isFlat y && l.all isFlat) = true then (l.findIdx? fun e => eqvD e y).map fun j => .int (j : Nat) else none
def onSq (k : List Dat → Dat → Option Dat) : Dat → Dat → Option Dat
  | .lst l, y => k l y
  | .tup l, y => k l y
  | _, _ => none
def vM2 (k : List Dat → Dat → Option Dat) (fo fa : DEnv → Res Dat) : DEnv → Res Dat := fun ρ => (fo ρ).bind fun x => if isSq x = true then (fa ρ).bind fun y => ofO (onSq k x y) else .stuck
section
variable {K : PySem.W.Frag} {T : CT} {H : Hp}
theorem Reps.at2 {vs : List V} {ds : List Dat} (rs : Reps K T H vs ds) {m : Nat} {v : V} (h : vs[m]? = some v) : ∃ d, ds[m]? = some d ∧ Rep K T H v d := by
  have hm : m < ds.length := by rw [← rs.length]; exact (List.getElem?_eq_some_iff.mp h).1
  obtain ⟨v', h1, h2⟩ := rs.get (List.getElem?_eq_getElem hm)
  rw [h] at h1
  cases h1
  exact ⟨_, List.getElem?_eq_getElem hm, h2⟩
theorem idx_rep {vs : List V} {ds : List Dat} (rs : Reps K T H vs ds) {y : V} {dy : Dat} (ry : Rep K T H y dy) (fy : isFlat dy = true) (fs : ds.all isFlat = true) {j : Nat} (h : (ds.findIdx? fun e => eqvD e dy) = some j) :
    ∃ z, vs[j]? = some z ∧ eqV z y = true ∧ ∀ (m : Nat) (z' : V), m < j → vs[m]? = some z' → eqV z' y = false := by
  obtain ⟨hj, h1, h2⟩ := List.findIdx?_eq_some_iff_getElem.mp h
  obtain ⟨z, hz, rz⟩ := rs.get (List.getElem?_eq_getElem hj)
  have fl : ∀ d ∈ ds, isFlat d = true := List.all_eq_true.mp fs
  refine ⟨z, hz, ?_, fun m z' hm hz' => ?_⟩
  · rw [eqV_rep rz ry fy (fl _ (List.getElem_mem hj))]
    exact h1
  · obtain ⟨d, hd, rd⟩ := rs.at2 hz'
    obtain ⟨hl, he⟩ := List.getElem?_eq_some_iff.mp hd
    rw [eqV_rep rd ry fy (fl _ (List.mem_of_getElem? hd)), ← he]
    exact Bool.eq_false_iff.mpr (h2 m hm)
end
section
variable {X : Cx} {T : CT} {W : WX} {ow : List Nat} {o e : Expr} {fo fa : DEnv → Res Dat} {apos pos : Pos}
theorem de_count2 (ho : DE X T W ow o fo) (he : DE X T W ow e fa) (hs : starEach [e] X.env = (false, eval e X.env) :: starEach [] X.env := by rfl) (hbase : attributeBase o "count" X.env (eval o X.env) = eval o X.env := by rfl) (hline : (apos.endLine == pos.line) = true := by rfl)
    (hfew : ((backTo pos (starEach [e] X.env)).all (fun x => !x.1) && (backToKw pos (keywordEach [] X.env)).all (fun x => x.1.isSome) && decide ([e].length + ([] : List Keyword).length + (if ([] : List Keyword).isEmpty then 0 else 1) < 30)) = true := by rfl)
    (hpl : (backTo pos (starEach [] X.env)).any (·.1) = false := by rfl) :
    DE X T W ow (.Call (.Attribute o "count" apos) [e] [] pos) (vM2 cntA fo fa) := pe_imp (pe_m2 ty_lst PySem.F.plainAttrs_list PySem.F.slot_list_count PySem.F.type_list_count mt_countF ty_tup PySem.F.plainAttrs_tuple PySem.F.slot_tuple_count PySem.F.type_tuple_count mt_countT ho (pa_cons he pa_nil hs) hbase hfew hline hs hpl) fun σ H Q h => by
  obtain ⟨ρ, S, re, w⟩ := h
  refine Want.part re w fun x dx H1 w1 re1 e1 rx => ?_
  cases rx with
  | @lst p vs ds hs rs =>
    refine .inl ⟨⟨p, vs, rfl, .inl (.inl (hide_ex _ _ hs))⟩, ?_⟩
    refine Want.part re1 w1 fun y dy H2 w2 re2 e2 ry => ?_
    have w3 : Want X.K T W σ H2 S (ofO (cntA ds dy)) Q := w2
    unfold cntA at w3
    by_cases z : (isFlat dy && ds.all isFlat) = true
    · rw [if_pos z] at w3
      rw [Bool.and_eq_true] at z
      have rs2 := rs.mono (hide_mono e2)
      refine ⟨p, vs, y, rfl, rfl, .inl (.inl (e2 _ _ (hide_ex _ _ hs))), by rw [flat_rep ry]; exact z.1, by rw [flats_rep rs2]; exact z.2, ?_⟩
      rw [count_rep ry z.1 rs2 z.2]
      exact w3 _ H2 (Ex.refl H2) (.int _)
    · rw [if_neg z] at w3
      exact w3.elim
  | @tup p vs ds hs rs =>
    refine .inr ⟨⟨p, vs, rfl, ex_n hide_ex hs⟩, ?_⟩
    refine Want.part re1 w1 fun y dy H2 w2 re2 e2 ry => ?_
    have w3 : Want X.K T W σ H2 S (ofO (cntA ds dy)) Q := w2
    unfold cntA at w3
    by_cases z : (isFlat dy && ds.all isFlat) = true
    · rw [if_pos z] at w3
      rw [Bool.and_eq_true] at z
      have rs2 := rs.mono (hide_mono e2)
      refine ⟨p, vs, y, rfl, rfl, ex_t e2 (ex_t hide_ex hs.sq), by rw [flat_rep ry]; exact z.1, by rw [flats_rep rs2]; exact z.2, ?_⟩
      rw [count_rep ry z.1 rs2 z.2]
      exact w3 _ H2 (Ex.refl H2) (.int _)
    · rw [if_neg z] at w3
      exact w3.elim
  | _ => exact w1.elim
theorem de_index2 (ho : DE X T W ow o fo) (he : DE X T W ow e fa) (hs : starEach [e] X.env = (false, eval e X.env) :: starEach [] X.env := by rfl) (hbase : attributeBase o "index" X.env (eval o X.env) = eval o X.env := by rfl) (hline : (apos.endLine == pos.line) = true := by rfl)
    (hfew : ((backTo pos (starEach [e] X.env)).all (fun x => !x.1) && (backToKw pos (keywordEach [] X.env)).all (fun x => x.1.isSome) && decide ([e].length + ([] : List Keyword).length + (if ([] : List Keyword).isEmpty then 0 else 1) < 30)) = true := by rfl)
    (hpl : (backTo pos (starEach [] X.env)).any (·.1) = false := by rfl) :
    DE X T W ow (.Call (.Attribute o "index" apos) [e] [] pos) (vM2 idxA fo fa) := pe_imp (pe_m2 ty_lst PySem.F.plainAttrs_list PySem.F.slot_list_index PySem.F.type_list_index mt_index ty_tup PySem.F.plainAttrs_tuple PySem.F.slot_tuple_index PySem.F.type_tuple_index mt_indexT ho (pa_cons he pa_nil hs) hbase hfew hline hs hpl) fun σ H Q h => by
  obtain ⟨ρ, S, re, w⟩ := h
  refine Want.part re w fun x dx H1 w1 re1 e1 rx => ?_
  cases rx with
  | @lst p vs ds hs rs =>
    refine .inl ⟨⟨p, vs, rfl, .inl (.inl (hide_ex _ _ hs))⟩, ?_⟩
    refine Want.part re1 w1 fun y dy H2 w2 re2 e2 ry => ?_
    have w3 : Want X.K T W σ H2 S (ofO (idxA ds dy)) Q := w2
    unfold idxA at w3
    by_cases z : (isFlat dy && ds.all isFlat) = true
    · rw [if_pos z] at w3
      rw [Bool.and_eq_true] at z
      have rs2 := rs.mono (hide_mono e2)
      cases q : (ds.findIdx? fun e => eqvD e dy) with
      | none => rw [q] at w3; exact w3.elim
      | some j =>
        rw [q] at w3
        obtain ⟨z', k1, k2, k3⟩ := idx_rep rs2 ry z.1 z.2 q
        exact ⟨p, vs, y, j, z', rfl, rfl, .inl (.inl (e2 _ _ (hide_ex _ _ hs))), by rw [flat_rep ry]; exact z.1, by rw [flats_rep rs2]; exact z.2, k1, k2, k3, w3 _ H2 (Ex.refl H2) (.int _)⟩
    · rw [if_neg z] at w3
      exact w3.elim
  | @tup p vs ds hs rs =>
    refine .inr ⟨⟨p, vs, rfl, ex_n hide_ex hs⟩, ?_⟩
    refine Want.part re1 w1 fun y dy H2 w2 re2 e2 ry => ?_
    have w3 : Want X.K T W σ H2 S (ofO (idxA ds dy)) Q := w2
    unfold idxA at w3
    by_cases z : (isFlat dy && ds.all isFlat) = true
    · rw [if_pos z] at w3
      rw [Bool.and_eq_true] at z
      have rs2 := rs.mono (hide_mono e2)
      cases q : (ds.findIdx? fun e => eqvD e dy) with
      | none => rw [q] at w3; exact w3.elim
      | some j =>
        rw [q] at w3
        obtain ⟨z', k1, k2, k3⟩ := idx_rep rs2 ry z.1 z.2 q
        exact ⟨p, vs, y, j, z', rfl, rfl, ex_t e2 (ex_t hide_ex hs.sq), by rw [flat_rep ry]; exact z.1, by rw [flats_rep rs2]; exact z.2, k1, k2, k3, w3 _ H2 (Ex.refl H2) (.int _)⟩
    · rw [if_neg z] at w3
      exact w3.elim
  | _ => exact w1.elim
end
end Dl
/-! The D layer, part 24: sum of a list or a tuple of ints. -/
namespace Dl
open PySem PySem.Spec PyProof.Rows L2
def sumTD : List Dat → Option Dat
  | [.lst l] => (intsD l).map fun bs => .int bs.sum
  | [.frz l] => (intsD l).map fun bs => .int bs.sum
  | [.tup l] => (intsD l).map fun bs => .int bs.sum
  | _ => none
def rSumT (K : PySem.W.Frag) : List V → Hp → VK → Prop := fun vs H Q => ∃ (a : Addr) (ns : List Int), vs = [V.ref a] ∧ (SqL K H a (ns.map V.int) ∨ SqT K H a (ns.map V.int)) ∧ Q (.int ns.sum) H
section
variable {prog : Program} {w : World} {A : Around} {E : Value → Shared → Prop} {s : Shared} {l : Addr} {its : List Value} {ns : List Int}
theorem sum_rawT {Q : Value → Shared → Prop} (hh : A.handled = none) (hl : s.heap.IsTuple l its.toArray) (hi : IntsAre its ns)
    (h : ∀ h' tk t', (∀ b o, s.heap.get? b = some o → h'.get? b = some o) → Q (.int ns.sum t') { s with heap := h', toks := tk }) : wpAny (model prog w) A (call (.builtin "sum") [.ref l]) Q E s := by
  obtain ⟨xs, e⟩ := hi.allInts.items
  have hn : numsOf (intItems xs).toList = ns := by rw [← e]; exact hi.numsOf
  rw [nums_intItems] at hn
  rw [e] at hl
  have lt : l < s.heap.objs.size := by obtain ⟨_, z, _⟩ := hl; exact Heap.lt_size z
  have hlI : l ≠ s.heap.objs.size := Nat.ne_of_lt lt
  refine call_sum_walkG (wpAny_pyIter_tuple hl ?_)
  refine ⟨s.heap.objs.size, _, _, _, _, _, numAt xs, rfl, Walks.tuple (A := A.in1) hh _ l hlI (intItems xs), ⟨⟨_, Heap.get?_push_size _ rfl, rfl, rfl⟩, hl.push _⟩, fun b hb => ?_, fun _ _ => intItems_at, fun h' tk t' hk => ?_⟩
  · show b < (s.heap.push _).objs.size
    rw [Heap.size_push]
    rcases List.mem_cons.mp hb with rfl | hb
    · exact Nat.lt_succ_self _
    · rw [List.mem_singleton.mp hb]
      exact Nat.lt_succ_of_lt lt
  · have := h h' tk t' fun b o e => hk b o (fun z => Nat.ne_of_lt (Heap.lt_size e) (by simpa using z)) (Heap.get?_push_of_some _ e)
    rw [show (intItems xs).size = xs.size by simp [intItems], preSum_eq, List.take_of_length_le (by simp), hn]
    exact this
end
section
variable {X : Cx}
theorem cr_sumT (hc : X.calm = true) : CallR X (.builtin "sum") (rSumT X.K) := by
  intro pins s σ H vs us Q I r h
  obtain ⟨a, ns, rfl, hs, q⟩ := h
  rw [Vals.ref1 r]
  rcases hs with hs | hs
  · obtain ⟨its, rv, hl, _⟩ := I.list hs
    exact sum_raw (I.ok.hd hc) hl.isList rv.ints fun h' tk t' hk => ⟨.int _, H, I.kept hk, ⟨_, rfl⟩, q⟩
  · obtain ⟨its, rv, hl, _⟩ := I.tuple hs
    exact sum_rawT (I.ok.hd hc) hl rv.ints fun h' tk t' hk => ⟨.int _, H, I.kept hk, ⟨_, rfl⟩, q⟩
end
section
variable {K : PySem.W.Frag} {T : CT}
theorem rc_sumT : RcD K T (rSumT K) sumTD := fun S H vs ds d Q m rs e q => by
  cases rs with
  | nil => cases e
  | cons r rs =>
    cases rs with
    | cons _ _ => cases r <;> cases e
    | nil =>
      have fin : ∀ {p : Addr} {vs l}, (SqL K H p vs ∨ SqT K H p vs) → Reps K T (hide H S) vs l → ((intsD l).map fun bs => Dat.int bs.sum) = some d → rSumT K [.ref p] H Q := fun {p vs l} hs rs e => by
        cases z : intsD l with
        | none => rw [z] at e; cases e
        | some bs =>
          rw [z] at e
          cases e
          have := rs.intsD z
          subst this
          exact ⟨p, bs, rfl, hs, q _ H (Ex.refl H) (.int _)⟩
      cases r with
      | @lst p vs ds hs rs => exact fin (.inl (.inl (.inl (hide_ex _ _ hs)))) rs e
      | @frz p vs ds hs rs => exact fin (.inl (ex_l hide_ex hs)) rs e
      | @tup p vs ds hs rs => exact fin (.inr (ex_t hide_ex hs.sq)) rs e
      | _ => cases e
end
end Dl
/-! The D layer, part 25: tuples of the module. -/
namespace Dl
open PySem PySem.Spec PyProof.Rows L2
theorem GC.tup {K : PySem.W.Frag} {T : CT} {mg : Str → Option Value} {x : Str} {p : Addr} {its : Array Value} {n : Nat} {sl : Array (Option Value)} {vs : List V} {ds : List Dat} (h : mg x = some (.ref p)) (hk : K.lookup p = some ⟨.type "tuple", none, .seq its n, sl⟩) (hz : its.size ≤ sizeLine) (rv : Vals vs its.toList) (rs : ∀ H, Reps K T H vs ds) : GC K T mg x (.tup ds) :=
  ⟨.ref p, _, h, rfl, fun H => .tup (.inr ⟨_, its, n, hk, rfl, rfl, rfl, hz, rv⟩) (rs H)⟩
end Dl
/-! The D layer, part 26: a < b < c < d. -/
namespace Dl
open PySem PySem.Spec PyProof.Rows L2
def tCh2 (r r' : R2) (y : V) (tc td : TE) : TE := fun σ H Q => tc σ H fun w H1 => r y w H1 fun z H2 => ∃ k, z = .bl k ∧ (if k = true then td σ H2 fun v H3 => r' w v H3 Q else Q (.bl false) H2)
def tChain3 (r r' r'' : R2) (ta tb tc td : TE) : TE := fun σ H Q => ta σ H fun x H1 => tb σ H1 fun y H2 => r x y H2 fun z H3 => ∃ k, z = .bl k ∧ (if k = true then tCh2 r' r'' y tc td σ H3 Q else Q (.bl false) H3)
section
variable {X : Cx} {a b c d : Expr} {ta tb tc td : TE} {pos : Pos}
theorem pe_chain3 {op op' op'' : CmpOp} {r r' r'' : R2} (ho : OpR X (compareOp op) r) (ho' : OpR X (compareOp op') r') (ho'' : OpR X (compareOp op'') r'') (ha : PE X a ta) (hb : PE X b tb) (hc : PE X c tc) (hd : PE X d td)
    (hm : lastMarks [op, op', op''] [b, c, d] = false := by with_unfolding_all rfl) : PE X (.Compare a [op, op', op''] [b, c, d] pos) (tChain3 r r' r'' ta tb tc td) := by
  refine ⟨fun pins s σ H Q I h => ?_⟩
  refine Compare_chain (thn (ha.run pins s σ H _ I h) fun v s1 ⟨x, H1, I1, r1, q1⟩ => chain_link (thn (hb.run pins s1 σ H1 _ I1 q1) fun u s2 ⟨y, H2, I2, r2, q2⟩ =>
    thn (ho pins s2 σ H2 x y v u _ I2 r1 r2 q2) fun _ s3 ⟨z, H3, I3, r3, k, e, q3⟩ => ?_)) hm
  subst e
  cases r3
  refine wpAny_truthy_bool ?_
  cases k with
  | false => exact ite_ff ⟨.bl false, H3, I3, rfl, q3⟩
  | true =>
    refine ite_tt (chain_link (thn (hc.run pins s3 σ H3 _ I3 q3) fun w s4 ⟨x4, H4, I4, r4, q4⟩ => thn (ho' pins s4 σ H4 y x4 u w _ I4 r2 r4 q4) fun _ s5 ⟨z5, H5, I5, r5, k5, e5, q5⟩ => ?_))
    subst e5
    cases r5
    refine wpAny_truthy_bool ?_
    cases k5 with
    | false => exact ite_ff ⟨.bl false, H5, I5, rfl, q5⟩
    | true => exact ite_tt (chain_last (thn (hd.run pins s5 σ H5 _ I5 q5) fun w' s6 ⟨z', H6, I6, r6, q6⟩ => ho'' pins s6 σ H6 x4 z' w w' Q I6 r4 r6 q6))
theorem pt_chain3 {op op' op'' : CmpOp} {r r' r'' : R2} (ho : OpR X (compareOp op) r) (ho' : OpR X (compareOp op') r') (ho'' : OpR X (compareOp op'') r'') (ha : PE X a ta) (hb : PE X b tb) (hc : PE X c tc) (hd : PE X d td)
    (hm : lastMarks [op, op', op''] [b, c, d] = false := by with_unfolding_all rfl) : PT X (.Compare a [op, op', op''] [b, c, d] pos) (tTest (tChain3 r r' r'' ta tb tc td)) := by
  refine ⟨fun pins s σ H Q I h => ?_⟩
  refine isTrue_chain (thn (ha.run pins s σ H _ I h) fun v s1 ⟨x, H1, I1, r1, q1⟩ => test_link (thn (hb.run pins s1 σ H1 _ I1 q1) fun u s2 ⟨y, H2, I2, r2, q2⟩ =>
    thn (ho pins s2 σ H2 x y v u _ I2 r1 r2 q2) fun _ s3 ⟨z, H3, I3, r3, k, e, q3⟩ => ?_)) hm
  subst e
  cases r3
  refine wpAny_truthy_bool ?_
  cases k with
  | false =>
    obtain ⟨k', e', q'⟩ := q3
    cases e'
    exact ite_ff ⟨H3, I3, q'⟩
  | true =>
    refine ite_tt (test_link (thn (hc.run pins s3 σ H3 _ I3 q3) fun w s4 ⟨x4, H4, I4, r4, q4⟩ => thn (ho' pins s4 σ H4 y x4 u w _ I4 r2 r4 q4) fun _ s5 ⟨z5, H5, I5, r5, k5, e5, q5⟩ => ?_))
    subst e5
    cases r5
    refine wpAny_truthy_bool ?_
    cases k5 with
    | false =>
      obtain ⟨k', e', q'⟩ := q5
      cases e'
      exact ite_ff ⟨H5, I5, q'⟩
    | true =>
      refine ite_tt (test_last (thn (hd.run pins s5 σ H5 _ I5 q5) fun w' s6 ⟨z', H6, I6, r6, q6⟩ => thn (ho'' pins s6 σ H6 x4 z' w w' _ I6 r4 r6 q6) fun _ s7 ⟨z7, H7, I7, r7, k7, e7, q7⟩ => ?_))
      subst e7
      cases r7
      exact wpAny_truthy_bool ⟨H7, I7, q7⟩
end
def vCh3K (h k : Dat → Dat → Option Dat) (fc fd : DEnv → Res Dat) (ρ : DEnv) (y : Dat) : Dat → Res Dat
  | .bl true => (fc ρ).bind fun w => (ofO (h y w)).bind fun z => vChainK k fd ρ w z
  | .bl false => .ok (.bl false)
  | _ => .stuck
def vChain3 (g h k : Dat → Dat → Option Dat) (fa fb fc fd : DEnv → Res Dat) : DEnv → Res Dat := fun ρ => (fa ρ).bind fun x => (fb ρ).bind fun y => (ofO (g x y)).bind fun z => vCh3K h k fc fd ρ y z
section
variable {T : CT} {W : WX} {ow : List Nat} {fa fb fc fd : DEnv → Res Dat}
theorem chain3_read {r r' r'' : R2} {g h i : Dat → Dat → Option Dat} {K : PySem.W.Frag} {σ : Sg} {H : Hp} {Q : VK} (rd : R2D K T r g) (rd' : R2D K T r' h) (rd'' : R2D K T r'' i) (q : tD K T W ow (vChain3 g h i fa fb fc fd) σ H Q) :
    tChain3 r r' r'' (tD K T W ow fa) (tD K T W ow fb) (tD K T W ow fc) (tD K T W ow fd) σ H Q := by
  obtain ⟨ρ, S, re, w⟩ := q
  refine Want.part re w fun x dx H1 w1 re1 e1 rx => ?_
  refine Want.part re1 w1 fun y dy H2 w2 re2 e2 ry => ?_
  cases q : g dx dy with
  | none =>
    rw [q] at w2
    exact w2.elim
  | some d =>
    rw [q] at w2
    refine rd S H2 x y dx dy d _ re2.mt (rx.mono (hide_mono e2)) ry q fun v H3 e3 rv => ?_
    have w3 : Want K T W σ H3 S (vCh3K h i fc fd ρ dy d) Q := Want.mono w2 e3
    cases rv with
    | bl k =>
      refine ⟨k, rfl, ?_⟩
      cases k with
      | false => exact w3 _ H3 (Ex.refl H3) (.bl false)
      | true =>
        show tD K T W ow fc σ H3 _
        refine Want.part (re2.mono e3) w3 fun z dz H4 w4 re4 e4 rz => ?_
        cases q' : h dy dz with
        | none =>
          rw [q'] at w4
          exact w4.elim
        | some d' =>
          rw [q'] at w4
          refine rd' S H4 y z dy dz d' _ re4.mt ((ry.mono (hide_mono e3)).mono (hide_mono e4)) rz q' fun v5 H5 e5 rv5 => ?_
          have w5 : Want K T W σ H5 S (vChainK i fd ρ dz d') Q := Want.mono w4 e5
          cases rv5 with
          | bl k5 =>
            refine ⟨k5, rfl, ?_⟩
            cases k5 with
            | false => exact w5 _ H5 (Ex.refl H5) (.bl false)
            | true =>
              show tD K T W ow fd σ H5 _
              refine Want.part (re4.mono e5) w5 fun u du H6 w6 re6 e6 ru => ?_
              cases q6 : i dz du with
              | none =>
                rw [q6] at w6
                exact w6.elim
              | some d6 =>
                rw [q6] at w6
                exact rd'' S H6 z u dz du d6 Q re6.mt ((rz.mono (hide_mono e5)).mono (hide_mono e6)) ru q6 w6
          | _ => exact w5.elim
    | _ => exact w3.elim
end
section
variable {X : Cx} {T : CT} {W : WX} {ow : List Nat} {a b c d : Expr} {pos : Pos} {fa fb fc fd : DEnv → Res Dat}
theorem de_chain3 {op op' op'' : CmpOp} {r r' r'' : R2} {g h i : Dat → Dat → Option Dat} (ho : OpR X (compareOp op) r) (rd : R2D X.K T r g) (ho' : OpR X (compareOp op') r') (rd' : R2D X.K T r' h) (ho'' : OpR X (compareOp op'') r'') (rd'' : R2D X.K T r'' i) (ha : DE X T W ow a fa) (hb : DE X T W ow b fb) (hc : DE X T W ow c fc) (hd : DE X T W ow d fd)
    (hm : lastMarks [op, op', op''] [b, c, d] = false := by rfl) : DE X T W ow (.Compare a [op, op', op''] [b, c, d] pos) (vChain3 g h i fa fb fc fd) := pe_imp (pe_chain3 ho ho' ho'' ha hb hc hd hm) fun _ _ _ q => chain3_read rd rd' rd'' q
theorem dt_chain3 {op op' op'' : CmpOp} {r r' r'' : R2} {g h i : Dat → Dat → Option Dat} (ho : OpR X (compareOp op) r) (rd : R2D X.K T r g) (ho' : OpR X (compareOp op') r') (rd' : R2D X.K T r' h) (ho'' : OpR X (compareOp op'') r'') (rd'' : R2D X.K T r'' i) (ha : DE X T W ow a fa) (hb : DE X T W ow b fb) (hc : DE X T W ow c fc) (hd : DE X T W ow d fd)
    (hm : lastMarks [op, op', op''] [b, c, d] = false := by rfl) : DT X T W ow (.Compare a [op, op', op''] [b, c, d] pos) (vTest (vChain3 g h i fa fb fc fd)) := pt_imp (pt_chain3 ho ho' ho'' ha hb hc hd hm) fun σ H Q q => by
  obtain ⟨ρ, S, re, w⟩ := q
  refine chain3_read rd rd' rd'' (Q := fun x H' => ∃ k, x = .bl k ∧ Q k H') ?_
  exact test_read ⟨ρ, S, re, w⟩
end
end Dl
/-! The D layer, part 27: l[i], l[j] = a, b for a list that is the name's own. -/
namespace Dl
open PySem PySem.Spec PyProof.Rows L2
def putK (i : Nat) (l : List Dat) (ρ : DEnv) (d : Dat) (g : DEnv → DFlow) : Dat → DFlow
  | .int n => match ixN l.length n with
    | some j => g (ρ.set i (some (.lst (l.set j d))))
    | none => .stuck
  | _ => .stuck
/-- one item set -/
def sPut (i : Nat) (fi : DEnv → Res Dat) (d : Dat) : DEnv → DFlow := fun ρ => match ρ[i]? with
  | some (some (.lst l)) => rBind (fi ρ) ρ (putK i l ρ d .nx)
  | _ => .stuck
def sSetI2 (i : Nat) (fi fj fa fb : DEnv → Res Dat) : DEnv → DFlow := fun ρ => rBind (fa ρ) ρ fun d => rBind (fb ρ) ρ fun e => match ρ[i]? with
  | some (some (.lst l)) => rBind (fi ρ) ρ (putK i l ρ d (sPut i fj e))
  | _ => .stuck
section
variable {X : Cx} {T : CT} {W : WX} {ow ob : List Nat} {a b ei ej : Expr} {fa fb fi fj : DEnv → Res Dat}
theorem ds_setI2 {i : Nat} {x : Str} {xp sp xp2 sp2 pos : Pos} {kt k2 pt pt2} (ha : DE X T W ow a fa) (hb : DE X T W ow b fb) (hei : DE X T W ow ei fi) (hej : DE X T W ow ej fj) (hiw : i ∈ ow := by decide) (hc : X.calm = true := by rfl) (hN : X.N[i]? = some x := by rfl) (hv : Vis X.env.scope x := by first | exact Or.inl rfl | exact Or.inr (Or.inl rfl) | exact Or.inr (Or.inr rfl)) (hd : (x == ("__debug__" : Str)) = false := by decide)
    (hcd : (x == ("__classdict__" : Str)) = false := by decide)
    (h1 : starEach [a, b] X.env = (false, eval a X.env) :: starEach [b] X.env := by rfl) (h2 : starEach [b] X.env = (false, eval b X.env) :: starEach [] X.env := by rfl)
    (hsw : swapsWithSole [.Tuple [.Subscript (.Name x xp) ei sp, .Subscript (.Name x xp2) ej sp2] kt pt] (.Tuple [a, b] k2 pt2) pos.line X.env = pure false := by rfl)
    (hw : swappedStores [.Tuple [.Subscript (.Name x xp) ei sp, .Subscript (.Name x xp2) ej sp2] kt pt] (.Tuple [a, b] k2 pt2) X.env = pure none := by rfl)
    (hae : (assignEach [.Tuple [.Subscript (.Name x xp) ei sp, .Subscript (.Name x xp2) ej sp2] kt pt] X.env).map (·.2) = [assign (.Tuple [.Subscript (.Name x xp) ei sp, .Subscript (.Name x xp2) ej sp2] kt pt) X.env] := by rfl)
    (ht1 : (assignEach [.Subscript (.Name x xp) ei sp, .Subscript (.Name x xp2) ej sp2] X.env).map (·.2) = assign (.Subscript (.Name x xp) ei sp) X.env :: (assignEach [.Subscript (.Name x xp2) ej sp2] X.env).map (·.2) := by rfl)
    (ht2 : (assignEach [.Subscript (.Name x xp2) ej sp2] X.env).map (·.2) = assign (.Subscript (.Name x xp2) ej sp2) X.env :: (assignEach [] X.env).map (·.2) := by rfl)
    (hn : (assignEach [.Subscript (.Name x xp) ei sp, .Subscript (.Name x xp2) ej sp2] X.env).length = 2 := by rfl) (hst : (assignEach [.Subscript (.Name x xp) ei sp, .Subscript (.Name x xp2) ej sp2] X.env).findIdx? (·.1) = none := by rfl)
    (hks : ∀ v, assign (.Subscript (.Name x xp) ei sp) X.env v = (do
      let ov ← holding [v] (eval (.Name x xp) X.env)
      let iv ← holding [v, ov] (eval ei X.env)
      standAt sp
      holding [v, ov, iv] (setItem ov iv v)
      release [v, ov, iv] []) := by intro _; rfl)
    (hks2 : ∀ v, assign (.Subscript (.Name x xp2) ej sp2) X.env v = (do
      let ov ← holding [v] (eval (.Name x xp2) X.env)
      let iv ← holding [v, ov] (eval ej X.env)
      standAt sp2
      holding [v, ov, iv] (setItem ov iv v)
      release [v, ov, iv] []) := by intro _; rfl) :
    DS X T W ow ow ob (.Assign [.Tuple [.Subscript (.Name x xp) ei sp, .Subscript (.Name x xp2) ej sp2] kt pt] (.Tuple [a, b] k2 pt2) pos) (sSetI2 i fi fj fa fb) :=
  ps_imp (ps_asg (pe_tup (pa_cons ha (pa_cons hb pa_nil h2) h1)) (pg_tup hc (pgs_cons (pg_sub (pe_var hN hv hd hcd) hei set_list hks) (pgs_cons (pg_sub (pe_var hN hv hd hcd) hej set_list hks2) pgs_nil ht2) ht1) hn hst) hsw hw hae) fun D σ H q => by
  obtain ⟨B, B0, ρ, S, rs, w⟩ := q
  unfold sSetI2 at w
  refine Wants.part rs w fun v1 d1 H1 w1 rs1 e1 r1 => ?_
  refine Wants.part rs1 w1 fun v2 d2 H2 w2 rs2 e2 r2 => ?_
  show [v1, v2].length ≤ sizeLine ∧ _
  refine ⟨show 2 ≤ sizeLine by decide, fun t nt => ⟨t, [v1, v2], rfl, .inl (.inl upd_same), rfl, v1, [v2], rfl, ?_⟩⟩
  have e3 : Ex H2 (upd H2 t (.tup [v1, v2])) := Ex.new nt
  have rs3 := rs2.mono e3
  have w3 := Wants.mono w2 (hide_mono e3)
  have r1 := (r1.mono (hide_mono e2)).mono (hide_mono e3)
  have r2 := r2.mono (hide_mono e3)
  split at w3
  · rename_i l hl
    obtain ⟨p, vs, k1, k2, k3, k4⟩ := own_at rs3 hiw hl
    refine ⟨_, k1, ?_⟩
    refine Wants.part rs3 w3 fun vi di H4 w4 rs4 e4 r4 => ?_
    cases r4 with
    | int n =>
      cases q : ixN l.length n with
      | none =>
        have w5 : Wants X.K T W B B0 ow ob H4 S D (match ixN l.length n with
          | some j => sPut i fj d2 (ρ.set i (some (.lst (l.set j d1))))
          | none => .stuck) := w4
        rw [q] at w5
        exact w5.elim
      | some j =>
        have w5 : Wants X.K T W B B0 ow ob H4 S D (match ixN l.length n with
          | some j => sPut i fj d2 (ρ.set i (some (.lst (l.set j d1))))
          | none => .stuck) := w4
        rw [q] at w5
        have w5 : Wants X.K T W B B0 ow ob H4 S D (sPut i fj d2 (ρ.set i (some (.lst (l.set j d1))))) := w5
        refine ⟨p, vs, n, j, rfl, rfl, e4 _ _ k3, by rw [k4.length]; exact q, ?_⟩
        have rs5 := rs4.chg hiw hl k1 k2 (.set (r1.mono (hide_mono e4)) j (k4.mono (hide_mono e4)))
        have w6 := Wants.mono (H' := upd H4 p (.lst (vs.set j v1))) (S' := S) w5 (by rw [hide_upd k2]; exact Ex.refl _)
        have r2 : Rep X.K T (hide (upd H4 p (.lst (vs.set j v1))) S) v2 d2 := by rw [hide_upd k2]; exact r2.mono (hide_mono e4)
        refine ⟨v2, [], rfl, ?_⟩
        unfold sPut at w6
        split at w6
        · rename_i l2 hl2
          obtain ⟨p2, vs2, m1, m2, m3, m4⟩ := own_at rs5 hiw hl2
          refine ⟨_, m1, ?_⟩
          refine Wants.part rs5 w6 fun vj dj H7 w7 rs7 e7 r7 => ?_
          cases r7 with
          | int n2 =>
            have w8 : Wants X.K T W B B0 ow ob H7 S D (match ixN l2.length n2 with
              | some k => .nx ((ρ.set i (some (.lst (l.set j d1)))).set i (some (.lst (l2.set k d2))))
              | none => .stuck) := w7
            cases q2 : ixN l2.length n2 with
            | none =>
              rw [q2] at w8
              exact w8.elim
            | some j2 =>
              rw [q2] at w8
              refine ⟨p2, vs2, n2, j2, rfl, rfl, e7 _ _ m3, by rw [m4.length]; exact q2, ?_⟩
              refine ⟨rfl, Wants.go w8 (rs7.chg hiw hl2 m1 m2 (.set (r2.mono (hide_mono e7)) j2 (m4.mono (hide_mono e7)))) ?_⟩
              rw [hide_upd m2]
              exact Ex.refl _
          | _ => exact w7.elim
        · exact w6.elim
    | _ => exact w4.elim
  · exact w3.elim
end
end Dl
/-! The D layer, part 28: x, y = [..], [..] by a tuple (x or y a cell variable). -/
namespace Dl
open PySem PySem.Spec PyProof.Rows L2
section
variable {X : Cx} {T : CT} {W : WX} {ow ow' ob : List Nat} {a b : Expr}
theorem ds_parOOT {f g : DEnv → Res (List Dat)} {i j : Nat} {x y : Str} {px py pt pos : Pos} {kt k2 pt2} (hc : X.calm = true) (hN : X.N.Nodup) (ha : DF X T W ow a f) (hb : DF X T W ow b g) (hs : ∀ k ∈ ow', k ∈ ow) (hi1 : i ∉ ow') (hj1 : j ∉ i :: ow')
    (hi : X.N[i]? = some x := by rfl) (hj : X.N[j]? = some y := by rfl) (hij : i ≠ j := by decide) (hx : Loc X.env.scope x := by first | exact .inl rfl | exact .inr rfl) (hy : Loc X.env.scope y := by first | exact .inl rfl | exact .inr rfl)
    (hfx : X.fn x = true ∨ X.env.scope.names.lookup x = some .local := by first | exact .inl rfl | exact .inr rfl) (hfy : X.fn y = true ∨ X.env.scope.names.lookup y = some .local := by first | exact .inl rfl | exact .inr rfl)
    (h1 : starEach [a, b] X.env = (false, eval a X.env) :: starEach [b] X.env := by rfl) (h2 : starEach [b] X.env = (false, eval b X.env) :: starEach [] X.env := by rfl) (hsw : swapsWithSole [.Tuple [.Name x px, .Name y py] kt pt] (.Tuple [a, b] k2 pt2) pos.line X.env = pure false := by rfl)
    (hw : swappedStores [.Tuple [.Name x px, .Name y py] kt pt] (.Tuple [a, b] k2 pt2) X.env = pure none := by rfl) (hae : (assignEach [.Tuple [.Name x px, .Name y py] kt pt] X.env).map (·.2) = [assign (.Tuple [.Name x px, .Name y py] kt pt) X.env] := by rfl)
    (ht1 : (assignEach [.Name x px, .Name y py] X.env).map (·.2) = assign (.Name x px) X.env :: (assignEach [.Name y py] X.env).map (·.2) := by rfl) (ht2 : (assignEach [.Name y py] X.env).map (·.2) = assign (.Name y py) X.env :: (assignEach [] X.env).map (·.2) := by rfl)
    (hn : (assignEach [.Name x px, .Name y py] X.env).length = 2 := by rfl) (hst : (assignEach [.Name x px, .Name y py] X.env).findIdx? (·.1) = none := by rfl) :
    DS X T W ow (j :: i :: ow') ob (.Assign [.Tuple [.Name x px, .Name y py] kt pt] (.Tuple [a, b] k2 pt2) pos) (sParOO i j f g) :=
  ps_imp (ps_asg (pe_tup (pa_cons (te := tDF X.K T W ow f) ha (pa_cons (te := tDF X.K T W ow g) hb pa_nil h2) h1)) (pg_tup hc (pgs_cons (pg_name hN hi hx hfx) (pgs_cons (pg_name hN hj hy hfy) pgs_nil ht2) ht1) hn hst) hsw hw hae) fun D σ H q => by
  obtain ⟨B, B0, ρ, S, rs, w⟩ := q
  refine Wants.partF rs w fun p vs ds H1 w1 rs1 e1 n hp r => ?_
  have pB : B p = none := rs.ex.fresh n
  have rsm : RS X.K T B B0 ow σ ρ H1 (p :: S) := ⟨rs.re.more e1 n ⟨_, hp, rfl⟩, rs.ex.trans e1, fun q hq => List.mem_cons_of_mem _ (rs.sub q hq), rs.bd, rs.onew, fun q hq => (List.mem_cons.mp hq).elim (fun z => by rw [z]; exact .inr pB) (rs.new q)⟩
  refine Wants.partF rsm (w1.mono (hide_new e1 n)) fun p2 vs2 ds2 H2 w2 rs2 e2 n2 hp2 r2 => ?_
  show [V.ref p, V.ref p2].length ≤ sizeLine ∧ _
  refine ⟨show 2 ≤ sizeLine by decide, fun t nt => ⟨t, [.ref p, .ref p2], rfl, .inl (.inl upd_same), rfl, .ref p, [.ref p2], rfl, .ref p2, [], rfl, rfl, ?_⟩⟩
  have e3 : Ex H2 (upd H2 t (.tup [.ref p, .ref p2])) := Ex.new nt
  obtain ⟨rs3, sub⟩ := rs.less hs
  have sub2 : ∀ q ∈ p :: (B0 ++ ownA ow' σ ρ), q ∈ p :: S := fun q hq => (List.mem_cons.mp hq).elim (fun z => by rw [z]; exact List.mem_cons_self) fun z => List.mem_cons_of_mem _ (sub q z)
  have sub3 : ∀ q ∈ p2 :: p :: (B0 ++ ownA ow' σ ρ), q ∈ p2 :: p :: S := fun q hq => (List.mem_cons.mp hq).elim (fun z => by rw [z]; exact List.mem_cons_self) fun z => List.mem_cons_of_mem _ (sub2 q z)
  have rs4 := rs3.own hi1 e1 n hp (r.mono (hide_sub sub2))
  have rs5 := rs4.own hj1 (e2.trans e3) n2 (e3 _ _ hp2) ((r2.mono (hide_mono e3)).mono (hide_sub sub3))
  exact Wants.go w2 rs5 (((hide_new e2 n2).trans (hide_mono e3)).trans (hide_sub sub3))
end
end Dl
/-! The D layer, part 29: sorted of lists and tuples of data. -/
namespace Dl
open PySem PySem.Spec PyProof.Rows L2
section
variable {prog : Program} {w : World} {A : Around} {E : Value → Shared → Prop} {s : Shared}
/-- the heap once the items stand in a list of their own -/
def gone (h : Heap) (us : List Value) : Heap :=
  (h.push (seqObj "list" #[] 0)).update h.objs.size (Obj.mapSeq (· ++ us.toArray))
/-- what can be collected -/
def Coll (prog : Program) (w : World) (s : Shared) (x : Value) (us : List Value) : Prop :=
  ∀ (A : Around) (E : Value → Shared → Prop) (Q : List Value → Shared → Prop), Q us { s with heap := gone s.heap us } → wpAny (model prog w) A (collect x) Q E s
theorem coll_list {l : Addr} {us : List Value} (h : s.heap.IsList l us.toArray) (z : us.length ≤ sizeLine) : Coll prog w s (.ref l) us :=
  fun A E Q q => collect_list h q z
theorem coll_tup {l : Addr} {ob : Obj} {us : List Value} {n : Nat} (h1 : s.heap.get? l = some ob) (h2 : ob.cls = .type "tuple") (h3 : ob.data = .seq us.toArray n) (z : us.length ≤ sizeLine) : Coll prog w s (.ref l) us := by
  intro A E Q q
  unfold collect
  apply wpAny_bind
  refine wpAny_runValue (codeAny_builtin entry_proto_collect' ?_)
  show wpAny _ _ ((newList []) >>= fun p => again (.builtin "list.__iadd__" ⟨[p, .ref l], []⟩)) _ _ s
  apply wpAny_bind
  refine wpAny_newList ?_
  refine wpAny_pure ⟨Code.quiet_builtin _ (by decide +kernel), codeAny_builtin entry_list_iadd' ?_⟩
  show wpAny _ _ (Builtin.List.listExtendWith (.ref s.heap.objs.size) (.ref l) _) _ _ _
  unfold Builtin.List.listExtendWith
  have g1 : (s.heap.push (seqObj "list" #[] 0)).get? l = some ob := Heap.get?_push_of_some _ h1
  apply wpAny_bind
  refine wpAny_typeOf (T := "tuple") ⟨ob, g1, h2⟩ ?_
  have g2 : (Value.type "tuple" == Value.type "tuple") = true := rfl
  rw [if_pos (by simp [g2])]
  apply wpAny_bind
  refine listItems_at g1 h3 ?_
  apply wpAny_bind
  refine listItems_at (xs := #[]) (n := 0) (Heap.get?_push_size _ rfl) rfl ?_
  rw [if_neg (by simp)]
  apply wpAny_bind
  refine listUpdate_at (xs := #[]) (n := 0) (Heap.get?_push_size _ rfl) rfl ?_ (Nat.zero_le _) ?_
  · refine wpAny_pure ?_
    show wpAny _ _ (load s.heap.objs.size >>= fun o => match o.data with
      | .seq xs _ => pure xs.toList
      | _ => unsupported "internal:collect") Q E { s with heap := gone s.heap us }
    apply wpAny_bind
    refine wpAny_load (get?_update_seq (Heap.get?_push_size _ rfl) _) ?_
    refine wpAny_pure ?_
    have : ((#[] : Array Value) ++ us.toArray).toList = us := by simp
    show Q ((#[] : Array Value) ++ us.toArray).toList _
    rw [this]
    exact q
  · show (#[] ++ us.toArray).size ≤ sizeLine + 1
    simp
    omega
/-- sorted of what can be collected -/
theorem sorted_coll {x : Value} {us : List Value} {κ : KeyKind} {Q : Value → Shared → Prop} (hc : Coll prog w s x us) (z : us.length ≤ sizeLine)
    (S : PySem.W.SortsAt prog w A.in1.in1 { s with heap := PySem.W.sortingHeap (PySem.W.copyHeap s.heap us) (s.heap.objs.size + 1) us } κ us)
    (q : Q (.ref (s.heap.objs.size + 1)) { s with heap := sortedAll s.heap us (PySem.W.sortVals κ false us us).toArray }) : wpAny (model prog w) A (call (.builtin "sorted") [x]) Q E s := by
  refine call_function_entry_kw kind_sorted plain_sorted entry_sorted (args_sorted1 _) ?_
  unfold Builtin.«sorted»
  refine wpAny_bind (m := checkCount "sorted" 1 1 _) (wpAny_pure ?_)
  apply wpAny_bind
  refine hc _ _ _ ?_
  apply wpAny_bind
  refine wpAny_newList ?_ z
  have g : (gone s.heap us).objs.size = s.heap.objs.size + 1 := by
    unfold gone
    rw [Heap.size_update, size_push']
  show wpAny _ _ _ _ _ { s with heap := PySem.W.copyHeap s.heap us }
  rw [g]
  apply wpAny_bind
  refine wpAny_holding (wpAny_call_entry_kw slot_list_sort ⟨_, PySem.W.copyHeap_at s.heap us, rfl⟩ entry_list_sort ?b (args_list_sort _))
  case b =>
    refine PySem.W.list_sort_vals (s := { s with heap := PySem.W.copyHeap s.heap us }) (PySem.W.copyHeap_at s.heap us) S z ?_
    exact ⟨_, rfl, wpAny_pure ⟨_, rfl, q⟩⟩
end
end Dl
namespace Dl
open PySem PySem.Spec PyProof.Rows L2
/-! ### the order of data -/
/-- d stands ahead of e, or is alike -/
def leDD (d e : Dat) : Bool := PySem.W.dataLe false toPy d e
def notTN : Dat → Bool
  | .tup _ => false
  | .non => false
  | _ => true
def fullT : Dat → Bool
  | .tup l => !l.isEmpty
  | _ => false
/-- what can be sorted: data of one kind -/
def okSort (l : List Dat) : Bool := l.all (shp 6) && (l.all fun d => l.all fun e => PySem.W.alike (toPy d) (toPy e)) && (l.all fullT || l.all notTN) && decide (l.length ≤ sizeLine)
theorem okSort_al {l : List Dat} (h : okSort l = true) : (∀ d ∈ l, shp 6 d = true) ∧ PySem.W.AllAlike (l.map toPy) ∧ PySem.W.Sortable (l.map toPy) ∧ l.length ≤ sizeLine := by
  unfold okSort at h
  simp only [Bool.and_eq_true, Bool.or_eq_true, List.all_eq_true, decide_eq_true_eq] at h
  obtain ⟨⟨⟨h1, h2⟩, h3⟩, h4⟩ := h
  refine ⟨h1, ?_, ?_, h4⟩
  · intro d hd e he
    obtain ⟨x, hx, rfl⟩ := List.mem_map.mp hd
    obtain ⟨y, hy, rfl⟩ := List.mem_map.mp he
    exact h2 x hx y hy
  · rcases h3 with h3 | h3
    · refine .inl fun d hd => ?_
      obtain ⟨x, hx, rfl⟩ := List.mem_map.mp hd
      have := h3 x hx
      cases x with
      | tup l =>
        cases l with
        | nil => cases this
        | cons a r => exact ⟨toPy a, toPys r, by simp [toPy, toPys]⟩
      | _ => cases this
    · refine .inr fun d hd => ?_
      obtain ⟨x, hx, rfl⟩ := List.mem_map.mp hd
      have := h3 x hx
      cases x with
      | tup l => cases this
      | non => cases this
      | frz l => exact absurd (h1 _ hx) (by intro z; cases z)
      | obj c l => exact absurd (h1 _ hx) (by intro z; cases z)
      | dct c l => exact absurd (h1 _ hx) (by intro z; cases z)
      | rng i c n => exact absurd (h1 _ hx) (by intro z; cases z)
      | _ => exact ⟨by simp [toPy], fun xs => by simp [toPy]⟩
/-- sorted(xs): a new list -/
def rSortD (K : PySem.W.Frag) (T : CT) (g : List Dat → Option (List Dat)) : List V → Hp → VK → Prop := fun vs H Q => ∃ (a : Addr) (xs : List V) (ds : List Dat) (H0 : Hp), vs = [.ref a] ∧ (SqL K H a xs ∨ SqT K H a xs) ∧ Ex H0 H ∧ Reps K T H0 xs ds ∧ okSort ds = true ∧
  ∀ ys p, Reps K T H0 ys (ds.mergeSort leDD) → H p = none → Q (.ref p) (upd H p (.lst ys))
theorem vals_zip : ∀ {vs : List V} {us : List Value}, Vals vs us → ∀ (ds : List Dat), vs.length = ds.length → PySem.W.EachIs (fun u (b : V × Dat) => RelV b.1 u ∧ b ∈ vs.zip ds) us (vs.zip ds)
  | _, _, .nil, ds, h => by
    show PySem.W.EachIs _ [] []
    exact .nil
  | v :: vs, _, .cons r rs, [], h => by cases h
  | v :: vs, u :: us, .cons r rs, d :: ds, h => by
    refine .cons ⟨r, List.mem_cons_self⟩ ?_
    exact (vals_zip rs ds (Nat.succ.inj h)).mono fun _ _ ⟨a, b⟩ => ⟨a, List.mem_cons_of_mem _ b⟩
theorem each_vals : ∀ {us : List Value} {bs : List (V × Dat)} {l : List (V × Dat)}, PySem.W.EachIs (fun u (b : V × Dat) => RelV b.1 u ∧ b ∈ l) us bs → Vals (bs.map (·.1)) us
  | _, _, _, .nil => .nil
  | _, _, _, .cons ⟨a, _⟩ t => .cons a (each_vals t)
theorem reps_zip {K : PySem.W.Frag} {T : CT} {H : Hp} : ∀ {vs : List V} {ds : List Dat}, Reps K T H vs ds → ∀ b ∈ vs.zip ds, Rep K T H b.1 b.2
  | _, _, .nil, b, h => by cases h
  | _, _, .cons r rs, b, h => by
    rcases List.mem_cons.mp h with rfl | h
    · exact r
    · exact reps_zip rs b h
theorem reps_of_zip {K : PySem.W.Frag} {T : CT} {H : Hp} : ∀ {bs : List (V × Dat)}, (∀ b ∈ bs, Rep K T H b.1 b.2) → Reps K T H (bs.map (·.1)) (bs.map (·.2))
  | [], _ => .nil
  | b :: bs, h => .cons (h b List.mem_cons_self) (reps_of_zip fun c hc => h c (List.mem_cons_of_mem _ hc))
theorem zip_snd {vs : List V} {ds : List Dat} (h : vs.length = ds.length) : (vs.zip ds).map (·.2) = ds := List.map_snd_zip (by omega)
theorem mem_merge {α : Type} {le : α → α → Bool} {l : List α} {x : α} (h : x ∈ l.mergeSort le) : x ∈ l := (List.mergeSort_perm l le).mem_iff.mp h
section
variable {X : Cx} {T : CT}
theorem cr_sortD {g : List Dat → Option (List Dat)} (hu : X.A.units + 2 + 6 < cLine) : CallR X (.builtin "sorted") (rSortD X.K T g) := by
  intro pins s σ H vs us Q I r h
  obtain ⟨a, xs, ds, H0, rfl, hs, ex, rs, ok, q⟩ := h
  obtain ⟨sh, al, so, hz⟩ := okSort_al ok
  have hl := rs.length
  obtain ⟨its, rv, cc⟩ : ∃ its : List Value, Vals xs its ∧ Coll X.prog X.w s (.ref a) its := by
    rcases hs with hs | hs
    · obtain ⟨its, rv, h1, h2⟩ := I.list hs
      exact ⟨its, rv, coll_list h1.isList (by rw [← rv.length]; exact h2)⟩
    · obtain ⟨its, rv, ⟨ob, h1, h2, n, h3⟩, h4⟩ := I.tuple hs
      exact ⟨its, rv, coll_tup h1 h2 h3 (by rw [← rv.length]; exact h4)⟩
  rw [Vals.ref1 r]
  have zl : its.length ≤ sizeLine := by rw [← rv.length, hl]; exact hz
  have e := vals_zip rv ds hl
  have er : PySem.W.EachIs (fun u (b : V × Dat) => ∃ as, Reads (PySem.W.sortingHeap (PySem.W.copyHeap s.heap its) (s.heap.objs.size + 1) its) u (toPy b.2) as) its (xs.zip ds) := e.mono fun u b ⟨h1, h2⟩ => by
    have hb := reps_zip rs b h2
    have hd : b.2 ∈ ds := by rw [← zip_snd hl]; exact List.mem_map.mpr ⟨b, h2, rfl⟩
    obtain ⟨as, h3⟩ := Dp.reads I (toPy b.2) b.1 u ((hb.mono ex).dp (sh _ hd)) h1
    exact ⟨as, Reads.keeps (fun _ _ => PySem.W.sorting_copy_old) h3⟩
  have em : (xs.zip ds).map (fun b => toPy b.2) = ds.map toPy := by
    have := congrArg (List.map toPy) (zip_snd hl)
    rw [List.map_map] at this
    exact this
  have al' : PySem.W.AllAlike ((xs.zip ds).map fun b => toPy b.2) := by rw [em]; exact al
  have so' : PySem.W.Sortable ((xs.zip ds).map fun b => toPy b.2) := by rw [em]; exact so
  refine sorted_coll cc zl (PySem.W.SortsAt.data (s := { s with heap := PySem.W.sortingHeap (PySem.W.copyHeap s.heap its) (s.heap.objs.size + 1) its }) (PySem.W.each_map (R := fun v d => ∃ as, Reads (PySem.W.sortingHeap (PySem.W.copyHeap s.heap its) (s.heap.objs.size + 1) its) v d as) (fun b : V × Dat => toPy b.2) er) al' so' ?_) ?_
  · intro d hd
    rw [em] at hd
    obtain ⟨x, hx, rfl⟩ := List.mem_map.mp hd
    have := (shp_ok 6 x (sh x hx)).2
    show X.A.in1.in1.units + _ < cLine
    have : X.A.in1.in1.units = X.A.units + 2 := rfl
    omega
  · have out := PySem.W.sortVals_data false e er al'
    generalize PySem.W.sortVals (PySem.W.dataKind (PySem.W.sortingHeap (PySem.W.copyHeap s.heap its) (s.heap.objs.size + 1) its) ((xs.zip ds).map fun b => toPy b.2)) false its its = ws at out
    obtain ⟨ep, he⟩ := sortedAll_at s.heap its ws.toArray
    have vo := each_vals out
    have key : ((xs.zip ds).mergeSort (PySem.W.dataLe false fun b => toPy b.2)).map (·.2) = ds.mergeSort leDD := by
      rw [List.map_mergeSort (r := PySem.W.dataLe false fun b : V × Dat => toPy b.2) (s := leDD) (f := fun b : V × Dat => b.2) (fun a _ b _ => rfl), zip_snd hl]
    have ro : Reps X.K T H0 (((xs.zip ds).mergeSort (PySem.W.dataLe false fun b => toPy b.2)).map (·.1)) (ds.mergeSort leDD) := by
      rw [← key]
      exact reps_of_zip fun b hb => reps_zip rs b (mem_merge hb)
    have lo := ro.length
    rw [List.length_mergeSort] at lo
    exact ⟨.ref _, upd H (s.heap.objs.size + 1) (.lst (((xs.zip ds).mergeSort (PySem.W.dataLe false fun b => toPy b.2)).map (·.1))), I.laid (t' := s.toks) (fun _ _ => sortedAll_old) (Nat.le_succ _) ⟨by rw [lo]; exact hz, ws, ep, vo, he⟩, rfl, q _ _ ro (I.hok.fresh (Nat.le_succ _))⟩
end
end Dl
/-! The D layer, part 30: new lists of calls and operators as a name's own. -/
namespace Dl
open PySem PySem.Spec PyProof.Rows L2
def RcF (K : PySem.W.Frag) (T : CT) (r : List V → Hp → VK → Prop) (g : List Dat → Option (List Dat)) : Prop := ∀ (S : List Addr) (H : Hp) (vs : List V) (ds l : List Dat) (Q : VK), Hid H S → Reps K T (hide H S) vs ds → g ds = some l →
  (∀ p vs' H', Ex H H' → H p = none → H' p = some (.lst vs') → Reps K T (hide H' (p :: S)) vs' l → Q (.ref p) H') → r vs H Q
def fCB (g : List Dat → Option (List Dat)) (fs : DEnv → Res (List Dat)) : DEnv → Res (List Dat) := fun ρ => (fs ρ).bind fun ds => ofO (g ds)
def R2F (K : PySem.W.Frag) (T : CT) (r : R2) (g : Dat → Dat → Option (List Dat)) : Prop := ∀ (S : List Addr) (H : Hp) (x y : V) (dx dy : Dat) (l : List Dat) (Q : VK), Hid H S → Rep K T (hide H S) x dx → Rep K T (hide H S) y dy → g dx dy = some l →
  (∀ p vs' H', Ex H H' → H p = none → H' p = some (.lst vs') → Reps K T (hide H' (p :: S)) vs' l → Q (.ref p) H') → r x y H Q
def fOp (g : Dat → Dat → Option (List Dat)) (fa fb : DEnv → Res Dat) : DEnv → Res (List Dat) := fun ρ => (fa ρ).bind fun x => (fb ρ).bind fun y => ofO (g x y)
section
variable {X : Cx} {T : CT} {W : WX} {ow : List Nat} {e a b : Expr} {es : List Expr} {pos p : Pos} {fs : DEnv → Res (List Dat)} {fa fb : DEnv → Res Dat}
theorem RcF.read {K : PySem.W.Frag} {r : List V → Hp → VK → Prop} {g : List Dat → Option (List Dat)} {σ : Sg} {H : Hp} {Q : VK} (rd : RcF K T r g) (h : tDF K T W ow (fCB g fs) σ H Q) : tDA K T W ow fs σ H fun vs H1 => r vs H1 Q := by
  obtain ⟨ρ, S, re, w⟩ := h
  refine WantF.partA re w fun vs ds H1 w1 re1 e1 rs => ?_
  cases q : g ds with
  | none =>
    rw [q] at w1
    exact w1.elim
  | some l =>
    rw [q] at w1
    exact rd S H1 vs ds l Q re1.mt rs q w1
theorem df_callB {x : Str} {id : String} {r : List V → Hp → VK → Prop} {g : List Dat → Option (List Dat)} (hc : CallR X (.builtin id) r) (rd : RcF X.K T r g) (hm : X.mg x = none) (hv : bootBuiltins x = some (.builtin id)) (ha : DA X T W ow (e :: es) fs) (hg : Gl X x := by rfl) (hn : x ≠ "__name__" := by decide) (hdb : (x == ("__debug__" : Str)) = false := by decide)
    (he : starEach (e :: es) X.env = (false, eval e X.env) :: starEach es X.env := by rfl) (hpl : (backTo pos (starEach es X.env)).any (·.1) = false := by rfl) : DF X T W ow (.Call (.Name x p) (e :: es) [] pos) (fCB g fs) :=
  pe_imp (pe_callB hc hg hm hv ha hn hdb he hpl) fun _ _ _ h => rd.read h
theorem df_callTy {x : Str} {Ty : String} {r : List V → Hp → VK → Prop} {g : List Dat → Option (List Dat)} (hc : CallR X (.type Ty) r) (rd : RcF X.K T r g) (hm : X.mg x = none) (hv : bootBuiltins x = some (.type Ty)) (ha : DA X T W ow (e :: es) fs) (hg : Gl X x := by rfl) (hn : x ≠ "__name__" := by decide) (hdb : (x == ("__debug__" : Str)) = false := by decide)
    (he : starEach (e :: es) X.env = (false, eval e X.env) :: starEach es X.env := by rfl) (hpl : (backTo pos (starEach es X.env)).any (·.1) = false := by rfl) : DF X T W ow (.Call (.Name x p) (e :: es) [] pos) (fCB g fs) :=
  pe_imp (pe_callTy hc hg hm hv ha hn hdb he hpl) fun _ _ _ h => rd.read h
theorem df_op {op : Operator} {r : R2} {g : Dat → Dat → Option (List Dat)} (ho : OpR X (binaryOp op) r) (rd : R2F X.K T r g) (ha : DE X T W ow a fa) (hb : DE X T W ow b fb) : DF X T W ow (.BinOp a op b pos) (fOp g fa fb) :=
  pe_imp (pe_op ho ha hb) fun σ H Q h => by
    obtain ⟨ρ, S, re, w⟩ := h
    refine WantF.part re w fun x dx H1 w1 re1 e1 rx => ?_
    refine WantF.part re1 w1 fun y dy H2 w2 re2 e2 ry => ?_
    cases q : g dx dy with
    | none =>
      rw [q] at w2
      exact w2.elim
    | some l =>
      rw [q] at w2
      exact rd S H2 x y dx dy l Q re2.mt (rx.mono (hide_mono e2)) ry q w2
end
section
variable {K : PySem.W.Frag} {T : CT}
def seqF : List Dat → Option (List Dat)
  | [.lst l] => some l
  | [.frz l] => some l
  | [.tup l] => some l
  | _ => none
def sortF (ds : List Dat) : Option (List Dat) := (seqF ds).bind fun l => if okSort l = true then some (l.mergeSort leDD) else none
theorem seqF_ok {H : Hp} {S : List Addr} {vs : List V} {ds l : List Dat} (m : Hid H S) (rs : Reps K T (hide H S) vs ds) (e : seqF ds = some l) : ∃ p ys, vs = [.ref p] ∧ (SqL K H p ys ∨ SqT K H p ys) ∧ Reps K T (hide H S) ys l := by
  cases rs with
  | nil => cases e
  | cons r rs =>
    cases rs with
    | cons _ _ => cases r <;> cases e
    | nil =>
      cases r with
      | @lst p vs ds hs rs => cases e; exact ⟨p, vs, rfl, .inl (.inl (.inl (hide_ex _ _ hs))), rs⟩
      | @frz p vs ds hs rs => cases e; exact ⟨p, vs, rfl, .inl (ex_l hide_ex hs), rs⟩
      | @tup p vs ds hs rs => cases e; exact ⟨p, vs, rfl, .inr (ex_t hide_ex hs.sq), rs⟩
      | _ => cases e
theorem rc_listF : RcF K T (fun xs H Q => ∃ p ys, xs = [.ref p] ∧ (SqL K H p ys ∨ SqT K H p ys) ∧ ∀ l, H l = none → Q (.ref l) (upd H l (.lst ys))) seqF := fun S H vs ds l Q m rs e q => by
  obtain ⟨p, ys, h1, h2, h3⟩ := seqF_ok m rs e
  exact ⟨p, ys, h1, h2, fun a na => q a ys _ (Ex.new na) na upd_same (h3.mono (hide_new (Ex.new na) na))⟩
theorem rc_sortF {g : List Dat → Option (List Dat)} : RcF K T (rSortD K T g) sortF := fun S H vs ds l Q m rs e q => by
  unfold sortF at e
  cases z : seqF ds with
  | none => rw [z] at e; cases e
  | some l0 =>
    rw [z] at e
    have e : (if okSort l0 = true then some (l0.mergeSort leDD) else none) = some l := e
    by_cases ok : okSort l0 = true
    · rw [if_pos ok] at e
      cases e
      obtain ⟨p, ys, h1, h2, h3⟩ := seqF_ok m rs z
      exact ⟨p, ys, l0, hide H S, h1, h2, hide_ex, h3, ok, fun zs a hz na => q a zs _ (Ex.new na) na upd_same (hz.mono (hide_new (Ex.new na) na))⟩
    · rw [if_neg ok] at e
      cases e
def mulF : Dat → Dat → Option (List Dat)
  | .lst l, .int k => if k ≤ 100000 ∧ -100000 ≤ k ∧ l.length ≤ 100 then some (List.replicate k.toNat l).flatten else none
  | _, _ => none
def addF : Dat → Dat → Option (List Dat)
  | .lst a, .lst b => if a.length + b.length ≤ sizeLine then some (a ++ b) else none
  | _, _ => none
theorem rd_mulF : R2F K T (rMulAll K) mulF := fun S H x y dx dy l Q m rx ry e q => by
  cases rx with
  | @lst p vs ds hs rs =>
    cases ry with
    | int k =>
      simp only [mulF] at e
      by_cases z : k ≤ 100000 ∧ -100000 ≤ k ∧ ds.length ≤ 100
      · rw [if_pos z] at e
        cases e
        obtain ⟨z1, z2, z3⟩ := z
        have hk : k.toNat ≤ 100000 := by omega
        refine .inr (.inr (.inl ⟨p, k, vs, rfl, rfl, hide_ex _ _ hs, by omega, by omega, ?_, fun p2 np => ?_⟩))
        · rw [rs.length]
          exact Nat.le_trans (Nat.mul_le_mul z3 hk) (by decide)
        · exact q p2 _ _ (Ex.new np) np upd_same ((rs.flatten_replicate _).mono (hide_new (Ex.new np) np))
      · rw [if_neg z] at e
        cases e
    | _ => cases e
  | _ => cases ry <;> cases e
theorem rd_addF : R2F K T (rAddAll K) addF := fun S H x y dx dy l Q m rx ry e q => by
  cases rx with
  | @lst p vs ds hs rs =>
    cases ry with
    | @lst p' ws es ht ss =>
      simp only [addF] at e
      by_cases z : ds.length + es.length ≤ sizeLine
      · rw [if_pos z] at e
        cases e
        refine .inr (.inr (.inr ⟨p, p', vs, ws, rfl, rfl, hide_ex _ _ hs, hide_ex _ _ ht, by rw [rs.length, ss.length]; exact z, fun p2 np => ?_⟩))
        exact q p2 _ _ (Ex.new np) np upd_same ((rs.append ss).mono (hide_new (Ex.new np) np))
      · rw [if_neg z] at e
        cases e
    | _ => cases e
  | _ => cases ry <;> cases e
end
/-! ### list(range(..)) -/
def fRg1 (fa : DEnv → Res Dat) : DEnv → Res (List Dat) := fun ρ => (fa ρ).bind rg1K
def fRg2 (fa fb : DEnv → Res Dat) : DEnv → Res (List Dat) := fun ρ => (fa ρ).bind fun x => (fb ρ).bind fun y => rg2K x y
section
variable {X : Cx} {T : CT} {W : WX} {ow : List Nat} {a b : Expr} {pos p p2 pos2 : Pos} {fa fb : DEnv → Res Dat}
theorem rg_endF {σ : Sg} {H : Hp} {S : List Addr} {Q : VK} {i j : Int} (w : WantF X.K T W σ H S (rgK i j) Q) : RgOk i j ∧ ∀ q, H q = none → Q (.ref q) (upd H q (.lst (rgV i j))) := by
  cases z : rgK i j with
  | ok l =>
    rw [z] at w
    obtain ⟨ok, rfl⟩ := rgK_ok z
    exact ⟨ok, fun q nq => w q _ _ (Ex.new nq) nq upd_same (reps_rg i _)⟩
  | exc c => exact (rgK_not z).elim
  | stuck =>
    rw [z] at w
    exact w.elim
theorem df_lstRg1 (hmt : X.mg "list" = none) (hmr : X.mg "range" = none) (hc : X.calm = true) (ha : DE X T W ow a fa) (hgt : Gl X "list" := by rfl) (hgr : Gl X "range" := by rfl) (na : starEach [a] X.env = (false, eval a X.env) :: starEach [] X.env := by rfl)
    (ne : starEach [.Call (.Name "range" p) [a] [] pos] X.env = (false, eval (.Call (.Name "range" p) [a] [] pos) X.env) :: starEach [] X.env := by rfl) : DF X T W ow (.Call (.Name "list" p2) [.Call (.Name "range" p) [a] [] pos] [] pos2) (fRg1 fa) :=
  pe_imp (pe_listRg hc hgt hmt (prg_1 hgr hmr ha na) ne) fun σ H Q h => by
    obtain ⟨ρ, S, re, w⟩ := h
    refine WantF.part re w fun x dx H1 w1 re1 e1 rx => ?_
    cases rx with
    | int j => exact ⟨j, rfl, rg_endF w1⟩
    | _ => exact w1.elim
theorem df_lstRg2 (hmt : X.mg "list" = none) (hmr : X.mg "range" = none) (hc : X.calm = true) (ha : DE X T W ow a fa) (hb : DE X T W ow b fb) (hgt : Gl X "list" := by rfl) (hgr : Gl X "range" := by rfl) (na : starEach [a, b] X.env = (false, eval a X.env) :: starEach [b] X.env := by rfl)
    (nb : starEach [b] X.env = (false, eval b X.env) :: starEach [] X.env := by rfl) (hp : (backTo pos (starEach [b] X.env)).any (·.1) = false := by rfl)
    (ne : starEach [.Call (.Name "range" p) [a, b] [] pos] X.env = (false, eval (.Call (.Name "range" p) [a, b] [] pos) X.env) :: starEach [] X.env := by rfl) : DF X T W ow (.Call (.Name "list" p2) [.Call (.Name "range" p) [a, b] [] pos] [] pos2) (fRg2 fa fb) :=
  pe_imp (pe_listRg hc hgt hmt (prg_2 hgr hmr ha hb na nb hp) ne) fun σ H Q h => by
    obtain ⟨ρ, S, re, w⟩ := h
    refine WantF.part re w fun x dx H1 w1 re1 e1 rx => ?_
    refine WantF.part re1 w1 fun y dy H2 w2 re2 e2 ry => ?_
    cases rx with
    | int i =>
      cases ry with
      | int j => exact ⟨i, j, rfl, rfl, rg_endF w2⟩
      | _ => exact w2.elim
    | _ => cases ry <;> exact w2.elim
end
end Dl
/-! The D layer, part 31: x, y = e, [..], the new list y's own; more of three. -/
namespace Dl
open PySem PySem.Spec PyProof.Rows L2
def sPar2O (i j : Nat) (f : DEnv → Res Dat) (g : DEnv → Res (List Dat)) : DEnv → DFlow := fun ρ => rBind (f ρ) ρ fun d => rBind (g ρ) ρ fun e => .nx ((ρ.set i (some d)).set j (some (.lst e)))
section
variable {X : Cx} {T : CT} {W : WX} {ow ow' ob : List Nat} {a b : Expr} {f : DEnv → Res Dat}
theorem ds_par2O {g : DEnv → Res (List Dat)} {i j : Nat} {x y : Str} {px py pt pos : Pos} {kt k2 pt2} (hc : X.calm = true) (hN : X.N.Nodup) (ha : DE X T W ow a f) (hb : DF X T W ow b g) (hs : ∀ k ∈ ow', k ∈ ow) (hi1 : i ∉ ow') (hj1 : j ∉ ow') (hw : swappedStores [.Tuple [.Name x px, .Name y py] kt pt] (.Tuple [a, b] k2 pt2) X.env = pure (some [x, y]))
    (hi : X.N[i]? = some x := by rfl) (hj : X.N[j]? = some y := by rfl) (hij : i ≠ j := by decide) (hx : X.env.scope.names.lookup x = some .local := by rfl) (hy : X.env.scope.names.lookup y = some .local := by rfl)
    (h1 : starEach [a, b] X.env = (false, eval a X.env) :: starEach [b] X.env := by rfl) (h2 : starEach [b] X.env = (false, eval b X.env) :: starEach [] X.env := by rfl) (hsw : swapsWithSole [.Tuple [.Name x px, .Name y py] kt pt] (.Tuple [a, b] k2 pt2) pos.line X.env = pure false := by rfl) :
    DS X T W ow (j :: ow') ob (.Assign [.Tuple [.Name x px, .Name y py] kt pt] (.Tuple [a, b] k2 pt2) pos) (sPar2O i j f g) := ps_imp (ps_par hc hN hi hj hij hx hy (pa_cons ha (pa_cons (te := tDF X.K T W ow g) hb pa_nil h2) h1) hw hsw) fun D σ H q => by
  obtain ⟨B, B0, ρ, S, rs, w⟩ := q
  refine Wants.part rs w fun v d H1 w1 rs1 e1 rv => ?_
  refine Wants.partF rs1 w1 fun p vs ds H2 w2 rs2 e2 n hp r => ?_
  refine ⟨v, .ref p, rfl, ?_⟩
  obtain ⟨rs3, sub⟩ := rs1.less hs
  have sub2 : ∀ q ∈ p :: (B0 ++ ownA ow' σ ρ), q ∈ p :: S := fun q hq => (List.mem_cons.mp hq).elim (fun z => by rw [z]; exact List.mem_cons_self) fun z => List.mem_cons_of_mem _ (sub q z)
  have rs4 := rs3.set hi1 (rv.mono (hide_sub sub))
  have rs5 := rs4.own hj1 e2 n hp (r.mono (hide_sub sub2))
  exact Wants.go w2 rs5 ((hide_new e2 n).trans (hide_sub sub2))
theorem ds_par2OT {g : DEnv → Res (List Dat)} {i j : Nat} {x y : Str} {px py pt pos : Pos} {kt k2 pt2} (hc : X.calm = true) (hN : X.N.Nodup) (ha : DE X T W ow a f) (hb : DF X T W ow b g) (hs : ∀ k ∈ ow', k ∈ ow) (hi1 : i ∉ ow') (hj1 : j ∉ ow')
    (hi : X.N[i]? = some x := by rfl) (hj : X.N[j]? = some y := by rfl) (hij : i ≠ j := by decide) (hx : Loc X.env.scope x := by first | exact .inl rfl | exact .inr rfl) (hy : Loc X.env.scope y := by first | exact .inl rfl | exact .inr rfl)
    (hfx : X.fn x = true ∨ X.env.scope.names.lookup x = some .local := by first | exact .inl rfl | exact .inr rfl) (hfy : X.fn y = true ∨ X.env.scope.names.lookup y = some .local := by first | exact .inl rfl | exact .inr rfl)
    (h1 : starEach [a, b] X.env = (false, eval a X.env) :: starEach [b] X.env := by rfl) (h2 : starEach [b] X.env = (false, eval b X.env) :: starEach [] X.env := by rfl) (hsw : swapsWithSole [.Tuple [.Name x px, .Name y py] kt pt] (.Tuple [a, b] k2 pt2) pos.line X.env = pure false := by rfl)
    (hw : swappedStores [.Tuple [.Name x px, .Name y py] kt pt] (.Tuple [a, b] k2 pt2) X.env = pure none := by rfl) (hae : (assignEach [.Tuple [.Name x px, .Name y py] kt pt] X.env).map (·.2) = [assign (.Tuple [.Name x px, .Name y py] kt pt) X.env] := by rfl)
    (ht1 : (assignEach [.Name x px, .Name y py] X.env).map (·.2) = assign (.Name x px) X.env :: (assignEach [.Name y py] X.env).map (·.2) := by rfl) (ht2 : (assignEach [.Name y py] X.env).map (·.2) = assign (.Name y py) X.env :: (assignEach [] X.env).map (·.2) := by rfl)
    (hn : (assignEach [.Name x px, .Name y py] X.env).length = 2 := by rfl) (hst : (assignEach [.Name x px, .Name y py] X.env).findIdx? (·.1) = none := by rfl) :
    DS X T W ow (j :: ow') ob (.Assign [.Tuple [.Name x px, .Name y py] kt pt] (.Tuple [a, b] k2 pt2) pos) (sPar2O i j f g) :=
  ps_imp (ps_asg (pe_tup (pa_cons ha (pa_cons (te := tDF X.K T W ow g) hb pa_nil h2) h1)) (pg_tup hc (pgs_cons (pg_name hN hi hx hfx) (pgs_cons (pg_name hN hj hy hfy) pgs_nil ht2) ht1) hn hst) hsw hw hae) fun D σ H q => by
  obtain ⟨B, B0, ρ, S, rs, w⟩ := q
  refine Wants.part rs w fun v d H1 w1 rs1 e1 rv => ?_
  refine Wants.partF rs1 w1 fun p vs ds H2 w2 rs2 e2 n hp r => ?_
  show [v, V.ref p].length ≤ sizeLine ∧ _
  refine ⟨show 2 ≤ sizeLine by decide, fun t nt => ⟨t, [v, .ref p], rfl, .inl (.inl upd_same), rfl, v, [.ref p], rfl, .ref p, [], rfl, rfl, ?_⟩⟩
  have e3 : Ex H2 (upd H2 t (.tup [v, .ref p])) := Ex.new nt
  obtain ⟨rs3, sub⟩ := rs1.less hs
  have sub2 : ∀ q ∈ p :: (B0 ++ ownA ow' σ ρ), q ∈ p :: S := fun q hq => (List.mem_cons.mp hq).elim (fun z => by rw [z]; exact List.mem_cons_self) fun z => List.mem_cons_of_mem _ (sub q z)
  have rs4 := rs3.set hi1 (rv.mono (hide_sub sub))
  have rs5 := rs4.own hj1 (e2.trans e3) n (e3 _ _ hp) ((r.mono (hide_mono e3)).mono (hide_sub sub2))
  exact Wants.go w2 rs5 (((hide_new e2 n).trans (hide_mono e3)).trans (hide_sub sub2))
end
end Dl
/-! The D layer, part 32: x, y, z = e, e2, [..], the new list z's own. -/
namespace Dl
open PySem PySem.Spec PyProof.Rows L2
def sPar3O (i j l : Nat) (f f2 : DEnv → Res Dat) (g : DEnv → Res (List Dat)) : DEnv → DFlow := fun ρ => rBind (f ρ) ρ fun d => rBind (f2 ρ) ρ fun d2 => rBind (g ρ) ρ fun e => .nx (((ρ.set i (some d)).set j (some d2)).set l (some (.lst e)))
section
variable {X : Cx} {T : CT} {W : WX} {ow ow' ob : List Nat} {a b c : Expr} {f f2 : DEnv → Res Dat}
theorem ds_par3OT {g : DEnv → Res (List Dat)} {i j l : Nat} {x y z : Str} {px py pz pt pos : Pos} {kt k2 pt2} (hc : X.calm = true) (hN : X.N.Nodup) (ha : DE X T W ow a f) (hb : DE X T W ow b f2) (hd : DF X T W ow c g) (hs : ∀ k ∈ ow', k ∈ ow) (hi1 : i ∉ ow') (hj1 : j ∉ ow') (hl1 : l ∉ ow')
    (hi : X.N[i]? = some x := by rfl) (hj : X.N[j]? = some y := by rfl) (hl : X.N[l]? = some z := by rfl) (hx : Loc X.env.scope x := by first | exact .inl rfl | exact .inr rfl) (hy : Loc X.env.scope y := by first | exact .inl rfl | exact .inr rfl) (hz : Loc X.env.scope z := by first | exact .inl rfl | exact .inr rfl)
    (hfx : X.fn x = true ∨ X.env.scope.names.lookup x = some .local := by first | exact .inl rfl | exact .inr rfl) (hfy : X.fn y = true ∨ X.env.scope.names.lookup y = some .local := by first | exact .inl rfl | exact .inr rfl) (hfz : X.fn z = true ∨ X.env.scope.names.lookup z = some .local := by first | exact .inl rfl | exact .inr rfl)
    (h1 : starEach [a, b, c] X.env = (false, eval a X.env) :: starEach [b, c] X.env := by rfl) (h2 : starEach [b, c] X.env = (false, eval b X.env) :: starEach [c] X.env := by rfl) (h3 : starEach [c] X.env = (false, eval c X.env) :: starEach [] X.env := by rfl)
    (hsw : swapsWithSole [.Tuple [.Name x px, .Name y py, .Name z pz] kt pt] (.Tuple [a, b, c] k2 pt2) pos.line X.env = pure false := by rfl)
    (hw : swappedStores [.Tuple [.Name x px, .Name y py, .Name z pz] kt pt] (.Tuple [a, b, c] k2 pt2) X.env = pure none := by rfl) (hae : (assignEach [.Tuple [.Name x px, .Name y py, .Name z pz] kt pt] X.env).map (·.2) = [assign (.Tuple [.Name x px, .Name y py, .Name z pz] kt pt) X.env] := by rfl)
    (ht1 : (assignEach [.Name x px, .Name y py, .Name z pz] X.env).map (·.2) = assign (.Name x px) X.env :: (assignEach [.Name y py, .Name z pz] X.env).map (·.2) := by rfl) (ht2 : (assignEach [.Name y py, .Name z pz] X.env).map (·.2) = assign (.Name y py) X.env :: (assignEach [.Name z pz] X.env).map (·.2) := by rfl)
    (ht3 : (assignEach [.Name z pz] X.env).map (·.2) = assign (.Name z pz) X.env :: (assignEach [] X.env).map (·.2) := by rfl)
    (hn : (assignEach [.Name x px, .Name y py, .Name z pz] X.env).length = 3 := by rfl) (hst : (assignEach [.Name x px, .Name y py, .Name z pz] X.env).findIdx? (·.1) = none := by rfl) :
    DS X T W ow (l :: ow') ob (.Assign [.Tuple [.Name x px, .Name y py, .Name z pz] kt pt] (.Tuple [a, b, c] k2 pt2) pos) (sPar3O i j l f f2 g) :=
  ps_imp (ps_asg (pe_tup (pa_cons ha (pa_cons hb (pa_cons (te := tDF X.K T W ow g) hd pa_nil h3) h2) h1)) (pg_tup hc (pgs_cons (pg_name hN hi hx hfx) (pgs_cons (pg_name hN hj hy hfy) (pgs_cons (pg_name hN hl hz hfz) pgs_nil ht3) ht2) ht1) hn hst) hsw hw hae) fun D σ H q => by
  obtain ⟨B, B0, ρ, S, rs, w⟩ := q
  refine Wants.part rs w fun v d H1 w1 rs1 e1 rv => ?_
  refine Wants.part rs1 w1 fun v2 d2 H12 w12 rs12 e12 rv2 => ?_
  refine Wants.partF rs12 w12 fun p vs ds H2 w2 rs2 e2 n hp r => ?_
  show [v, v2, V.ref p].length ≤ sizeLine ∧ _
  refine ⟨show 3 ≤ sizeLine by decide, fun t nt => ⟨t, [v, v2, .ref p], rfl, .inl (.inl upd_same), rfl, v, [v2, .ref p], rfl, v2, [.ref p], rfl, .ref p, [], rfl, rfl, ?_⟩⟩
  have e3 : Ex H2 (upd H2 t (.tup [v, v2, .ref p])) := Ex.new nt
  obtain ⟨rs3, sub⟩ := rs12.less hs
  have sub2 : ∀ q ∈ p :: (B0 ++ ownA ow' σ ρ), q ∈ p :: S := fun q hq => (List.mem_cons.mp hq).elim (fun z => by rw [z]; exact List.mem_cons_self) fun z => List.mem_cons_of_mem _ (sub q z)
  have rs4 := rs3.set hi1 ((rv.mono (hide_mono e12)).mono (hide_sub sub))
  have rs4b := rs4.set hj1 (rv2.mono (hide_sub sub))
  have rs5 := rs4b.own hl1 (e2.trans e3) n (e3 _ _ hp) ((r.mono (hide_mono e3)).mono (hide_sub sub2))
  exact Wants.go w2 rs5 (((hide_new e2 n).trans (hide_mono e3)).trans (hide_sub sub2))
end
/-! text times a number -/
def rMulS : R2 := fun x y H Q => ∃ (a : Str) (k : Int), x = .str a ∧ y = .int k ∧ a.length ≤ 1000 ∧ -1000 ≤ k ∧ k ≤ 1000 ∧ Q (.str (Txt.mul a k)) H
theorem op_mulS {X : Cx} : OpR X (binaryOp .Mult) rMulS := by
  intro pins s σ H x y v u Q I rx ry h
  obtain ⟨a, k, rfl, rfl, h1, h2, h3, q⟩ := h
  obtain ⟨t, rfl⟩ := rx
  obtain ⟨t2, rfl⟩ := ry
  exact SB.mul (mulOk_of 1000 1000 h1 h3 (by omega) (by decide) (by decide)) fun t' k' => ⟨.str _, H, I.tok _, ⟨_, rfl⟩, q⟩
def mulSD : Dat → Dat → Option Dat
  | .str a, .int k => if a.length ≤ 1000 ∧ -1000 ≤ k ∧ k ≤ 1000 then some (.str (Txt.mul a k)) else none
  | _, _ => none
theorem rd_mulS {K : PySem.W.Frag} {T : CT} : R2D K T rMulS mulSD := fun S H x y dx dy d Q m rx ry e q => by
  cases rx with
  | str a =>
    cases ry with
    | int k =>
      simp only [mulSD] at e
      by_cases z : a.length ≤ 1000 ∧ -1000 ≤ k ∧ k ≤ 1000
      · rw [if_pos z] at e
        cases e
        exact ⟨a, k, rfl, rfl, z.1, z.2.1, z.2.2, q _ H (Ex.refl H) (.str _)⟩
      · rw [if_neg z] at e
        cases e
    | _ => cases e
  | _ => cases e
end Dl
/-! The D layer, part 33: sorted(set(l)) of a list of ints; isinstance of an own class. -/
namespace Dl
open PySem PySem.Spec PyProof.Rows L2
section
variable {P : Program} {w : World} {A : Around} {E : Value → Shared → Prop} {s : Shared}
/-- the empty set that set(..) begins with -/
abbrev set0 (w : World) : Obj := { cls := .type "set", dict := none, data := .set #[] 0 (.fresh 0 0 (!w.params.followText "set-order")) }
theorem set_of_list {l : Addr} {items : Array Value} (ns : List Int) {Q : Value → Shared → Prop} (hh : A.handled = none) (hl : s.heap.IsList l items) (hit : IntsAre items.toList ns) (hb : ns.length + 1 < scanBound)
    (h : ∀ (h' : Heap) (tk c : Nat), SetR w h' s.heap.objs.size (fun j => decide (j ∈ ns)) c → c ≤ ns.length → (∀ b o, s.heap.get? b = some o → h'.get? b = some o) → Q (.ref s.heap.objs.size) { s with heap := h', toks := tk }) :
    wpAny (model P w) A (call (.type "set") [.ref l]) Q E s := by
  have sz : items.size = ns.length := by
    have q := IntsAre.length hit
    rwa [Array.length_toList] at q
  have at' : ∀ (i : Nat) (v : Value), items[i]? = some v → ∃ k t, ns[i]? = some k ∧ v = .int k t := fun i v hv => by
    have hi : i < ns.length := sz ▸ (Array.getElem?_eq_some_iff.mp hv).1
    obtain ⟨t, e⟩ := IntsAre.int_at hit i v (by rw [Array.getElem?_toList]; exact hv)
    exact ⟨ns[i], t, List.getElem?_eq_getElem hi, by rw [e, List.getD_eq_getElem?_getD, List.getElem?_eq_getElem hi] <;> rfl⟩
  obtain ⟨_, _, hmro⟩ := F.called_set.mro
  have hmade := F.called_set.made
  have hsub := F.called_set.sub
  have h1 := F.called_set.notType
  have h2 := F.called_set.canCreate
  have hct := F.typeCall_set_1 (.ref l)
  refine wpAny_call (codeAny_of_tree (show wpAny _ _ (callAny (.type "set") _) _ _ _ from wpAny_pure ⟨Code.quiet_builtin _ (by decide +kernel), codeAny_builtin F.entry_type_call ?_⟩))
  rw [Around.under_plain (weight_type_call_type "set" [.ref l] []) rfl]
  repeat (any_goals (first | assumption | wp_step))
  refine codeAny_mono (code_set_led1 (.ref l) (E := E) (Q₁ := fun obj s₁ => obj = .ref s.heap.objs.size ∧ s₁ = { s with heap := s.heap.push (set0 w) }) ⟨rfl, rfl⟩) fun r s₁ hr => ?_
  match r, hr with
  | .error e, hr => exact hr
  | .ok (.ret obj), hr =>
    obtain ⟨rfl, rfl⟩ := hr
    have hS : (s.heap.push (set0 w)).get? s.heap.objs.size = some (set0 w) := Heap.get?_push_size _ rfl
    have hT : Shared.TypeIs { s with heap := s.heap.push (set0 w) } (.ref s.heap.objs.size) "set" := ⟨_, hS, rfl⟩
    have hli := F.called_set.init.lookup
    have hbi := F.called_set.init.bind (.ref s.heap.objs.size)
    repeat (any_goals (first | assumption | wp_step))
    refine codeAny_mono (codeAny_call_builtin (R := wants (fun r s₂ => r = .none ∧ ∃ h' tk c, s₂ = { s with heap := h', toks := tk } ∧ SetR w h' s.heap.objs.size (fun j => decide (j ∈ ns)) c ∧ c ≤ ns.length ∧ (∀ b o, s.heap.get? b = some o → h'.get? b = some o)) E) F.called_set.init.plain F.entry_set_init (check_set_init_1 hT ?_)) fun r₂ s₂ hr₂ => ?_
    · obtain ⟨⟨ocls, odict, odata, oslots⟩, hol, hcl, nl, hdl⟩ := hl
      simp only at hcl hdl
      subst hcl hdl
      have hol' : (s.heap.push (set0 w)).get? l = some { cls := .type "list", dict := odict, data := .seq items nl, slots := oslots } := Heap.get?_push_of_some _ hol
      have hsls := F.sub_list_set
      have hslf := F.sub_list_frozenset
      have hne : (Value.type "list" == Value.type "dict") = false := by decide
      have hl1 : (s.heap.push (set0 w)).IsList l items := ⟨_, hol', rfl, nl, rfl⟩
      unfold Builtin.«set.__init__» noKeywords Builtin.Frozenset.updateFrom
      generalize hPI : pyIter = PI
      wp_walk
      subst hPI
      refine wpAny_pyIter_list hl1 (wpAny_bind (wpAny_runValue ?_))
      have lt := Heap.lt_size hol
      have z1 : (s.heap.push (set0 w)).objs.size = s.heap.objs.size + 1 := Heap.size_push ..
      have hh3 : A.in1.in1.in1.handled = none := by simp [hh]
      refine set_update_ints ((Walks.list hh3 _ l (by rw [z1]; exact Nat.ne_of_lt (Nat.lt_succ_of_lt lt)) items).toS) s.heap.objs.size
        (by rw [z1]; simp only [List.mem_cons, List.mem_singleton, List.not_mem_nil, or_false, not_or]; exact ⟨Nat.ne_of_lt (Nat.lt_succ_self _), Nat.ne_of_gt lt⟩)
        ns sz hb at' (items.size - 0) 0 _ (by omega) (Nat.zero_le _) ⟨⟨_, Heap.get?_push_size _ rfl, rfl, rfl⟩, (hl1.push _)⟩ ⟨0, Nat.le_refl 0, setR_new_at (Heap.get?_push_of_some _ hS)⟩ ?_
      rintro ⟨h', g2, d', tk', os'⟩ c' hm hc' hS'
      have eg : g2 = s.gens := hm.gens
      have ed : d' = s.drawn := hm.drawn
      have eo : os' = s.os := hm.os
      subst eg ed eo
      show wpAny _ _ _ _ _ _
      refine wpAny_pure ?_
      show wpAny _ _ (ret Value.none) _ _ _
      refine wpAny_pure ⟨rfl, h', tk', c', rfl, hS', by rw [← sz]; exact hc', fun b o e => ?_⟩
      have hb0 : b < s.heap.objs.size := Heap.lt_size e
      exact hm.heap b o (by simp only [z1, List.mem_cons, List.mem_singleton, List.not_mem_nil, or_false, not_or]; exact ⟨Nat.ne_of_lt hb0, Nat.ne_of_lt (Nat.lt_succ_of_lt hb0)⟩) (Heap.get?_push_of_some _ (Heap.get?_push_of_some _ e))
    · match r₂, hr₂ with
      | .error e, hr₂ => exact hr₂
      | .ok (.ret r), hr₂ =>
        obtain ⟨rfl, h', tk, c', rfl, hS', hc', hk'⟩ := hr₂
        repeat (any_goals (first | assumption | wp_step))
        exact h _ _ _ hS' hc' hk'
end
end Dl
/-! The D layer, part 34: sorted(set(l)), l a list of ints; isinstance of an own class. -/
namespace Dl
open PySem PySem.Spec PyProof.Rows L2
/-! ascending, each once -/
def insI (x : Int) : List Int → List Int
  | [] => [x]
  | y :: l => if x < y then x :: y :: l else if x = y then y :: l else y :: insI x l
def ssort (l : List Int) : List Int := l.foldr insI []
theorem ins_mem {x k : Int} : ∀ {l : List Int}, k ∈ insI x l ↔ k = x ∨ k ∈ l
  | [] => by unfold insI; simp
  | y :: l => by
    unfold insI
    split
    · simp
    · split
      · rename_i h
        subst h
        simp
      · rw [List.mem_cons, ins_mem (l := l), List.mem_cons]
        constructor
        · rintro (h | h | h)
          · exact .inr (.inl h)
          · exact .inl h
          · exact .inr (.inr h)
        · rintro (h | h | h)
          · exact .inr (.inl h)
          · exact .inl h
          · exact .inr (.inr h)
theorem ins_asc {x : Int} : ∀ {l : List Int}, l.Pairwise (· < ·) → (insI x l).Pairwise (· < ·)
  | [], _ => List.pairwise_singleton _ _
  | y :: l, h => by
    have hc := List.pairwise_cons.mp h
    unfold insI
    split
    · rename_i q
      refine List.pairwise_cons.mpr ⟨fun z hz => ?_, h⟩
      rcases List.mem_cons.mp hz with rfl | hz
      · exact q
      · have := hc.1 z hz; omega
    · split
      · exact h
      · refine List.pairwise_cons.mpr ⟨fun z hz => ?_, ins_asc hc.2⟩
        rcases ins_mem.mp hz with rfl | hz
        · omega
        · exact hc.1 z hz
theorem ssort_mem {k : Int} : ∀ {l : List Int}, k ∈ ssort l ↔ k ∈ l
  | [] => Iff.rfl
  | x :: l => by
    show k ∈ insI x (ssort l) ↔ _
    rw [ins_mem, ssort_mem (l := l), List.mem_cons]
theorem ssort_asc : ∀ l : List Int, (ssort l).Pairwise (· < ·)
  | [] => List.Pairwise.nil
  | x :: l => ins_asc (ssort_asc l)
theorem asc_eq : ∀ {l m : List Int}, l.Pairwise (· < ·) → m.Pairwise (· < ·) → (∀ k, k ∈ l ↔ k ∈ m) → l = m
  | [], [], _, _, _ => rfl
  | [], y :: m, _, _, h => absurd ((h y).mpr List.mem_cons_self) (by simp)
  | x :: l, [], _, _, h => absurd ((h x).mp List.mem_cons_self) (by simp)
  | x :: l, y :: m, hl, hm, h => by
    have h1 := List.pairwise_cons.mp hl
    have h2 := List.pairwise_cons.mp hm
    have e : x = y := by
      rcases List.mem_cons.mp ((h x).mp List.mem_cons_self) with e | e
      · exact e
      · rcases List.mem_cons.mp ((h y).mpr List.mem_cons_self) with e2 | e2
        · exact e2.symm
        · have a := h1.1 y e2
          have b := h2.1 x e
          omega
    subst e
    congr 1
    refine asc_eq h1.2 h2.2 fun k => ⟨fun hk => ?_, fun hk => ?_⟩
    · rcases List.mem_cons.mp ((h k).mp (List.mem_cons_of_mem _ hk)) with e | e
      · have := h1.1 k hk; omega
      · exact e
    · rcases List.mem_cons.mp ((h k).mpr (List.mem_cons_of_mem _ hk)) with e | e
      · have := h2.1 k hk; omega
      · exact e
section
variable {X : Cx}
def rSetI (K : PySem.W.Frag) (w : World) : List V → Hp → VK → Prop := fun xs H Q => ∃ (l : Addr) (ns : List Int), xs = [V.ref l] ∧ SqL K H l (ns.map V.int) ∧ ns.length < 60 ∧ ∀ a c, H a = none → c ≤ ns.length → Q (.ref a) (upd H a (SetO w a (fun j => decide (j ∈ ns)) c))
theorem cr_setI (hc : X.calm = true) : CallR X (.type "set") (rSetI X.K X.w) := by
  intro pins s σ H xs us Q I r h
  obtain ⟨l, ns, rfl, hl, hf, q⟩ := h
  rw [Vals.ref1 r]
  obtain ⟨its, rv, pl, hz⟩ := I.list hl
  have hi : IntsAre its ns := ints_of_vals rv
  refine set_of_list (P := X.prog) (w := X.w) ns (I.ok.hd hc) pl.isList (by simpa using hi) (by unfold scanBound; omega) fun h' tk c R hc k => ?_
  exact ⟨.ref s.heap.objs.size, upd H s.heap.objs.size (SetO X.w s.heap.objs.size (fun j => decide (j ∈ ns)) c), I.laid (t' := tk) k (Nat.le_refl _) (setO_new R), rfl, q _ c (I.hok.fresh (Nat.le_refl _)) hc⟩
/-- sorted(set(..)), in one -/
def rSSet (K : PySem.W.Frag) (w : World) : List V → Hp → VK → Prop := fun xs H Q => rSetI K w xs H fun v H1 => rSortedSet w [v] H1 Q
def ssetF (ds : List Dat) : Option (List Dat) := match ds with
  | [.lst l] => match intsD l with
    | some ns => if ns.length < 60 then some ((ssort ns).map .int) else none
    | none => none
  | _ => none
theorem reps_ints {K : PySem.W.Frag} {T : CT} {H : Hp} : ∀ {vs : List V} {ds : List Dat} {ns : List Int}, Reps K T H vs ds → intsD ds = some ns → vs = ns.map V.int
  | _, _, ns, .nil, h => by cases h; rfl
  | _, _, ns, .cons (v := v) (vs := vs) (d := d) (ds := ds) r rs, h => by
    cases r with
    | int i =>
      have h : (intsD ds).map (fun l => i :: l) = some ns := h
      cases q : intsD ds with
      | none => rw [q] at h; cases h
      | some l =>
        rw [q] at h
        cases h
        rw [reps_ints rs q]
        rfl
    | _ => cases h
theorem rep_ints {K : PySem.W.Frag} {T : CT} {H : Hp} : ∀ ns : List Int, Reps K T H (ns.map V.int) (ns.map .int)
  | [] => .nil
  | n :: ns => .cons (.int n) (rep_ints ns)
theorem rc_sset {K : PySem.W.Frag} {T : CT} {w : World} : RcF K T (rSSet K w) ssetF := fun S H vs ds l Q m rs e q => by
  match ds, e with
  | [.lst dl], e =>
    cases rs with
    | cons r rs =>
      cases rs
      cases r with
      | lst ha hr =>
        rename_i a us
        unfold ssetF at e
        cases hi : intsD dl with
        | none => simp only [hi] at e; cases e
        | some ns =>
          simp only [hi] at e
          split at e
          · rename_i hl
            cases e
            have hu := reps_ints hr hi
            subst hu
            refine ⟨a, ns, rfl, .inl (.inl (hide_ex _ _ ha)), hl, fun b c hb hc => ⟨b, _, c, rfl, upd_same .., by omega, fun ms p pw mem len hp => ?_⟩⟩
            have em : ms = ssort ns := asc_eq pw (ssort_asc ns) fun k => by rw [mem, ssort_mem, decide_eq_true_iff]
            subst em
            have pb : p ≠ b := fun z => by rw [z, upd_same] at hp; cases hp
            have hp' : H p = none := by rwa [upd_ne pb] at hp
            exact q p _ _ ((Ex.new hb).trans (Ex.new hp)) hp' (upd_same ..) (rep_ints _)
          · cases e
variable {T : CT} {W : WX} {ow : List Nat} {e : Expr} {es : List Expr} {pos p pos2 p2 : Pos} {fs : DEnv → Res (List Dat)} {fa : DEnv → Res Dat}
theorem df_sset (hc : X.calm = true) (hm1 : X.mg "sorted" = none) (hm2 : X.mg "set" = none) (ha : DA X T W ow (e :: es) fs) (hg1 : Gl X "sorted" := by rfl) (hg2 : Gl X "set" := by rfl)
    (he : starEach (e :: es) X.env = (false, eval e X.env) :: starEach es X.env := by rfl) (hpl : (backTo pos (starEach es X.env)).any (·.1) = false := by rfl)
    (he2 : starEach [.Call (.Name "set" p) (e :: es) [] pos] X.env = (false, eval (.Call (.Name "set" p) (e :: es) [] pos) X.env) :: starEach [] X.env := by rfl) :
    DF X T W ow (.Call (.Name "sorted" p2) [.Call (.Name "set" p) (e :: es) [] pos] [] pos2) (fCB ssetF fs) :=
  pe_imp (pe_callB (cr_sortedSet hc) hg1 hm1 (by decide +kernel) (pa_cons (pe_callTy (cr_setI hc) hg2 hm2 (by decide +kernel) ha (by decide) (by decide) he hpl) pa_nil he2) (by decide) (by decide) he2 rfl) fun σ H Q h => rc_sset.read h
/-! isinstance(x, C), C an own class: of its instances only -/
structure IsC (K : PySem.W.Frag) (mg : Str → Option Value) (T : CT) (x : Str) (c : Nat) : Prop where
  n : mg x = some (.ref (T.addr c))
  i : C8.InsC K (T.addr c)
def isC (c : Nat) : Dat → Option Dat
  | .obj k _ => if k = c then some (.bl true) else none
  | _ => none
theorem de_isC {y : Str} {c : Nat} (k : IsC X.K X.mg T y c) (hm : X.mg "isinstance" = none) (ha : DE X T W ow e fa) (hg : Gl X "isinstance" := by rfl) (hgy : Gl X y := by rfl) (hdy : (y == ("__debug__" : Str)) = false := by decide)
    (h1 : starEach [e, .Name y p2] X.env = (false, eval e X.env) :: starEach [.Name y p2] X.env := by rfl) (h2 : starEach [.Name y p2] X.env = (false, eval (.Name y p2) X.env) :: starEach [] X.env := by rfl) (hpl : (backTo pos (starEach [.Name y p2] X.env)).any (·.1) = false := by rfl) :
    DE X T W ow (.Call (.Name "isinstance" p) [e, .Name y p2] [] pos) (v1 (isC c) fa) := pe_imp (pe_callB (C8.call_isC k.i) hg hm (by decide +kernel) (pa_cons ha (pa_cons (pe_glob (v := .ref (T.addr c)) hgy k.n rfl hdy) pa_nil h2) h1) (by decide) (by decide) h1 hpl) fun σ H Q h => by
  obtain ⟨ρ, S, re, w⟩ := h
  refine Want.part re w fun x dx H1 w1 re1 e1 rx => ?_
  cases rx with
  | obj h1 h2 h3 =>
    rename_i a dx' k' fs' ds'
    by_cases z : k' = c
    · subst z
      have e : isC k' (.obj k' ds') = some (.bl true) := if_pos rfl
      rw [e] at w1
      exact ⟨a, dx', fs', rfl, hide_ex _ _ h1, w1 _ H1 (Ex.refl H1) (.bl _)⟩
    · have e : isC c (.obj k' ds') = none := if_neg z
      rw [e] at w1
      exact w1.elim
  | _ => exact w1.elim
end
end Dl
/-! The D layer, part 35: {"a": "b", ..}[x], a display of texts. -/
namespace Dl
open PySem PySem.Spec PyProof.Rows L2
abbrev dlK (ps : List (Str × Str)) : List (Key × V) := ps.map fun p => (Sum.inr p.1, V.str p.2)
def dlitD (ps : List (Str × Str)) : Dat → Option Dat
  | .str z => match valV (mergeK [] (dlK ps)) (Sum.inr z) with
    | some (.str v) => some (.str v)
    | _ => none
  | _ => none
abbrev dlT (ps : List (Str × Str)) : List (TE × TE) := ps.map fun p => (tC (.str p.1), tC (.str p.2))
theorem pairs_lit {σ : Sg} : ∀ {ps : List (Str × Str)} {H : Hp} {Q : List (V × V) → Hp → Prop}, Q (ps.map fun p => (V.str p.1, V.str p.2)) H → tPairs (dlT ps) σ H Q
  | [], _, _, h => h
  | p :: ps, H, Q, h => by
    show tPairs (dlT ps) σ H fun qs H3 => Q ((V.str p.1, V.str p.2) :: qs) H3
    exact pairs_lit (ps := ps) h
theorem kit_self {K : PySem.W.Frag} {C : Addr} : PySem.W.kitOne K (.ref C) (.ref C) = some true := if_pos (by first | exact beq_self_eq_true _ | simp | rfl)
theorem u1_of {u : Nat} (h : u + 65 < cLine) : u + 1 < cLine := by omega
section
variable {X : Cx} {T : CT} {W : WX} {ow : List Nat} {i : Expr} {pos p2 : Pos} {f : DEnv → Res Dat} {keys : List (Option Expr)} {values : List Expr} {ps : List (Str × Str)}
theorem de_dlit (hp : PPs X pos keys values (dlT ps)) (hu : X.A.units + 1 < cLine) (hi : DE X T W ow i f) (hs : NoSl i := by exact fun _ _ => rfl) (h15 : ps.length ≤ 15 := by decide)
    (hall : keys.all (·.isSome) = true := by rfl) (hl : keys.length = values.length := by rfl) (h0 : keys ≠ [] := by simp) (hk : keys.length ≤ 15 := by decide) : DE X T W ow (.Subscript (.Dict keys values pos) i p2) (v1 (dlitD ps) f) :=
  pe_imp (pe_dget hu (pe_disp hp hall hl h0 hk) hi hs) fun σ H Q h => by
    obtain ⟨ρ, S, re, w⟩ := h
    intro p hn
    refine pairs_lit (ps := ps) ⟨upd_same .., dlK ps, by rw [List.map_map]; rfl, by rw [List.length_map]; exact h15, ?_⟩
    have ex : Ex H (upd (upd H p (.dK [])) p (.dK (mergeK [] (dlK ps)))) := fun b o e => by
      have nb : b ≠ p := fun q => by rw [q, hn] at e; cases e
      rw [upd_ne nb, upd_ne nb]
      exact e
    refine Want.part (re.mono ex) (w.mono ex) fun y dy H1 w1 re1 e1 ry => ?_
    cases ry with
    | str z =>
      unfold dlitD at w1
      cases q : valV (mergeK [] (dlK ps)) (Sum.inr z) with
      | none =>
        simp only [q] at w1
        exact w1.elim
      | some u =>
        cases u with
        | str v =>
          simp only [q] at w1
          refine ⟨p, .str v, rfl, ?_, w1 _ H1 (Ex.refl H1) (.str v)⟩
          rw [← q]
          exact DGet.k (k := Sum.inr z) (e1 _ _ (upd_same ..))
        | _ =>
          simp only [q] at w1
          exact w1.elim
    | _ => exact w1.elim
end
end Dl
/-! The D layer, part 36: except C as e: return isinstance(e, D) and .. (the rest may ask functions). -/
namespace Dl
open PySem PySem.Spec PyProof.Rows L2
def restB (m2 : Nat → Bool) (f : DEnv → Res Dat) (c : Nat) (ρ : DEnv) : DFlow := if m2 c = true then (match f ρ with
  | .ok d => .rt d
  | _ => .stuck) else .rt (.bl false)
def sTryB (F : DEnv → DFlow) (i : Nat) (m m2 : Nat → Bool) (f : DEnv → Res Dat) : DEnv → DFlow := fun ρ => match F ρ with
  | .ex c ρ' => if m c = true then restB m2 f c (ρ'.set i none) else .ex c ρ'
  | x => x
theorem RE.off {K : PySem.W.Frag} {T : CT} {σ : Sg} {ρ : DEnv} {H : Hp} {S : List Addr} (re : RE K T [] σ ρ H S) (i : Nat) (v : Option V) : RE K T [] (σ.set i v) (ρ.set i none) H S := by
  refine ⟨re.mt, by rw [List.length_set, List.length_set]; exact re.len, fun j d hj hd => ?_, fun j d hj => (by cases hj), fun j k d e p hj => (by cases hj)⟩
  by_cases z : j = i
  · subst z
    rw [List.getElem?_set] at hd
    simp only [if_true] at hd
    split at hd <;> cases hd
  · rw [List.getElem?_set_ne (Ne.symm z)] at hd ⊢
    exact re.fro j d hj hd
section
variable {X : Cx} {T : CT} {W : WX} {ow' ob : List Nat} {pos p p1 p2 p3 rp np q' : Pos} {F : DEnv → DFlow} {body : List Stmt} {y z n : Str} {k C : Value} {i : Nat} {m m2 : Nat → Bool} {f : DEnv → Res Dat} {b : Expr} {rest : List Expr}
/-- what the clause wants -/
def tsB (K : PySem.W.Frag) (T : CT) (i : Nat) (m2 : Nat → Bool) (f : DEnv → Res Dat) : Addr → Value → Option Addr → TS := fun a k d D σ H => ∃ c ρ S, k = T.exc c ∧ d = none ∧ (i < σ.length → σ[i]? = some (some (.ref a))) ∧ RE K T [] σ ρ H S ∧ (if m2 c = true then Want K T wNo σ H S (f ρ) D.rt else D.rt (.bl false) H)
theorem cl_askB (nm : Names X y k) (hm : ∀ c, PySem.W.exmOne X.K (T.exc c) k = some (m c)) (hi : X.N[i]? = some n) (lo : X.env.kindOf n = some .local)
    (ak : AskE X.K T) (kk : ∀ c, PySem.W.kitOne X.K (T.exc c) C = some (m2 c)) (hmy : X.mg z = some C) (hmi : X.mg "isinstance" = none) (hC : ∃ A, C = .ref A)
    (hB : ∀ (a : Addr) (oe : Obj) (cls : Value) (d : Option Addr) (pn : List (Addr × Obj)), Zc cls d oe → (∃ vs, oe.data = .fields vs) → DE (X.suite a ((a, oe) :: pn)) T wNo [] (.BoolOp .And (b :: rest) p3) f)
    (hv : Vis X.env.scope n := by first | exact Or.inl rfl | exact Or.inr (Or.inl rfl) | exact Or.inr (Or.inr rfl)) (hg : Gl X "isinstance" := by rfl) (hgy : Gl X z := by rfl)
    (hd : (n == ("__debug__" : Str)) = false := by decide) (hcd : (n == ("__classdict__" : Str)) = false := by decide) (hdy : (z == ("__debug__" : Str)) = false := by decide)
    (h1 : starEach [.Name n p1, .Name z p2] X.env = (false, eval (.Name n p1) X.env) :: starEach [.Name z p2] X.env := by rfl) (h2 : starEach [.Name z p2] X.env = (false, eval (.Name z p2) X.env) :: starEach [] X.env := by rfl) (hpl : (backTo pos (starEach [.Name z p2] X.env)).any (·.1) = false := by rfl) :
    ClsA X [.ExceptHandler (some (.Name y np)) (some n) [.Return (some (.BoolOp .And (.Call (.Name "isinstance" p) [.Name n p1, .Name z p2] [] pos :: b :: rest) p3)) rp] q'] [(k, i, tsB X.K T i m2 f)] := by
  refine .cons nm hi lo (fun a o k' d pn hz hf => ⟨fun pins s σ H D I h => ?_⟩) .nil
  obtain ⟨c, ρ, S, rfl, rfl, h3, re, w⟩ := h
  obtain ⟨A, rfl⟩ := hC
  obtain ⟨D0, e, ec⟩ := ak c
  have kc := kk c
  have hB' := hB a o _ _ pn hz hf
  rw [e] at hz kc
  have hlt : i < X.N.length := (List.getElem?_eq_some_iff.mp hi).1
  refine (pss_one (ps_ret (pe_and (pe_ask (i := i) ec hz hf hi hv hmi hmy kc hg hgy hd hcd hdy h1 h2 hpl) hB'))).run pins s σ H D I ⟨h3 (by rw [show σ.length = X.N.length from I.len]; exact hlt), m2 c, rfl, ?_⟩
  cases q : m2 c with
  | true =>
    rw [q, if_pos rfl] at w
    exact ⟨ρ, S, re, w⟩
  | false =>
    rw [q, if_neg (by decide)] at w
    exact w
theorem ds_tryB {h : ExceptHandler} (hs : X.stack = X.env :: X.outer) (hf : X.env.frame = some X.env.locals) (nd : X.N.Nodup) (tk : Takes X W)
    (hb : ∀ (W : WX) (pn : List (Addr × Obj)) (xe : Value → Shared → Prop), Takes (X.tr pn xe) W → PassesOwn (model X.prog X.w) X.A X.env xe → DSs (X.tr pn xe) T W [] ow' ob body F)
    (hm : ∀ c, PySem.W.exmOne X.K (T.exc c) k = some (m c)) (hh : ClsA X [h] [(k, i, tsB X.K T i m2 f)]) : DS X T W [] ow' ob (.Try body [h] [] [] pos) (sTryB F i m m2 f) :=
  ps_imp (ps_tryA (tb := fun W => tDS X.K T W [] ow' ob F) hs hf nd tk hb hh) fun D σ H q => by
    obtain ⟨B, B0, ρ, S, rs, w⟩ := q
    refine ⟨B, B0, ρ, S, rs, ?_⟩
    unfold sTryB at w
    cases qF : F ρ with
    | ex c ρ' =>
      rw [qF] at w
      intro σ' H' rs' e'
      refine ⟨m c, hm c, fun hb' a _ => ?_, fun hb' => ?_⟩
      · have w : Wants X.K T W B B0 ow' ob H S D (if m c = true then restB m2 f c (ρ'.set i none) else .ex c ρ') := w
        rw [if_pos hb'] at w
        refine ⟨c, ρ'.set i none, _, rfl, rfl, fun hlt => ?_, RE.off rs'.re i _, ?_⟩
        · rw [List.length_set] at hlt
          exact List.getElem?_set_self hlt
        · unfold restB at w
          cases q : m2 c with
          | true =>
            rw [q, if_pos rfl] at w
            rw [if_pos rfl]
            cases qf : f (ρ'.set i none) with
            | ok d =>
              rw [qf] at w
              exact fun v H1 e r => w v H1 (rs'.ex.trans e) r
            | exc c2 => rw [qf] at w; exact w.elim
            | stuck => rw [qf] at w; exact w.elim
          | false =>
            rw [q, if_neg (by decide)] at w
            rw [if_neg (by decide)]
            exact w _ H' rs'.ex (.bl false)
      · have w : Wants X.K T W B B0 ow' ob H S D (if m c = true then restB m2 f c (ρ'.set i none) else .ex c ρ') := w
        rw [if_neg (by rw [hb']; decide)] at w
        exact w σ' H' rs' e'
    | nx ρ2 => rw [qF] at w; exact w
    | bk ρ2 => rw [qF] at w; exact w
    | ct ρ2 => rw [qF] at w; exact w
    | rt d => rw [qF] at w; exact w
    | stuck => rw [qF] at w; exact w
end
end Dl
/-! The D layer, part 37: tuple * 0. -/
namespace Dl
open PySem PySem.Spec PyProof.Rows L2
open AutoSeq1 (wpAny_loadPart')
theorem mul_zero (l : Addr) (items : Array Value) (n : Nat) (dd : Option Addr) (sl : Array (Option Value)) (u : Tok) (c1 : (items.isEmpty || (0 : Int) == 1) = false) :
    Meets (Builtin.«tuple.__mul__» ⟨[.ref l, .int 0 u], []⟩) (fun _ R s => s.heap.get? l = some { cls := .type "tuple", dict := dd, data := .seq items n, slots := sl } ∧
      R (.ok (.ret (Value.ref s.heap.objs.size))) { s with heap := s.heap.push { cls := Value.type "tuple", data := Data.seq #[] }, toks := s.toks }) :=
  .of_wp fun prog w A R s h => by
    obtain ⟨hp, g, d, tk, os⟩ := s
    obtain ⟨hl, h⟩ := h
    have f1 := AutoSeq1.idx_int
    have t2 : (decide ((0 : Int) ≤ 0) || items.isEmpty) = true := by simp
    wp_walk using wpAny_loadPart' hl
    repeat (first
      | (refine wpAny_ite_false (decide_eq_false (by rw [c1]; exact Bool.false_ne_true)) ?_; wp_walk using wpAny_loadPart' hl)
      | (refine wpAny_ite_true (decide_eq_true t2) ?_; wp_walk using wpAny_loadPart' hl))
    exact ⟨_, rfl, h⟩
def rZeroT (K : PySem.W.Frag) : R2 := fun x y H Q => ∃ l xs, x = .ref l ∧ y = .int 0 ∧ SqT K H l xs ∧ xs ≠ [] ∧ nT Q H []
theorem op_zero {X : Cx} : OpR X (binaryOp .Mult) (rZeroT X.K) := by
  intro pins s σ H x y v u Q I rx ry h
  obtain ⟨l, xs, rfl, rfl, hT, hne, q⟩ := h
  cases rx
  obtain ⟨t, rfl⟩ := ry
  obtain ⟨its, r, ⟨⟨cls, dd, data, sl⟩, ho, hc, n, hd⟩, hs⟩ := I.tuple hT
  simp only at hc hd
  subst hc hd
  have hle := r.length
  have em : its.toArray.isEmpty = false := by
    cases its with
    | nil => exact absurd (List.eq_nil_of_length_eq_zero hle) hne
    | cons a b => rfl
  have e := eTN (Q := Q) I (its := []) .nil (Nat.zero_le _) q
  exact wpAny_binaryOp_repeat_ref (T := "tuple") (U := "int") (by decide) ⟨_, ho, rfl⟩ (fun s' => typeIs_int s' 0 t) noFill_tuple_mul F.fills_int_mul F.slot_int_rmul repeat_tuple F.slot_int_index.lookup
    (call_meets F.slot_int_rmul (typeIs_int s 0 t) F.entry_int_rmul (F.args_int_rmul_2 _ _) (int_rmul_tuple 0 t l its.toArray n dd sl)
      ⟨ho, rfl, ⟨_, ho, rfl⟩, call_meets F.slot_tuple_mul ⟨_, ho, rfl⟩ F.entry_tuple_mul (F.args_tuple_mul_2 _ _) (mul_zero l its.toArray n dd sl t (by rw [em]; rfl)) ⟨ho, e⟩⟩)
def rMulZ (K : PySem.W.Frag) : R2 := fun x y H Q => rMulX K x y H Q ∨ rZeroT K x y H Q
theorem op_mulZ {X : Cx} : OpR X (binaryOp .Mult) (rMulZ X.K) := op_mulX.or op_zero
def mulZD (x y : Dat) : Option Dat := match x, y with
  | .tup l, .int k => if k = 0 ∧ l ≠ [] then some (.tup []) else mulXD (.tup l) (.int k)
  | _, _ => mulXD x y
theorem rd_mulZ {K : PySem.W.Frag} {T : CT} : R2D K T (rMulZ K) mulZD := fun S H x y dx dy d Q m rx ry e q => by
  by_cases z : mulZD dx dy = mulXD dx dy
  · rw [z] at e
    exact .inl (rd_mulX S H x y dx dy d Q m rx ry e q)
  · unfold mulZD at e z
    cases rx with
    | @tup p vs ds hs rs =>
      cases ry with
      | int k =>
        by_cases k1 : k = 0 ∧ ds ≠ []
        · obtain ⟨rfl, hne⟩ := k1
          have e : (if (0 : Int) = 0 ∧ ds ≠ [] then some (Dat.tup []) else mulXD (Dat.tup ds) (.int 0)) = some d := e
          rw [if_pos ⟨rfl, hne⟩] at e
          cases e
          refine .inr ⟨p, vs, rfl, rfl, ex_t hide_ex hs.sq, fun hv => hne (List.eq_nil_of_length_eq_zero (by rw [← rs.length, hv]; rfl)), fun p2 o np t => q _ _ (Ex.new np) (rep_newT m np t .nil)⟩
        · exact absurd (if_neg k1) z
      | _ => exact absurd rfl z
    | _ => exact absurd (by cases dy <;> rfl) z
end Dl
/-! The D layer, part 38: enumerate over a zip of two tuples. -/
namespace Dl
open PySem PySem.Spec PyProof.Rows L2
theorem u8_of {u : Nat} (h : u + 65 < cLine) : u + 2 + 6 < cLine := by omega
/-- a zip: what it keeps of the pair that it gave out last, and whether it saw that it is still out -/
abbrev IsZ (h : Heap) (z TI TO : Addr) (v : Value) (fl : Bool) : Prop :=
  h.get? z = some { cls := .type "zip", dict := none, data := .fields #[v, .bool fl, .bool false, .ref TI, .ref TO], slots := #[] }
def ZV (v : Value) : Prop := v = .none ∨ ∃ T : Addr, v = rawInt T
section
variable {prog : Program} {w : World} {A : Around} {E : Value → Shared → Prop} {s : Shared} {z TI TO i1 i2 l1 l2 : Addr} {v : Value} {fl : Bool}
theorem z_dead {a : Addr} {Q : Option Obj → Shared → Prop} (ho : s.heap.get? a = none) (h : Q none s) : wpAny (model prog w) A (loadIfAlive a) Q E s := by
  have h' : Q (s.heap.get? a) s := by rw [ho]; exact h
  exact fun _ _ _ => h'
theorem z_free {Q : Bool → Shared → Prop} (hz : IsZ s.heap z TI TO v fl) (hv : ZV v) (q1 : Q true s) (q2 : ∀ h', IsZ h' z TI TO v true → Heap.SameBut z s.heap h' → Q false { s with heap := h' }) :
    wpAny (model prog w) A (Builtin.SmallTypes.ownedTupleIsFree (.ref z)) Q E s := by
  unfold Builtin.SmallTypes.ownedTupleIsFree
  rcases hv with rfl | ⟨T, rfl⟩
  · exact wpAny_bind (wpAny_field hz rfl (x := .none) rfl (wpAny_pure q1))
  · refine wpAny_bind (wpAny_field hz rfl (x := rawInt T) rfl ?_); show wpAny _ _ (loadIfAlive ((T : Int).toNat) >>= _) _ _ _; rw [Int.toNat_natCast]
    cases hT : s.heap.get? T with
    | none =>
      exact wpAny_bind (z_dead hT (wpAny_pure q1))
    | some oT =>
      refine wpAny_bind (PySem.W.kdx_alive hT ?_); simp only [Option.isNone_some, Bool.false_eq_true, if_false]
      refine wpAny_bind (wpAny_field hz rfl (x := .bool fl) rfl ?_)
      cases fl with
      | true =>
        rw [if_neg (show ¬ ((Value.bool true != Value.bool true) = true) from Bool.false_ne_true)]; exact wpAny_pure (q2 s.heap hz (Heap.SameBut.refl _ _))
      | false =>
        rw [if_pos (show (Value.bool false != Value.bool true) = true from rfl)]; exact wpAny_bind (wpAny_setField_rec hz (by simp) fun h₁ z1 s1 => wpAny_pure (q2 h₁ z1 s1))
theorem z_next {k1 k2 : Nat} {xs ys : Array Value} {x y a b : Value} {Q : Value → Shared → Prop} (D : ZipApart z TI TO i1 i2 l1 l2)
    (hz : IsZ s.heap z TI TO v fl) (hv : ZV v) (hTI : IsPair s.heap TI (.ref i1) (.ref i2)) (hTO : IsPair s.heap TO a b)
    (h1 : s.heap.IsTupleIter i1 l1 k1) (h2 : s.heap.IsTupleIter i2 l2 k2) (hl1 : s.heap.IsTuple l1 xs) (hl2 : s.heap.IsTuple l2 ys) (hx : xs[k1]? = some x) (hy : ys[k2]? = some y)
    (hQ : ∀ h' v' fl', ZV v' → IsZ h' z TI TO v' fl' → (∃ a' b', IsPair h' TO a' b') → h'.IsTupleIter i1 l1 (k1 + 1) → h'.IsTupleIter i2 l2 (k2 + 1) → IsPair h' s.heap.objs.size x y → h'.objs.size = s.heap.objs.size + 1 →
      (∀ c o, c ≠ z → c ≠ TO → c ≠ i1 → c ≠ i2 → s.heap.get? c = some o → h'.get? c = some o) → Q (.ref s.heap.objs.size) { s with heap := h' }) :
    wpAny (model prog w) A (Builtin.«zip.__next__» ⟨[.ref z], []⟩) (fun fin s' => ∃ v, fin = .done (.ret v) ∧ Q v s') E s := by
  show wpAny _ _ (field (.ref z) 2 >>= _) _ _ _; refine wpAny_bind (wpAny_field hz rfl (x := .bool false) rfl ?_)
  show wpAny _ _ (field (.ref z) 3 >>= _) _ _ _; refine wpAny_bind (wpAny_field hz rfl (x := .ref TI) rfl (wpAny_bind (wpAny_seqItems hTI rfl ?_)))
  show wpAny _ _ (Builtin.SmallTypes.ownedTupleIsFree (.ref z) >>= _) _ _ _; refine wpAny_bind (z_free hz hv ?_ fun h₁ z1 s1 => ?_)
  · simp only [if_true]
    refine wpAny_bind (wpAny_rule (wpAny_bind (wpAny_field hz rfl (x := .ref TO) rfl (wpAny_bind (wpAny_setField_rec hz (by simp) fun h₁ z1 s1 => wpAny_bind ?_)))))
    replace z1 : IsZ h₁ z TI TO .ellipsis fl := z1
    simp only [List.zipIdx_cons, List.zipIdx_nil, List.forIn_cons, List.forIn_nil]
    refine wpAny_bind (wpAny_bind (wpAny_onRaise ?_)); show wpAny _ _ (Builtin.SmallTypes.nextOf (.ref i1) >>= _) _ _ _
    refine wpAny_bind (RZ.nextOf_tuple_item (h1.extBut s1.extBut D.i1z) (hl1.extBut s1.extBut D.l1z) hx fun h₂ n2 s2 => wpAny_pure ?_)
    have t2 : IsPair h₂ TO a b := s2.extBut _ _ D.TOi1 (s1.extBut _ _ D.TOz hTO)
    refine wpAny_bind (wpAny_seqItems t2 rfl (wpAny_bind (wpAny_updateSeq_pair t2 fun h₃ t3 s3 => wpAny_bind (wpAny_letGo (wpAny_pure ?_)))))
    replace t3 : IsPair h₃ TO x b := t3
    refine wpAny_bind (wpAny_bind (wpAny_onRaise ?_)); show wpAny _ _ (Builtin.SmallTypes.nextOf (.ref i2) >>= _) _ _ _
    refine wpAny_bind (RZ.nextOf_tuple_item (((h2.extBut s1.extBut D.i2z).extBut s2.extBut D.i12.symm).extBut s3.extBut D.TOi2.symm) (((hl2.extBut s1.extBut D.l2z).extBut s2.extBut D.l2i1).extBut s3.extBut D.l2TO) hy fun h₄ n4 s4 => wpAny_pure ?_)
    have t4 : IsPair h₄ TO x b := s4.extBut _ _ D.TOi2 t3
    refine wpAny_bind (wpAny_seqItems t4 rfl (wpAny_bind (wpAny_updateSeq_pair t4 fun h₅ t5 s5 => wpAny_bind (wpAny_letGo (wpAny_pure (wpAny_pure ?_))))))
    replace t5 : IsPair h₅ TO x y := t5
    refine wpAny_bind (wpAny_seqItems t5 rfl (wpAny_bind (wpAny_newTuple ?_)))
    have hsz : h₅.objs.size = s.heap.objs.size := by rw [s5.1, s4.1, s3.1, s2.1, s1.1]
    have z5 : IsZ h₅ z TI TO .ellipsis fl := s5.extBut _ _ D.TOz.symm (s4.extBut _ _ D.i2z.symm (s3.extBut _ _ D.TOz.symm (s2.extBut _ _ D.i1z.symm z1)))
    have k5 : ∀ c o, c ≠ z → c ≠ TO → c ≠ i1 → c ≠ i2 → s.heap.get? c = some o → h₅.get? c = some o := fun c o c1 c2 c3 c4 e => s5.extBut _ _ c2 (s4.extBut _ _ c4 (s3.extBut _ _ c2 (s2.extBut _ _ c3 (s1.extBut _ _ c1 e))))
    have m1 : h₅.IsTupleIter i1 l1 (k1 + 1) := ((n2.extBut s3.extBut D.TOi1.symm).extBut s4.extBut D.i12).extBut s5.extBut D.TOi1.symm
    have m2 : h₅.IsTupleIter i2 l2 (k2 + 1) := n4.extBut s5.extBut D.TOi2.symm
    have zl : z < h₅.objs.size := Heap.lt_size z5
    show wpAny _ _ (Builtin.SmallTypes.ownedTupleHandOut (.ref z) (.ref h₅.objs.size) >>= _) _ _ _; refine wpAny_bind ?_
    unfold Builtin.SmallTypes.ownedTupleHandOut
    have z6 : IsZ (h₅.push { cls := .type "tuple", data := .seq #[x, y] }) z TI TO .ellipsis fl := Heap.get?_push_of_some _ z5
    refine wpAny_bind (wpAny_setField_rec z6 (by simp) fun h₇ z7 s7 => ?_)
    replace z7 : IsZ h₇ z TI TO (rawInt h₅.objs.size) fl := z7
    refine wpAny_setField_rec z7 (by simp) fun h₈ z8 s8 => ?_
    replace z8 : IsZ h₈ z TI TO (rawInt h₅.objs.size) false := z8
    have up : ∀ c o, c ≠ z → h₅.get? c = some o → h₈.get? c = some o := fun c o c1 e => s8.extBut _ _ c1 (s7.extBut _ _ c1 (Heap.get?_push_of_some _ e))
    have t8 : IsPair h₈ h₅.objs.size x y := s8.extBut _ _ (Nat.ne_of_gt zl) (s7.extBut _ _ (Nat.ne_of_gt zl) (Heap.get?_push_size _ rfl))
    have sz8 : h₈.objs.size = h₅.objs.size + 1 := by rw [s8.1, s7.1, Heap.size_push]
    rw [hsz] at z8 t8 sz8
    refine wpAny_pure ⟨_, rfl, ?_⟩; show Q (.ref h₅.objs.size) _; rw [hsz]
    exact hQ h₈ _ _ (.inr ⟨_, rfl⟩) z8 ⟨_, _, up _ _ D.TOz t5⟩ (m1.at fun o e => up _ o D.i1z e) (m2.at fun o e => up _ o D.i2z e) t8 sz8 fun c o c1 c2 c3 c4 e => up c o c1 (k5 c o c1 c2 c3 c4 e)
  · simp only [Bool.false_eq_true, if_false]
    refine wpAny_bind ?_; rw [← Array.forIn_toList]; simp only [List.forIn_cons, List.forIn_nil]
    refine wpAny_bind (wpAny_bind (wpAny_holding ?_)); show wpAny _ _ (Builtin.SmallTypes.nextOf (.ref i1) >>= _) _ _ _
    refine wpAny_bind (RZ.nextOf_tuple_item (s := { s with heap := h₁ }) (h1.extBut s1.extBut D.i1z) (hl1.extBut s1.extBut D.l1z) hx fun h₂ n2 s2 => wpAny_pure (wpAny_pure ?_))
    refine wpAny_bind (wpAny_bind (wpAny_holding ?_)); show wpAny _ _ (Builtin.SmallTypes.nextOf (.ref i2) >>= _) _ _ _
    refine wpAny_bind (RZ.nextOf_tuple_item (s := { s with heap := h₂ }) ((h2.extBut s1.extBut D.i2z).extBut s2.extBut D.i12.symm) ((hl2.extBut s1.extBut D.l2z).extBut s2.extBut D.l2i1) hy fun h₃ n3 s3 => wpAny_pure (wpAny_pure (wpAny_pure ?_)))
    show wpAny _ _ (newTuple [x, y] >>= _) _ _ _; refine wpAny_bind (wpAny_newTuple ?_)
    have hsz : h₃.objs.size = s.heap.objs.size := by rw [s3.1, s2.1, s1.1]
    have z3 : IsZ h₃ z TI TO v true := s3.extBut _ _ D.i2z.symm (s2.extBut _ _ D.i1z.symm z1)
    have k3 : ∀ c o, c ≠ z → c ≠ i1 → c ≠ i2 → s.heap.get? c = some o → h₃.get? c = some o := fun c o c1 c2 c3 e => s3.extBut _ _ c3 (s2.extBut _ _ c2 (s1.extBut _ _ c1 e))
    have m1 : h₃.IsTupleIter i1 l1 (k1 + 1) := n2.extBut s3.extBut D.i12
    have t3 : IsPair h₃ TO a b := k3 _ _ D.TOz D.TOi1 D.TOi2 hTO
    refine wpAny_pure ⟨_, rfl, ?_⟩; show Q (.ref h₃.objs.size) _
    have hp : IsPair (h₃.push { cls := .type "tuple", data := .seq #[x, y] }) h₃.objs.size x y := Heap.get?_push_size _ rfl
    have hz4 : (h₃.push { cls := .type "tuple", data := .seq #[x, y] }).objs.size = h₃.objs.size + 1 := Heap.size_push ..
    rw [hsz] at hp hz4 ⊢
    exact hQ _ _ _ hv (Heap.get?_push_of_some _ z3) ⟨_, _, Heap.get?_push_of_some _ t3⟩ (m1.at fun o e => Heap.get?_push_of_some _ e) (n3.at fun o e => Heap.get?_push_of_some _ e) hp hz4 fun c o c1 c2 c3 c4 e => Heap.get?_push_of_some _ (k3 c o c1 c3 c4 e)
theorem z_end {k1 k2 : Nat} {xs ys : Array Value} {a b : Value} {Q : Fin → Shared → Prop} (hh : A.handled = none) (D : ZipApart z TI TO i1 i2 l1 l2)
    (hz : IsZ s.heap z TI TO v fl) (hv : ZV v) (hTI : IsPair s.heap TI (.ref i1) (.ref i2)) (hTO : IsPair s.heap TO a b)
    (h1 : s.heap.IsTupleIter i1 l1 k1) (h2 : s.heap.IsTupleIter i2 l2 k2) (hl1 : s.heap.IsTuple l1 xs) (hl2 : s.heap.IsTuple l2 ys) (hend : xs[k1]? = none ∨ ys[k2]? = none)
    (hE : ∀ h' e, (∀ c o, c ≠ z → c ≠ TO → c ≠ i1 → c ≠ i2 → s.heap.get? c = some o → h'.get? c = some o) → (∃ o, h'.get? e = some o ∧ o.cls = .type "StopIteration") → E (.ref e) { s with heap := h' }) :
    wpAny (model prog w) A (Builtin.«zip.__next__» ⟨[.ref z], []⟩) Q E s := by
  show wpAny _ _ (field (.ref z) 2 >>= _) _ _ _; refine wpAny_bind (wpAny_field hz rfl (x := .bool false) rfl ?_)
  show wpAny _ _ (field (.ref z) 3 >>= _) _ _ _; refine wpAny_bind (wpAny_field hz rfl (x := .ref TI) rfl (wpAny_bind (wpAny_seqItems hTI rfl ?_)))
  show wpAny _ _ (Builtin.SmallTypes.ownedTupleIsFree (.ref z) >>= _) _ _ _; refine wpAny_bind (z_free hz hv ?_ fun h₁ z1 s1 => ?_)
  · simp only [if_true]
    refine wpAny_bind (wpAny_rule (wpAny_bind (wpAny_field hz rfl (x := .ref TO) rfl (wpAny_bind (wpAny_setField_rec hz (by simp) fun h₁ z1 s1 => wpAny_bind ?_)))))
    replace z1 : IsZ h₁ z TI TO .ellipsis fl := z1
    simp only [List.zipIdx_cons, List.zipIdx_nil, List.forIn_cons, List.forIn_nil]
    refine wpAny_bind (wpAny_bind (wpAny_onRaise ?_)); show wpAny _ _ (Builtin.SmallTypes.nextOf (.ref i1) >>= _) _ _ _
    cases hx : xs[k1]? with
    | none =>
      refine wpAny_bind (RZ.nextOf_tuple_end hh (h1.extBut s1.extBut D.i1z) (hl1.extBut s1.extBut D.l1z) hx fun h₂ e s2 he => ?_)
      obtain ⟨oe, hoe, hce⟩ := he
      have z2 : IsZ h₂ z TI TO .ellipsis fl := s2 _ _ D.i1z.symm z1
      have hez : e ≠ z := fun x => by subst x; rw [z2] at hoe; cases hoe; simp at hce
      refine wpAny_setField_rec z2 (by simp) fun h₃ _ s3 => hE h₃ e (fun c o c1 _ c3 _ x => s3.extBut _ _ c1 (s2 _ _ c3 (s1.extBut _ _ c1 x))) ⟨oe, s3.extBut _ _ hez hoe, hce⟩
    | some x =>
      have hy : ys[k2]? = none := by rcases hend with h | h; rw [hx] at h; cases h; exact h
      refine wpAny_bind (RZ.nextOf_tuple_item (h1.extBut s1.extBut D.i1z) (hl1.extBut s1.extBut D.l1z) hx fun h₂ n2 s2 => wpAny_pure ?_)
      have t2 : IsPair h₂ TO a b := s2.extBut _ _ D.TOi1 (s1.extBut _ _ D.TOz hTO)
      refine wpAny_bind (wpAny_seqItems t2 rfl (wpAny_bind (wpAny_updateSeq_pair t2 fun h₃ t3 s3 => wpAny_bind (wpAny_letGo (wpAny_pure ?_)))))
      refine wpAny_bind (wpAny_bind (wpAny_onRaise ?_)); show wpAny _ _ (Builtin.SmallTypes.nextOf (.ref i2) >>= _) _ _ _
      refine wpAny_bind (RZ.nextOf_tuple_end hh (((h2.extBut s1.extBut D.i2z).extBut s2.extBut D.i12.symm).extBut s3.extBut D.TOi2.symm) (((hl2.extBut s1.extBut D.l2z).extBut s2.extBut D.l2i1).extBut s3.extBut D.l2TO) hy fun h₄ e s4 he => ?_)
      obtain ⟨oe, hoe, hce⟩ := he
      have z4 : IsZ h₄ z TI TO .ellipsis fl := s4 _ _ D.i2z.symm (s3.extBut _ _ D.TOz.symm (s2.extBut _ _ D.i1z.symm z1))
      have hez : e ≠ z := fun x => by subst x; rw [z4] at hoe; cases hoe; simp at hce
      refine wpAny_setField_rec z4 (by simp) fun h₅ _ s5 => hE h₅ e (fun c o c1 c2 c3 c4 x => s5.extBut _ _ c1 (s4 _ _ c4 (s3.extBut _ _ c2 (s2.extBut _ _ c3 (s1.extBut _ _ c1 x))))) ⟨oe, s5.extBut _ _ hez hoe, hce⟩
  · simp only [Bool.false_eq_true, if_false]
    refine wpAny_bind ?_; rw [← Array.forIn_toList]; simp only [List.forIn_cons, List.forIn_nil]
    refine wpAny_bind (wpAny_bind (wpAny_holding ?_)); show wpAny _ _ (Builtin.SmallTypes.nextOf (.ref i1) >>= _) _ _ _
    cases hx : xs[k1]? with
    | none =>
      refine wpAny_bind (RZ.nextOf_tuple_end (s := { s with heap := h₁ }) hh (h1.extBut s1.extBut D.i1z) (hl1.extBut s1.extBut D.l1z) hx fun h₂ e s2 he => ?_)
      exact hE h₂ e (fun c o c1 _ c2 _ x => s2 _ _ c2 (s1.extBut _ _ c1 x)) he
    | some x =>
      have hy : ys[k2]? = none := by rcases hend with h | h; rw [hx] at h; cases h; exact h
      refine wpAny_bind (RZ.nextOf_tuple_item (s := { s with heap := h₁ }) (h1.extBut s1.extBut D.i1z) (hl1.extBut s1.extBut D.l1z) hx fun h₂ n2 s2 => wpAny_pure (wpAny_pure ?_))
      refine wpAny_bind (wpAny_bind (wpAny_holding ?_)); show wpAny _ _ (Builtin.SmallTypes.nextOf (.ref i2) >>= _) _ _ _
      refine wpAny_bind (RZ.nextOf_tuple_end (s := { s with heap := h₂ }) hh ((h2.extBut s1.extBut D.i2z).extBut s2.extBut D.i12.symm) ((hl2.extBut s1.extBut D.l2z).extBut s2.extBut D.l2i1) hy fun h₃ e s3 he => ?_)
      exact hE h₃ e (fun c o c1 _ c2 c3 x => s3 _ _ c3 (s2.extBut _ _ c2 (s1.extBut _ _ c1 x))) he
theorem z_of (hz : IsZ s.heap z TI TO v fl) : s.TypeIs (.ref z) "zip" := ⟨_, hz, rfl⟩
end
section
variable {prog : Program} {w : World} {A : Around} {E : Value → Shared → Prop} {s : Shared} {e it : Addr}
/-- enumerate's next, by what its inner one does -/
theorem en_next {i : Nat} {old : Value} {Pn : Value → Heap → Prop} {Q : Value → Shared → Prop} (he : IsEnum s.heap e it i old)
    (hin : ∀ (Q' : Value → Shared → Prop), (∀ x h₁, Pn x h₁ → Q' x { s with heap := h₁ }) → wpAny (model prog w) A (Builtin.SmallTypes.nextOf (.ref it)) Q' E s)
    (hp : ∀ x h₁, Pn x h₁ → IsEnum h₁ e it i old)
    (hQ : ∀ x h₁ h' tk, Pn x h₁ → IsEnumOut h' e it ((i : Int) + 1) x h₁.objs.size → h'.get? h₁.objs.size = some { cls := .type "tuple", data := .seq #[.int i tk, x] } → h'.objs.size = h₁.objs.size + 1 →
      (∀ b o, b ≠ e → h₁.get? b = some o → h'.get? b = some o) → Q (.ref h₁.objs.size) { s with heap := h', toks := tk + 1 }) :
    wpAny (model prog w) A (Builtin.«enumerate.__next__» ⟨[.ref e], []⟩) (fun fin s' => ∃ v, fin = .done (.ret v) ∧ Q v s') E s := by
  obtain ⟨hp0, g, d, tk, os⟩ := s
  show wpAny _ _ (field (.ref e) 2 >>= _) _ _ _; refine wpAny_bind (wpAny_field he rfl (x := .ref it) rfl (wpAny_bind (hin _ fun x h₁ hx => ?_)))
  have e1 := hp x h₁ hx
  show wpAny _ _ (field (.ref e) 3 >>= _) _ _ ⟨h₁, g, d, tk, os⟩; refine wpAny_bind (wpAny_field e1 rfl (x := rawInt i) rfl ?_)
  show wpAny _ _ (field (.ref e) 4 >>= _) _ _ ⟨h₁, g, d, tk, os⟩; refine wpAny_bind (wpAny_field e1 rfl (x := .none) rfl ?_)
  show wpAny _ _ (mkInt i >>= _) _ _ ⟨h₁, g, d, tk, os⟩; refine wpAny_bind (wpAny_mkInt ?_)
  show wpAny _ _ (setField (.ref e) 3 (rawInt ((i : Int) + 1)) >>= _) _ _ ⟨h₁, g, d, tk + 1, os⟩; refine wpAny_bind (wpAny_setField_rec e1 (by simp) fun h₂ e2 s2 => ?_)
  replace s2 : Heap.SameBut e h₁ h₂ := s2
  replace e2 : IsEnum h₂ e it ((i : Int) + 1) old := e2
  show wpAny _ _ (setField (.ref e) 4 .none >>= _) _ _ ⟨h₂, g, d, tk + 1, os⟩; refine wpAny_bind (wpAny_setField_rec e2 (by simp) fun h₃ e3 s3 => ?_)
  replace s3 : Heap.SameBut e h₂ h₃ := s3
  replace e3 : IsEnum h₃ e it ((i : Int) + 1) old := e3
  show wpAny _ _ (newTuple [.int i tk, x] >>= _) _ _ ⟨h₃, g, d, tk + 1, os⟩; refine wpAny_bind (wpAny_newTuple ?_)
  have e4 : IsEnum (h₃.push { cls := .type "tuple", data := .seq #[.int i tk, x] }) e it ((i : Int) + 1) old := Heap.get?_push_of_some _ e3
  generalize hh4 : h₃.push { cls := .type "tuple", data := .seq #[.int i tk, x] } = h₄ at e4
  have hsz : h₃.objs.size = h₁.objs.size := by rw [s3.1, s2.1]
  have hel : e < h₁.objs.size := Heap.lt_size e1
  have t4 : h₄.get? h₁.objs.size = some { cls := .type "tuple", data := .seq #[.int i tk, x] } := by rw [← hh4, ← hsz]; exact Heap.get?_push_size _ rfl
  have z4 : h₄.objs.size = h₁.objs.size + 1 := by rw [← hh4, Heap.size_push, hsz]
  have k4 : ∀ b o, b ≠ e → h₁.get? b = some o → h₄.get? b = some o := fun b o hbe hb => by rw [← hh4]; exact Heap.get?_push_of_some _ (s3.extBut b o hbe (s2.extBut b o hbe hb))
  show wpAny _ _ (Builtin.SmallTypes.ownedTupleIsFree (.ref e) >>= _) _ _ ⟨h₄, g, d, tk + 1, os⟩
  rw [hsz]
  refine wpAny_bind ?_
  unfold Builtin.SmallTypes.ownedTupleIsFree
  refine wpAny_bind (wpAny_field e4 rfl (x := .none) rfl (wpAny_pure ?_)); simp only [if_true]
  refine wpAny_bind (wpAny_rule (wpAny_bind (wpAny_field e4 rfl (x := old) rfl (wpAny_bind (wpAny_setField_rec e4 (by simp) fun h₅ e5 s5 => ?_)))))
  replace s5 : Heap.SameBut e h₄ h₅ := s5
  replace e5 : IsEnum h₅ e it ((i : Int) + 1) x := e5
  show wpAny _ _ (Builtin.SmallTypes.ownedTupleHandOut (.ref e) (.ref h₁.objs.size) >>= _) _ _ ⟨h₅, g, d, tk + 1, os⟩; refine wpAny_bind ?_
  unfold Builtin.SmallTypes.ownedTupleHandOut
  refine wpAny_bind (wpAny_setField_rec e5 (by simp) fun h₆ e6 s6 => ?_)
  replace s6 : Heap.SameBut e h₅ h₆ := s6
  replace e6 : IsEnumOut h₆ e it ((i : Int) + 1) x h₁.objs.size := e6
  refine wpAny_setField_rec e6 (by simp) fun h₇ e7 s7 => ?_
  replace s7 : Heap.SameBut e h₆ h₇ := s7
  replace e7 : IsEnumOut h₇ e it ((i : Int) + 1) x h₁.objs.size := e7
  have up : ∀ b o, b ≠ e → h₄.get? b = some o → h₇.get? b = some o := fun b o hbe y => s7.extBut b o hbe (s6.extBut b o hbe (s5.extBut b o hbe y))
  refine wpAny_bind (wpAny_letGo (wpAny_pure ⟨_, rfl, hQ x h₁ h₇ tk hx e7 (up _ _ (Nat.ne_of_gt hel) t4) (by rw [s7.1, s6.1, s5.1, z4]) fun b o hbe hb => up b o hbe (k4 b o hbe hb)⟩))
theorem en_item {i : Nat} {old : Value} {Pn : Value → Heap → Prop} {Q : Option Value → Shared → Prop} (he : IsEnum s.heap e it i old)
    (hin : ∀ (E' : Value → Shared → Prop) (Q' : Value → Shared → Prop), (∀ x h₁, Pn x h₁ → Q' x { s with heap := h₁ }) → wpAny (model prog w) A.in1 (Builtin.SmallTypes.nextOf (.ref it)) Q' E' s)
    (hp : ∀ x h₁, Pn x h₁ → IsEnum h₁ e it i old)
    (hQ : ∀ x h₁ h' tk, Pn x h₁ → IsEnumOut h' e it ((i : Int) + 1) x h₁.objs.size → h'.get? h₁.objs.size = some { cls := .type "tuple", data := .seq #[.int i tk, x] } → h'.objs.size = h₁.objs.size + 1 →
      (∀ b o, b ≠ e → h₁.get? b = some o → h'.get? b = some o) → Q (some (.ref h₁.objs.size)) { s with heap := h', toks := tk + 1 }) :
    wpAny (model prog w) A (pyNext (.ref e)) Q E s := by
  have ty : s.TypeIs (.ref e) "enumerate" := ⟨_, he, rfl⟩
  unfold pyNext
  exact wpAny_bind (wpAny_attempt (wpAny_callSpecial?_slot (name := Str.ofString "__next__") ty F.slot_enumerate_next (wpAny_call_entry F.slot_enumerate_next ty F.entry_enumerate_next
    (en_next he (hin _) hp fun x h₁ h' tk a b c d k => wpAny_pure (hQ x h₁ h' tk a b c d k)) (F.args_enumerate_next_1 _))))
theorem en_end {i : Int} {old : Value} {Pe : Heap → Prop} {Q : Option Value → Shared → Prop} (he : IsEnum s.heap e it i old)
    (hin : ∀ (Q' E' : Value → Shared → Prop), (∀ h₁ x, Pe h₁ → (∃ o, h₁.get? x = some o ∧ o.cls = .type "StopIteration") → E' (.ref x) { s with heap := h₁ }) → wpAny (model prog w) A.in1 (Builtin.SmallTypes.nextOf (.ref it)) Q' E' s)
    (hQ : ∀ h₁, Pe h₁ → Q none { s with heap := h₁ }) : wpAny (model prog w) A (pyNext (.ref e)) Q E s := by
  have ty : s.TypeIs (.ref e) "enumerate" := ⟨_, he, rfl⟩
  unfold pyNext
  refine wpAny_bind (wpAny_attempt (wpAny_callSpecial?_slot (name := Str.ofString "__next__") ty F.slot_enumerate_next (wpAny_call_entry F.slot_enumerate_next ty F.entry_enumerate_next ?_ (F.args_enumerate_next_1 _))))
  show wpAny _ _ (field (.ref e) 2 >>= _) _ _ _; refine wpAny_bind (wpAny_field he rfl (x := .ref it) rfl (wpAny_bind (hin _ _ fun h₁ x pe ho => ?_)))
  obtain ⟨o, ho, hc⟩ := ho
  exact wpAny_bind (wpAny_isInstance (T := "StopIteration") (b := true) ⟨o, ho, hc⟩ isSubtype_stop (wpAny_pure (hQ _ pe)))
end
end Dl
namespace Dl
open PySem PySem.Spec PyProof.Rows L2
section
variable {prog : Program} {w : World} {A : Around} {E : Value → Shared → Prop} {s : Shared} {z TI TO i1 i2 l1 l2 : Addr} {v : Value} {fl : Bool}
theorem nextOf_z {k1 k2 : Nat} {xs ys : Array Value} {x y a b : Value} {Q : Value → Shared → Prop} (D : ZipApart z TI TO i1 i2 l1 l2)
    (hz : IsZ s.heap z TI TO v fl) (hv : ZV v) (hTI : IsPair s.heap TI (.ref i1) (.ref i2)) (hTO : IsPair s.heap TO a b)
    (h1 : s.heap.IsTupleIter i1 l1 k1) (h2 : s.heap.IsTupleIter i2 l2 k2) (hl1 : s.heap.IsTuple l1 xs) (hl2 : s.heap.IsTuple l2 ys) (hx : xs[k1]? = some x) (hy : ys[k2]? = some y)
    (hQ : ∀ h' v' fl', ZV v' → IsZ h' z TI TO v' fl' → (∃ a' b', IsPair h' TO a' b') → h'.IsTupleIter i1 l1 (k1 + 1) → h'.IsTupleIter i2 l2 (k2 + 1) → IsPair h' s.heap.objs.size x y → h'.objs.size = s.heap.objs.size + 1 →
      (∀ c o, c ≠ z → c ≠ TO → c ≠ i1 → c ≠ i2 → s.heap.get? c = some o → h'.get? c = some o) → Q (.ref s.heap.objs.size) { s with heap := h' }) :
    wpAny (model prog w) A (Builtin.SmallTypes.nextOf (.ref z)) Q E s := by
  unfold Builtin.SmallTypes.nextOf
  exact wpAny_bind (wpAny_callSpecial?_slot (name := Str.ofString "__next__") (z_of hz) F.slot_zip_next (wpAny_call_entry F.slot_zip_next (z_of hz) F.entry_zip_next
    (z_next D hz hv hTI hTO h1 h2 hl1 hl2 hx hy fun h' v' fl' b1 b2 b3 b4 b5 b6 b7 b8 => wpAny_pure (hQ h' v' fl' b1 b2 b3 b4 b5 b6 b7 b8)) (F.args_zip_next_1 _)))
theorem nextOf_z_end {k1 k2 : Nat} {xs ys : Array Value} {a b : Value} {Q : Value → Shared → Prop} (hh : A.handled = none) (D : ZipApart z TI TO i1 i2 l1 l2)
    (hz : IsZ s.heap z TI TO v fl) (hv : ZV v) (hTI : IsPair s.heap TI (.ref i1) (.ref i2)) (hTO : IsPair s.heap TO a b)
    (h1 : s.heap.IsTupleIter i1 l1 k1) (h2 : s.heap.IsTupleIter i2 l2 k2) (hl1 : s.heap.IsTuple l1 xs) (hl2 : s.heap.IsTuple l2 ys) (hend : xs[k1]? = none ∨ ys[k2]? = none)
    (hE : ∀ h' e, (∀ c o, c ≠ z → c ≠ TO → c ≠ i1 → c ≠ i2 → s.heap.get? c = some o → h'.get? c = some o) → (∃ o, h'.get? e = some o ∧ o.cls = .type "StopIteration") → E (.ref e) { s with heap := h' }) :
    wpAny (model prog w) A (Builtin.SmallTypes.nextOf (.ref z)) Q E s := by
  unfold Builtin.SmallTypes.nextOf
  exact wpAny_bind (wpAny_callSpecial?_slot (name := Str.ofString "__next__") (z_of hz) F.slot_zip_next (wpAny_call_entry F.slot_zip_next (z_of hz) F.entry_zip_next
    (z_end hh D hz hv hTI hTO h1 h2 hl1 hl2 hend hE) (F.args_zip_next_1 _)))
/-- an enumerate over a zip is made -/
theorem call_enumZ {Q : Value → Shared → Prop} (hz : IsZip s.heap z TI TO .none)
    (h : ∀ h', IsEnum h' s.heap.objs.size z 0 .none → h'.objs.size = s.heap.objs.size + 1 → (∀ b o, s.heap.get? b = some o → h'.get? b = some o) → Q (.ref s.heap.objs.size) { s with heap := h' }) :
    wpAny (model prog w) A (call (.type "enumerate") [.ref z]) Q E s := by
  have mk : Meets (Builtin.«enumerate.__new__» ⟨[.type "enumerate", .ref z], []⟩) (fun _ R s => IsZip s.heap z TI TO .none ∧
      R (.ok (.ret (.ref s.heap.objs.size))) { s with heap := s.heap.push { cls := .type "enumerate", data := .fields #[.none, .bool false, .ref z, rawInt 0, .none, .none] } }) :=
    .of_wp fun prog w A R s h => by
      obtain ⟨hp, g, d, tk, os⟩ := s; obtain ⟨hz, h⟩ := h
      have sub := sub_enumerate
      have hZ : IsZip (Shared.heap ⟨hp, g, d, tk, os⟩) z TI TO .none := hz
      wp_walk using AutoSeq1.wpAny_loadPart' hz
      refine wpAny_stack_any fun st => wpAny_pure ?_
      split
      · rename_i c _ _ _ _ _
        cases (c == Value.type "enumerate")
        · wp_walk using AutoSeq1.wpAny_loadPart' hz, wpAny_pyIter_zip hZ
          exact ⟨_, rfl, h⟩
        · wp_walk using AutoSeq1.wpAny_loadPart' hz, wpAny_pyIter_zip hZ
          exact ⟨_, rfl, h⟩
      · wp_walk using AutoSeq1.wpAny_loadPart' hz, wpAny_pyIter_zip hZ
        exact ⟨_, rfl, h⟩
  refine callType_new F.called_enumerate (by decide) (F.typeCall_enumerate_1 _) (F.newCall_enumerate_1 _) (fun obj => F.args_object_init_2 obj _) F.entry_enumerate_new mk ⟨hz, ?_⟩
  have he : IsEnum (s.heap.push { cls := .type "enumerate", data := .fields #[.none, .bool false, .ref z, rawInt 0, .none, .none] }) s.heap.objs.size z 0 .none := Heap.get?_push_size _ rfl
  exact ⟨⟨_, he, rfl⟩, h _ he (Heap.size_push ..) fun b o x => Heap.get?_push_of_some _ x⟩
end
/-- the tuples at a and b, numbered: each turn two new pairs -/
def ItZ (K : PySem.W.Frag) (a b : Addr) : It :=
  ⟨fun i H => ∃ (xs ys : List V) (x y : V), SqT K H a xs ∧ SqT K H b ys ∧ xs[i]? = some x ∧ ys[i]? = some y,
    fun i H v H' => ∃ T1 T2 o1 o2 x y, v = .ref T2 ∧ H T1 = none ∧ TF [x, y] o1 ∧ upd H T1 o1 T2 = none ∧ TF [.int (i : Nat), .ref T1] o2 ∧ H' = upd (upd H T1 o1) T2 o2 ∧ (∀ xs, SqT K H a xs → xs[i]? = some x) ∧ ∀ ys, SqT K H b ys → ys[i]? = some y,
    fun i H => ∃ xs ys : List V, SqT K H a xs ∧ SqT K H b ys ∧ (xs.length ≤ i ∨ ys.length ≤ i)⟩
theorem turn_enumZ {P : Program} {w : World} {K : PySem.W.Frag} {elts : List Expr} {kk : Nat} {tpos : Pos} {a b e z TI TO i1 i2 : Addr} (D : ZipApart z TI TO i1 i2 a b) (ez : e ≠ z) (eI : e ≠ TI) (eO : e ≠ TO) (e1 : e ≠ i1) (e2 : e ≠ i2) :
    Turn P w K (.Tuple elts kk tpos) (ItZ K a b) [e, z, TI, TO, i1, i2] e (fun i h => (∃ old, IsEnum h e z ((i : Nat) : Int) old) ∧ (∃ v fl, ZV v ∧ IsZ h z TI TO v fl) ∧ IsPair h TI (.ref i1) (.ref i2) ∧ (∃ x y, IsPair h TO x y) ∧ h.IsTupleIter i1 a i ∧ h.IsTupleIter i2 b i) where
  mem := by simp
  obj := fun i h st c hc => by
    obtain ⟨⟨old, he⟩, ⟨v, fl, hv, hz⟩, hTI, ⟨x, y, hTO⟩, ⟨o1, q1, _, d1⟩, ⟨o2, q2, _, d2⟩⟩ := st
    rcases (by simpa using hc : c = e ∨ c = z ∨ c = TI ∨ c = TO ∨ c = i1 ∨ c = i2) with rfl | rfl | rfl | rfl | rfl | rfl
    · exact ⟨_, he, fun v q => nomatch q⟩
    · exact ⟨_, hz, fun v q => nomatch q⟩
    · exact ⟨_, hTI, fun v q => nomatch q⟩
    · exact ⟨_, hTO, fun v q => nomatch q⟩
    · exact ⟨o1, q1, fun v q => by rw [d1] at q; cases q⟩
    · exact ⟨o2, q2, fun v q => by rw [d2] at q; cases q⟩
  keep := fun i h h' st k => by
    obtain ⟨⟨old, he⟩, ⟨v, fl, hv, hz⟩, hTI, ⟨x, y, hTO⟩, h1, h2⟩ := st
    exact ⟨⟨old, k e (by simp) _ he⟩, ⟨v, fl, hv, k z (by simp) _ hz⟩, k TI (by simp) _ hTI, ⟨x, y, k TO (by simp) _ hTO⟩, h1.at fun o q => k i1 (by simp) o q, h2.at fun o q => k i2 (by simp) o q⟩
  item := by
    intro X hP hw hK hc i pins s σ H E I hf st hg
    subst hP hw hK
    obtain ⟨⟨old, he⟩, ⟨v, fl, hv, hz⟩, hTI, ⟨x0, y0, hTO⟩, h1, h2⟩ := st
    obtain ⟨xs, ys, x, y, hqx, hqy, hx, hy⟩ := hg
    obtain ⟨its, rv, p, _⟩ := I.tuple hqx
    obtain ⟨its2, rv2, p2, _⟩ := I.tuple hqy
    obtain ⟨u, hu, ru⟩ := rv.get hx
    obtain ⟨u2, hu2, ru2⟩ := rv2.get hy
    have el : e < s.heap.objs.size := Heap.lt_size he
    have small : ∀ c ∈ [e, z, TI, TO, i1, i2], c < s.heap.objs.size := fun c hc => by
      rcases (by simpa using hc : c = e ∨ c = z ∨ c = TI ∨ c = TO ∨ c = i1 ∨ c = i2) with rfl | rfl | rfl | rfl | rfl | rfl
      · exact el
      · exact Heap.lt_size hz
      · exact Heap.lt_size hTI
      · exact Heap.lt_size hTO
      · obtain ⟨_, q, _⟩ := h1; exact Heap.lt_size q
      · obtain ⟨_, q, _⟩ := h2; exact Heap.lt_size q
    refine en_item (Pn := fun r g => r = .ref s.heap.objs.size ∧ (∃ v fl, ZV v ∧ IsZ g z TI TO v fl) ∧ (∃ x y, IsPair g TO x y) ∧ g.IsTupleIter i1 a (i + 1) ∧ g.IsTupleIter i2 b (i + 1) ∧ IsPair g s.heap.objs.size u u2 ∧ g.objs.size = s.heap.objs.size + 1 ∧
      ∀ c o, c ≠ z → c ≠ TO → c ≠ i1 → c ≠ i2 → s.heap.get? c = some o → g.get? c = some o) he
      (fun E' Q' hq => nextOf_z D hz hv hTI hTO h1 h2 p p2 (x := u) (y := u2) (by simpa using hu) (by simpa using hu2) fun h' v' fl' b1 b2 b3 b4 b5 b6 b7 b8 => hq _ h' ⟨rfl, ⟨v', fl', b1, b2⟩, b3, b4, b5, b6, b7, b8⟩)
      (fun r g ⟨_, _, _, _, _, _, _, k⟩ => k e _ ez eO e1 e2 he) fun r g h' tk ⟨er, ⟨v', fl', b1, b2⟩, ⟨x', y', b3⟩, b4, b5, b6, b7, b8⟩ ho hT hsz hk => ?_
    subst er
    refine ⟨_, rfl, wpAny_letOwnedTupleGo_enum (s := { s with heap := h', toks := tk + 1 }) ho fun h'' he' sb => ?_⟩
    let ob1 : Obj := { cls := .type "tuple", data := .seq #[u, u2] }
    let ob2 : Obj := { cls := .type "tuple", data := .seq #[.int i tk, .ref s.heap.objs.size] }
    have n1 : ObjOk X.prog X.w (upd H s.heap.objs.size (.frz ob1 (.tup [x, y]))) g s.heap.objs.size (.frz ob1 (.tup [x, y])) := ⟨b6, by show 2 ≤ sizeLine; decide, [u, u2], .cons ru (.cons ru2 .nil), ⟨_, b6, rfl, _, rfl⟩⟩
    have I1 : Inv X pins σ (upd H s.heap.objs.size (.frz ob1 (.tup [x, y]))) { s with heap := g } :=
      I.turnedNew (t' := s.toks) (ch := [e, z, TI, TO, i1, i2]) (fun c o hb q => b8 c o (fun q' => hb (by simp [q'])) (fun q' => hb (by simp [q'])) (fun q' => hb (by simp [q'])) (fun q' => hb (by simp [q'])) q) hf (Nat.le_refl _) n1
    have gl : e < g.objs.size := by rw [b7]; exact Nat.lt_succ_of_lt el
    have hT2 : h''.get? g.objs.size = some ob2 := (sb.2 _ (Nat.ne_of_gt gl)).trans hT
    have fr : upd H s.heap.objs.size (.frz ob1 (.tup [x, y])) g.objs.size = none := I1.hok.fresh (Nat.le_refl _)
    have fe : ∀ c ∈ [e], FpOk X pins (upd H s.heap.objs.size (.frz ob1 (.tup [x, y]))) c := fun c hc => by
      rw [List.mem_singleton.mp hc]
      exact ⟨by rw [upd_ne (Nat.ne_of_lt el)]; exact (hf e (by simp)).1, (hf e (by simp)).2⟩
    have n2 : ObjOk X.prog X.w (upd (upd H s.heap.objs.size (.frz ob1 (.tup [x, y]))) g.objs.size (.frz ob2 (.tup [.int (i : Nat), .ref s.heap.objs.size]))) h'' g.objs.size (.frz ob2 (.tup [.int (i : Nat), .ref s.heap.objs.size])) :=
      ⟨hT2, by show 2 ≤ sizeLine; decide, [.int i tk, .ref s.heap.objs.size], .cons ⟨_, rfl⟩ (.cons rfl .nil), ⟨_, hT2, rfl, _, rfl⟩⟩
    have I2 : Inv X pins σ (upd (upd H s.heap.objs.size (.frz ob1 (.tup [x, y]))) g.objs.size (.frz ob2 (.tup [.int (i : Nat), .ref s.heap.objs.size]))) { s with heap := h'', toks := tk + 1 } :=
      I1.turnedNew (t' := tk + 1) (ch := [e]) (fun c o hb q => (sb.2 c (fun q' => hb (by simp [q']))).trans (hk c o (fun q' => hb (by simp [q'])) q)) fe (Nat.le_refl _) n2
    have up : ∀ c o, c ≠ e → g.get? c = some o → h''.get? c = some o := fun c o q1 q2 => (sb.2 c q1).trans (hk c o q1 q2)
    refine ⟨.ref g.objs.size, _, I2, rfl, ⟨_, _, _, _, x, y, rfl, I.hok.fresh (Nat.le_refl _), ⟨ob1, rfl, rfl⟩, fr, ⟨ob2, rfl, rfl⟩, rfl, fun l hl => by rw [I.tuple_inj hl hqx]; exact hx, fun l hl => by rw [I.tuple_inj hl hqy]; exact hy⟩,
      ⟨⟨.ref s.heap.objs.size, ?_⟩, ⟨v', fl', b1, up _ _ ez.symm b2⟩, up _ _ eI.symm (b8 _ _ D.TIz D.TITO D.TIi1 D.TIi2 hTI), ⟨x', y', up _ _ eO.symm b3⟩, b4.at fun o q => up _ o e1.symm q, b5.at fun o q => up _ o e2.symm q⟩, fun c hcm => ?_⟩
    · rw [show ((i + 1 : Nat) : Int) = (i : Int) + 1 by omega]
      exact he'
    · have cl := small c hcm
      rw [upd_ne (by rw [b7]; exact Nat.ne_of_lt (Nat.lt_succ_of_lt cl)), upd_ne (Nat.ne_of_lt cl)]
      exact (hf c hcm).1
  done := by
    intro X hP hw hK hc i pins s σ H E I hf st hg
    subst hP hw hK
    obtain ⟨⟨old, he⟩, ⟨v, fl, hv, hz⟩, hTI, ⟨x0, y0, hTO⟩, h1, h2⟩ := st
    obtain ⟨xs, ys, hqx, hqy, hend⟩ := hg
    obtain ⟨its, rv, p, _⟩ := I.tuple hqx
    obtain ⟨its2, rv2, p2, _⟩ := I.tuple hqy
    have l1 := rv.length
    have l2 := rv2.length
    have hn : its.toArray[i]? = none ∨ its2.toArray[i]? = none := by
      rcases hend with q | q
      · exact .inl (by simp; omega)
      · exact .inr (by simp; omega)
    exact en_end (Pe := fun g => ∀ c o, c ≠ z → c ≠ TO → c ≠ i1 → c ≠ i2 → s.heap.get? c = some o → g.get? c = some o) he (fun Q' E' hq => nextOf_z_end (I.ok.hd hc) D hz hv hTI hTO h1 h2 p p2 hn fun h' x k ho => hq h' x k ho)
      fun g k => ⟨rfl, I.turnedL (t' := s.toks) (ch := [e, z, TI, TO, i1, i2]) (fun c o hb q => k c o (fun q' => hb (by simp [q'])) (fun q' => hb (by simp [q'])) (fun q' => hb (by simp [q'])) (fun q' => hb (by simp [q'])) q) hf⟩
  self := fun A i s Q E st h => let ⟨⟨_, he⟩, _⟩ := st; wpAny_pyIter_enum he h
def iEnumZ (K : PySem.W.Frag) (ta : TA) : TI := fun σ H R => ta σ H fun vs H1 => ∃ a b xs ys, vs = [.ref a, .ref b] ∧ SqT K H1 a xs ∧ SqT K H1 b ys ∧ R (ItZ K a b) H1
theorem pi_enumZ {X : Cx} {e e2 : Expr} {ta : TA} {p pos p2 pos2 tpos : Pos} {elts : List Expr} {kk : Nat} (hg : Gl X "enumerate") (hm : X.mg "enumerate" = none) (hgz : Gl X "zip") (hmz : X.mg "zip" = none) (ha : PA X [e, e2] ta)
    (hs : starEach [e, e2] X.env = (false, eval e X.env) :: starEach [e2] X.env := by rfl) (hpl : (backTo pos2 (starEach [e2] X.env)).any (·.1) = false := by rfl)
    (na : starEach [.Call (.Name "zip" p2) [e, e2] [] pos2] X.env = (false, eval (.Call (.Name "zip" p2) [e, e2] [] pos2) X.env) :: starEach [] X.env := by rfl) :
    PI X (.Tuple elts kk tpos) (.Call (.Name "enumerate" p) [.Call (.Name "zip" p2) [e, e2] [] pos2] [] pos) (iEnumZ X.K ta) := by
  refine ⟨fun pins s σ H R I h => ?_⟩
  refine Call_ (ld_blt I hg hm boot_enumerate (PyProof.Rows.callWith_type1 (args_cons (thn (Q := fun v s1 => ∃ (a b z TI TO i1 i2 : Addr) (H1 : Hp), v = .ref z ∧ Inv X pins σ H1 s1 ∧ (∃ xs ys, SqT X.K H1 a xs ∧ SqT X.K H1 b ys ∧ R (ItZ X.K a b) H1) ∧ ZipApart z TI TO i1 i2 a b ∧
    IsZip s1.heap z TI TO .none ∧ IsPair s1.heap TI (.ref i1) (.ref i2) ∧ IsPair s1.heap TO .none .none ∧ s1.heap.IsTupleIter i1 a 0 ∧ s1.heap.IsTupleIter i2 b 0 ∧ ∀ c ∈ [z, TI, TO, i1, i2], FpOk X pins H1 c) ?_ fun v s1 hv => args_nil ?_) na) na))
  · refine Call_ (ld_blt I hgz hmz PyProof.Rows.boot_zip (PyProof.Rows.callWith_type1 (thn (ha.run pos2 pins s σ H _ I h) fun us s1 ⟨vs, H1, I1, r1, q1⟩ => ?_) hs hpl))
    obtain ⟨a, b, xs, ys, rfl, hqx, hqy, q⟩ := q1
    obtain ⟨u, us', rfl, ru, r1⟩ : ∃ u us', us = u :: us' ∧ RelV (.ref a) u ∧ Vals [.ref b] us' := by cases r1 with | cons r rr => exact ⟨_, _, rfl, r, rr⟩
    obtain ⟨u2, rfl, ru2⟩ := r1.one
    obtain rfl : u = Value.ref a := ru
    obtain rfl : u2 = Value.ref b := ru2
    obtain ⟨its, rv, pa, _⟩ := I1.tuple hqx
    obtain ⟨its2, rv2, pb, _⟩ := I1.tuple hqy
    have la : a < s1.heap.objs.size := by obtain ⟨_, z, _⟩ := pa; exact Heap.lt_size z
    have lb : b < s1.heap.objs.size := by obtain ⟨_, z, _⟩ := pb; exact Heap.lt_size z
    refine RZ.call_zipT pa pb fun h' hz hTI hTO h1 h2 hsz hk => ?_
    refine ⟨a, b, _, _, _, _, _, H1, rfl, I1.kept (t' := s1.toks) hk, ⟨xs, ys, hqx, hqy, q⟩, PySem.W.ktu_apart s1.heap.objs.size a b la lb, hz, hTI, hTO, h1, h2, fun c hcm => ?_⟩
    have le : s1.heap.objs.size ≤ c := by
      rcases (by simpa using hcm : c = s1.heap.objs.size + 4 ∨ c = s1.heap.objs.size + 2 ∨ c = s1.heap.objs.size + 3 ∨ c = s1.heap.objs.size ∨ c = s1.heap.objs.size + 1) with q | q | q | q | q <;> rw [q] <;> first | exact Nat.le_add_right _ _ | exact Nat.le_refl _
    exact I1.fpOk le (I1.hok.fresh le)
  · obtain ⟨a, b, z, TI, TO, i1, i2, H1, rfl, I1, ⟨xs, ys, hqx, hqy, q⟩, D, hz, hTI, hTO, h1, h2, hf⟩ := hv
    refine call_enumZ hz fun h' he hsz hk => wpAny_pyIter_enum he ?_
    have I2 : Inv X pins σ H1 { s1 with heap := h' } := I1.kept (t' := s1.toks) hk
    have m1 : i1 < s1.heap.objs.size := by obtain ⟨_, q, _⟩ := h1; exact Heap.lt_size q
    have m2 : i2 < s1.heap.objs.size := by obtain ⟨_, q, _⟩ := h2; exact Heap.lt_size q
    refine ⟨s1.heap.objs.size, [s1.heap.objs.size, z, TI, TO, i1, i2], _, _, H1, rfl, I2, turn_enumZ D (Nat.ne_of_gt (Heap.lt_size hz)) (Nat.ne_of_gt (Heap.lt_size hTI)) (Nat.ne_of_gt (Heap.lt_size hTO)) (Nat.ne_of_gt m1) (Nat.ne_of_gt m2),
      ⟨⟨.none, he⟩, ⟨.none, false, .inl rfl, hk _ _ hz⟩, hk _ _ hTI, ⟨_, _, hk _ _ hTO⟩, h1.at fun o q => hk _ o q, h2.at fun o q => hk _ o q⟩, fun c hcm => ?_, q⟩
    rcases List.mem_cons.mp hcm with rfl | hc
    · exact I1.fpOk (Nat.le_refl _) (I1.hok.fresh (Nat.le_refl _))
    · exact hf c hc
def numZ (l m : List Dat) : List Dat := (List.range (min l.length m.length)).map fun i => .tup [.int (i : Nat), .tup [l[i]?.getD .non, m[i]?.getD .non]]
def enumZK : List Dat → Res (List Dat)
  | [.tup l, .tup m] => .ok (numZ l m)
  | _ => .stuck
theorem walk_enumZ {K : PySem.W.Frag} {a b : Addr} {xs ys : List V} : Walk (ItZ K a b) (min xs.length ys.length) (fun H => SqT K H a xs ∧ SqT K H b ys) (fun i H v H' => ∃ T1 T2 o1 o2 x y, v = .ref T2 ∧ H T1 = none ∧ TF [x, y] o1 ∧ upd H T1 o1 T2 = none ∧ TF [.int (i : Nat), .ref T1] o2 ∧ H' = upd (upd H T1 o1) T2 o2 ∧ xs[i]? = some x ∧ ys[i]? = some y) :=
  ⟨fun i _ hi q => ⟨xs, ys, xs[i], ys[i], q.1, q.2, by simp, by simp⟩, fun _ q => ⟨xs, ys, q.1, q.2, by omega⟩, fun _ _ _ _ _ q y => by
    obtain ⟨T1, T2, o1, o2, x, y, h1, h2, h3, h4, h5, h6, h7, h8⟩ := y
    exact ⟨T1, T2, o1, o2, x, y, h1, h2, h3, h4, h5, h6, h7 xs q.1, h8 ys q.2⟩⟩
theorem src_enumZ {K : PySem.W.Frag} {T : CT} {S : List Addr} {H1 : Hp} {vs ws : List V} {ds es : List Dat} {a b : Addr} (h : SqT K (hide H1 S) a vs) (rs : Reps K T (hide H1 S) vs ds) (h2 : SqT K (hide H1 S) b ws) (rs2 : Reps K T (hide H1 S) ws es) : Src K T S (numZ ds es) (ItZ K a b) H1 :=
  ⟨_, _, walk_of_eq walk_enumZ (by unfold numZ; rw [List.length_map, List.length_range, rs.length, rs2.length]), fun H' S' e => ⟨ex_t hide_ex (ex_t e h), ex_t hide_ex (ex_t e h2)⟩, fun i d x H2 H3 S' hi e m y => by
    obtain ⟨P1, P2, o1, o2, v, w, rfl, hP1, tf1, hP2, tf2, rfl, hv, hw⟩ := y
    have il : i < ds.length := by
      rw [← rs.length]
      exact (List.getElem?_eq_some_iff.mp hv).1
    have il2 : i < es.length := by
      rw [← rs2.length]
      exact (List.getElem?_eq_some_iff.mp hw).1
    unfold numZ at hi
    rw [List.getElem?_map, List.getElem?_range (by omega)] at hi
    cases hi
    obtain ⟨v', g1, g2⟩ := rs.get (List.getElem?_eq_getElem il)
    rw [hv] at g1
    cases g1
    obtain ⟨w', k1, k2⟩ := rs2.get (List.getElem?_eq_getElem il2)
    rw [hw] at k1
    cases k1
    show Ex H2 (upd (upd H2 P1 o1) P2 o2) ∧ Rep K T (hide (upd (upd H2 P1 o1) P2 o2) S') (.ref P2) (.tup [.int (i : Nat), .tup [ds[i]?.getD .non, es[i]?.getD .non]])
    rw [List.getElem?_eq_getElem il, List.getElem?_eq_getElem il2]
    have x1 := Ex.new hP1 (o := o1)
    have r1 := rep_newT (K := K) (T := T) m hP1 tf1 (.cons (g2.mono e) (.cons (k2.mono e) .nil))
    exact ⟨x1.trans (Ex.new hP2), rep_newT (m.mono x1) hP2 tf2 (.cons (.int _) (.cons r1 .nil))⟩⟩
section
variable {X : Cx} {T : CT} {W : WX} {ow : List Nat} {e e2 : Expr} {pos p p2 pos2 tpos : Pos} {fs : DEnv → Res (List Dat)} {elts : List Expr} {kk : Nat}
theorem di_enumZ (hm : X.mg "enumerate" = none) (hmz : X.mg "zip" = none) (ha : DA X T W ow [e, e2] fs) (hg : Gl X "enumerate" := by rfl) (hgz : Gl X "zip" := by rfl)
    (hs : starEach [e, e2] X.env = (false, eval e X.env) :: starEach [e2] X.env := by rfl) (hpl : (backTo pos2 (starEach [e2] X.env)).any (·.1) = false := by rfl)
    (na : starEach [.Call (.Name "zip" p2) [e, e2] [] pos2] X.env = (false, eval (.Call (.Name "zip" p2) [e, e2] [] pos2) X.env) :: starEach [] X.env := by rfl) :
    DI X T W ow (.Tuple elts kk tpos) (.Call (.Name "enumerate" p) [.Call (.Name "zip" p2) [e, e2] [] pos2] [] pos) (gA enumZK fs) := pi_imp (pi_enumZ hg hm hgz hmz ha hs hpl na) fun σ H R h => by
  obtain ⟨ρ, S, re, w⟩ := h
  refine WantI.partA re w fun vs ds H1 w1 re1 e1 rs => ?_
  cases rs with
  | nil => exact w1.elim
  | cons r rs =>
    cases rs with
    | nil => cases r <;> exact w1.elim
    | cons r2 rs =>
      cases rs with
      | cons _ _ => cases r <;> cases r2 <;> exact w1.elim
      | nil =>
        cases r with
        | tup hs rr =>
          cases r2 with
          | tup hs2 rr2 => exact ⟨_, _, _, _, rfl, ex_t hide_ex hs.sq, ex_t hide_ex hs2.sq, w1 _ H1 (Ex.refl H1) (src_enumZ hs.sq rr hs2.sq rr2)⟩
          | _ => exact w1.elim
        | _ => cases r2 <;> exact w1.elim
end
end Dl
/-! The D layer, part 39: x, y, z = [..], e, e2, the new list x's own. -/
namespace Dl
open PySem PySem.Spec PyProof.Rows L2
def sParO3 (i j l : Nat) (g : DEnv → Res (List Dat)) (f f2 : DEnv → Res Dat) : DEnv → DFlow := fun ρ => rBind (g ρ) ρ fun e => rBind (f ρ) ρ fun d => rBind (f2 ρ) ρ fun d2 => .nx (((ρ.set i (some (.lst e))).set j (some d)).set l (some d2))
section
variable {X : Cx} {T : CT} {W : WX} {ow ow' ob : List Nat} {a b c : Expr} {f f2 : DEnv → Res Dat}
theorem ds_parO3T {g : DEnv → Res (List Dat)} {i j l : Nat} {x y z : Str} {px py pz pt pos : Pos} {kt k2 pt2} (hc : X.calm = true) (hN : X.N.Nodup) (ha : DF X T W ow a g) (hb : DE X T W ow b f) (hd : DE X T W ow c f2) (hs : ∀ k ∈ ow', k ∈ ow) (hi1 : i ∉ ow') (hj1 : j ∉ i :: ow') (hl1 : l ∉ i :: ow')
    (hi : X.N[i]? = some x := by rfl) (hj : X.N[j]? = some y := by rfl) (hl : X.N[l]? = some z := by rfl) (hx : Loc X.env.scope x := by first | exact .inl rfl | exact .inr rfl) (hy : Loc X.env.scope y := by first | exact .inl rfl | exact .inr rfl) (hz : Loc X.env.scope z := by first | exact .inl rfl | exact .inr rfl)
    (hfx : X.fn x = true ∨ X.env.scope.names.lookup x = some .local := by first | exact .inl rfl | exact .inr rfl) (hfy : X.fn y = true ∨ X.env.scope.names.lookup y = some .local := by first | exact .inl rfl | exact .inr rfl) (hfz : X.fn z = true ∨ X.env.scope.names.lookup z = some .local := by first | exact .inl rfl | exact .inr rfl)
    (h1 : starEach [a, b, c] X.env = (false, eval a X.env) :: starEach [b, c] X.env := by rfl) (h2 : starEach [b, c] X.env = (false, eval b X.env) :: starEach [c] X.env := by rfl) (h3 : starEach [c] X.env = (false, eval c X.env) :: starEach [] X.env := by rfl)
    (hsw : swapsWithSole [.Tuple [.Name x px, .Name y py, .Name z pz] kt pt] (.Tuple [a, b, c] k2 pt2) pos.line X.env = pure false := by rfl)
    (hw : swappedStores [.Tuple [.Name x px, .Name y py, .Name z pz] kt pt] (.Tuple [a, b, c] k2 pt2) X.env = pure none := by rfl) (hae : (assignEach [.Tuple [.Name x px, .Name y py, .Name z pz] kt pt] X.env).map (·.2) = [assign (.Tuple [.Name x px, .Name y py, .Name z pz] kt pt) X.env] := by rfl)
    (ht1 : (assignEach [.Name x px, .Name y py, .Name z pz] X.env).map (·.2) = assign (.Name x px) X.env :: (assignEach [.Name y py, .Name z pz] X.env).map (·.2) := by rfl) (ht2 : (assignEach [.Name y py, .Name z pz] X.env).map (·.2) = assign (.Name y py) X.env :: (assignEach [.Name z pz] X.env).map (·.2) := by rfl)
    (ht3 : (assignEach [.Name z pz] X.env).map (·.2) = assign (.Name z pz) X.env :: (assignEach [] X.env).map (·.2) := by rfl)
    (hn : (assignEach [.Name x px, .Name y py, .Name z pz] X.env).length = 3 := by rfl) (hst : (assignEach [.Name x px, .Name y py, .Name z pz] X.env).findIdx? (·.1) = none := by rfl) :
    DS X T W ow (i :: ow') ob (.Assign [.Tuple [.Name x px, .Name y py, .Name z pz] kt pt] (.Tuple [a, b, c] k2 pt2) pos) (sParO3 i j l g f f2) :=
  ps_imp (ps_asg (pe_tup (pa_cons (te := tDF X.K T W ow g) ha (pa_cons hb (pa_cons hd pa_nil h3) h2) h1)) (pg_tup hc (pgs_cons (pg_name hN hi hx hfx) (pgs_cons (pg_name hN hj hy hfy) (pgs_cons (pg_name hN hl hz hfz) pgs_nil ht3) ht2) ht1) hn hst) hsw hw hae) fun D σ H q => by
  obtain ⟨B, B0, ρ, S, rs, w⟩ := q
  refine Wants.partF rs w fun p vs ds H1 w1 rs1 e1 n hp r => ?_
  have pB : B p = none := rs.ex.fresh n
  have rsm : RS X.K T B B0 ow σ ρ H1 (p :: S) := ⟨rs.re.more e1 n ⟨_, hp, rfl⟩, rs.ex.trans e1, fun q hq => List.mem_cons_of_mem _ (rs.sub q hq), rs.bd, rs.onew, fun q hq => (List.mem_cons.mp hq).elim (fun z => by rw [z]; exact .inr pB) (rs.new q)⟩
  refine Wants.part rsm (w1.mono (hide_new e1 n)) fun v d H2 w2 rs2 e2 rv => ?_
  refine Wants.part rs2 w2 fun v2 d2 H3 w3 rs3 e3 rv2 => ?_
  show [V.ref p, v, v2].length ≤ sizeLine ∧ _
  refine ⟨show 3 ≤ sizeLine by decide, fun t nt => ⟨t, [.ref p, v, v2], rfl, .inl (.inl upd_same), rfl, .ref p, [v, v2], rfl, v, [v2], rfl, v2, [], rfl, rfl, ?_⟩⟩
  have e4 : Ex H3 (upd H3 t (.tup [.ref p, v, v2])) := Ex.new nt
  obtain ⟨rs0, sub⟩ := rs.less hs
  have sub2 : ∀ q ∈ p :: (B0 ++ ownA ow' σ ρ), q ∈ p :: S := fun q hq => (List.mem_cons.mp hq).elim (fun z => by rw [z]; exact List.mem_cons_self) fun z => List.mem_cons_of_mem _ (sub q z)
  have e14 := (e2.trans e3).trans e4
  have rs4 := rs0.own hi1 (e1.trans e14) n (e14 _ _ hp) ((r.mono (hide_mono e14)).mono (hide_sub sub2))
  have rs5 := rs4.set hj1 (((rv.mono (hide_mono (e3.trans e4))).mono (hide_sub sub2)))
  have rs6 := rs5.set hl1 (((rv2.mono (hide_mono e4)).mono (hide_sub sub2)))
  exact Wants.go w3 rs6 ((hide_mono e4).trans (hide_sub sub2))
theorem ds_parO3 {g : DEnv → Res (List Dat)} {i j l : Nat} {x y z : Str} {px py pz pt pos : Pos} {kt k2 pt2} (hc : X.calm = true) (hN : X.N.Nodup) (ha : DF X T W ow a g) (hb : DE X T W ow b f) (hd : DE X T W ow c f2) (hs : ∀ k ∈ ow', k ∈ ow) (hi1 : i ∉ ow') (hj1 : j ∉ i :: ow') (hl1 : l ∉ i :: ow')
    (hw : swappedStores [.Tuple [.Name x px, .Name y py, .Name z pz] kt pt] (.Tuple [a, b, c] k2 pt2) X.env = pure (some [x, y, z]))
    (hi : X.N[i]? = some x := by rfl) (hj : X.N[j]? = some y := by rfl) (hl : X.N[l]? = some z := by rfl) (hij : i ≠ j := by decide) (hil : i ≠ l := by decide) (hjl : j ≠ l := by decide)
    (hx : X.env.scope.names.lookup x = some .local := by rfl) (hy : X.env.scope.names.lookup y = some .local := by rfl) (hz : X.env.scope.names.lookup z = some .local := by rfl)
    (h1 : starEach [a, b, c] X.env = (false, eval a X.env) :: starEach [b, c] X.env := by rfl) (h2 : starEach [b, c] X.env = (false, eval b X.env) :: starEach [c] X.env := by rfl) (h3 : starEach [c] X.env = (false, eval c X.env) :: starEach [] X.env := by rfl)
    (hsw : swapsWithSole [.Tuple [.Name x px, .Name y py, .Name z pz] kt pt] (.Tuple [a, b, c] k2 pt2) pos.line X.env = pure false := by rfl) :
    DS X T W ow (i :: ow') ob (.Assign [.Tuple [.Name x px, .Name y py, .Name z pz] kt pt] (.Tuple [a, b, c] k2 pt2) pos) (sParO3 i j l g f f2) := ps_imp (ps_par3 hc hN hi hj hl hij hil hjl hx hy hz (pa_cons (te := tDF X.K T W ow g) ha (pa_cons hb (pa_cons hd pa_nil h3) h2) h1) hw hsw) fun D σ H q => by
  obtain ⟨B, B0, ρ, S, rs, w⟩ := q
  refine Wants.partF rs w fun p vs ds H1 w1 rs1 e1 n hp r => ?_
  have pB : B p = none := rs.ex.fresh n
  have rsm : RS X.K T B B0 ow σ ρ H1 (p :: S) := ⟨rs.re.more e1 n ⟨_, hp, rfl⟩, rs.ex.trans e1, fun q hq => List.mem_cons_of_mem _ (rs.sub q hq), rs.bd, rs.onew, fun q hq => (List.mem_cons.mp hq).elim (fun z => by rw [z]; exact .inr pB) (rs.new q)⟩
  refine Wants.part rsm (w1.mono (hide_new e1 n)) fun v d H2 w2 rs2 e2 rv => ?_
  refine Wants.part rs2 w2 fun v2 d2 H3 w3 rs3 e3 rv2 => ?_
  refine ⟨.ref p, v, v2, rfl, ?_⟩
  obtain ⟨rs0, sub⟩ := rs.less hs
  have sub2 : ∀ q ∈ p :: (B0 ++ ownA ow' σ ρ), q ∈ p :: S := fun q hq => (List.mem_cons.mp hq).elim (fun z => by rw [z]; exact List.mem_cons_self) fun z => List.mem_cons_of_mem _ (sub q z)
  have e14 := e2.trans e3
  have rs4 := rs0.own hi1 (e1.trans e14) n (e14 _ _ hp) ((r.mono (hide_mono e14)).mono (hide_sub sub2))
  have rs5 := rs4.set hj1 (((rv.mono (hide_mono e3)).mono (hide_sub sub2)))
  have rs6 := rs5.set hl1 ((rv2.mono (hide_sub sub2)))
  exact Wants.go w3 rs6 (hide_sub sub2)
end
/-! enumerate over a list or a tuple -/
/-- the list at a, each item in a new pair -/
def ItE (K : PySem.W.Frag) (a : Addr) : It :=
  ⟨fun i H => ∃ (xs : List V) (x : V), SqL K H a xs ∧ xs[i]? = some x, fun i H v H' => ∃ T o x, v = .ref T ∧ H T = none ∧ TF [.int (i : Nat), x] o ∧ H' = upd H T o ∧ ∀ xs, SqL K H a xs → xs[i]? = some x, fun i H => ∃ xs : List V, SqL K H a xs ∧ xs.length ≤ i⟩
theorem turn_enumE {P : Program} {w : World} {K : PySem.W.Frag} {elts : List Expr} {kk : Nat} {tpos : Pos} (a e it : Addr) :
    Turn P w K (.Tuple elts kk tpos) (ItE K a) [e, it] e (fun i h => (∃ old, IsEnum h e it ((i : Nat) : Int) old) ∧ h.IsListIter it a i ∧ e ≠ it) where
  mem := by simp
  obj := fun i h st b hb => by
    obtain ⟨⟨old, he⟩, ⟨o, ho, hc, hd⟩, _⟩ := st
    rcases (by simpa using hb : b = e ∨ b = it) with z | z
    · rw [z]; exact ⟨_, he, fun v q => nomatch q⟩
    · rw [z]; exact ⟨o, ho, fun v q => by rw [hd] at q; cases q⟩
  keep := fun i h h' st k => let ⟨⟨old, he⟩, hi, hne⟩ := st; ⟨⟨old, k e (by simp) _ he⟩, hi.at fun o q => k it (by simp) o q, hne⟩
  item := by
    intro X hP hw hK hc i pins s σ H E I hf st hg
    subst hP hw hK
    obtain ⟨⟨old, he⟩, hit, hne⟩ := st
    obtain ⟨xs, x, hq, hx⟩ := hg
    obtain ⟨its, rv, p, hz⟩ := I.list hq
    obtain ⟨u, hu, ru⟩ := rv.get hx
    have hel : e < s.heap.objs.size := Heap.lt_size he
    have hil : it < s.heap.objs.size := by obtain ⟨_, q, _⟩ := hit; exact Heap.lt_size q
    refine wpAny_pyNext_enum_item he hit p.isList (x := u) (by simpa using hu) hne fun h' ho hit' hT hsz hk => ?_
    refine ⟨_, rfl, wpAny_letOwnedTupleGo_enum (s := { s with heap := h', toks := s.toks + 1 }) ho fun h'' he' sb => ?_⟩
    have hT2 : h''.get? s.heap.objs.size = some { cls := .type "tuple", data := .seq #[.int i s.toks, u] } := (sb.2 _ (Nat.ne_of_gt hel)).trans hT
    let ob : Obj := { cls := .type "tuple", data := .seq #[.int i s.toks, u] }
    have new : ObjOk X.prog X.w (upd H s.heap.objs.size (.frz ob (.tup [.int (i : Nat), x]))) h'' s.heap.objs.size (.frz ob (.tup [.int (i : Nat), x])) :=
      ⟨hT2, by show 2 ≤ sizeLine; decide, [.int i s.toks, u], .cons ⟨_, rfl⟩ (.cons ru .nil), ⟨_, hT2, rfl, _, rfl⟩⟩
    have I1 : Inv X pins σ (upd H s.heap.objs.size (.frz ob (.tup [.int (i : Nat), x]))) { s with heap := h'', toks := s.toks + 1 } :=
      I.turnedNew (ch := [e, it]) (fun b ob hb q => (sb.2 b (fun z => hb (by simp [z]))).trans (hk b ob (fun z => hb (by simp [z])) (fun z => hb (by simp [z])) q)) hf (Nat.le_refl _) new
    refine ⟨.ref s.heap.objs.size, _, I1, rfl, ⟨_, _, x, rfl, I.hok.fresh (Nat.le_refl _), ⟨ob, rfl, rfl⟩, rfl, fun ys hy => by rw [I.list_inj hy hq]; exact hx⟩, ⟨⟨u, ?_⟩, hit'.at fun o q => (sb.2 it (Ne.symm hne)).trans q, hne⟩, fun b hb => ?_⟩
    · have e1 : ((i + 1 : Nat) : Int) = (i : Int) + 1 := by omega
      rw [e1]; exact he'
    · have hb' : b < s.heap.objs.size := by
        have e' : b = e ∨ b = it := by simpa using hb
        rcases e' with z | z
        · rw [z]; exact hel
        · rw [z]; exact hil
      rw [upd_ne (Nat.ne_of_lt hb')]
      exact (hf b hb).1
  done := by
    intro X hP hw hK hc i pins s σ H E I hf st hg
    subst hP hw hK
    obtain ⟨⟨old, he⟩, hit, hne⟩ := st
    obtain ⟨xs, hq, hx⟩ := hg
    obtain ⟨its, rv, p, hz⟩ := I.list hq
    obtain ⟨f0, f1, f2, f3, f4, f5⟩ := hf it (by simp)
    have hl := rv.length
    exact wpAny_pyNext_enum_end (I.ok.hd hc) he hit p.isList (by simp; omega) fun h' eb => ⟨rfl, I.turned (t' := s.toks) (fun b o hb q => eb b o hb q) f0 f1 f3 f4 f5⟩
  self := fun A i s Q E st h => let ⟨⟨_, he⟩, _⟩ := st; wpAny_pyIter_enum he h
def iEnumA (K : PySem.W.Frag) (ta : TA) : TI := fun σ H R => ta σ H fun vs H1 => ∃ a xs, vs = [.ref a] ∧ ((SqT K H1 a xs ∧ R (ItT K a) H1) ∨ (SqL K H1 a xs ∧ R (ItE K a) H1))
theorem pi_enumA {X : Cx} {e : Expr} {ta : TA} {p pos tpos : Pos} {elts : List Expr} {kk : Nat} (hg : Gl X "enumerate") (hm : X.mg "enumerate" = none) (ha : PA X [e] ta) (hs : starEach [e] X.env = [(false, eval e X.env)] := by rfl) :
    PI X (.Tuple elts kk tpos) (.Call (.Name "enumerate" p) [e] [] pos) (iEnumA X.K ta) := by
  refine ⟨fun pins s σ H R I h => ?_⟩
  refine Call_ (ld_blt I hg hm boot_enumerate (PyProof.Rows.callWith_type1 (thn (ha.run pos pins s σ H _ I h) fun us s1 ⟨vs, H1, I1, r1, q1⟩ => ?_) hs rfl))
  obtain ⟨a, xs, rfl, hq | hq⟩ := q1
  · obtain ⟨hq, q⟩ := hq
    obtain ⟨u, rfl, ru⟩ := r1.one
    obtain rfl : u = Value.ref a := ru
    obtain ⟨its, rv, pt, hz⟩ := I1.tuple hq
    have la : a < s1.heap.objs.size := by obtain ⟨_, z, _⟩ := pt; exact Heap.lt_size z
    refine call_enumT pt fun h' he hit hsz hk => wpAny_pyIter_enum he ?_
    have I2 : Inv X pins σ H1 { s1 with heap := h' } := I1.kept (t' := s1.toks) hk
    refine ⟨s1.heap.objs.size + 1, [s1.heap.objs.size + 1, s1.heap.objs.size], _, _, H1, rfl, I2, turn_enumT a (s1.heap.objs.size + 1) s1.heap.objs.size (Nat.ne_of_lt (Nat.lt_succ_of_lt la)) (Nat.ne_of_lt la), ⟨⟨.none, he⟩, hit, Nat.succ_ne_self _⟩, fun b hb => ?_, q⟩
    have le : s1.heap.objs.size ≤ b := by
      rcases (by simpa using hb : b = s1.heap.objs.size + 1 ∨ b = s1.heap.objs.size) with z | z
      · rw [z]; exact Nat.le_succ _
      · rw [z]; exact Nat.le_refl _
    exact I1.fpOk le (I1.hok.fresh le)
  · obtain ⟨hq, q⟩ := hq
    obtain ⟨u, rfl, ru⟩ := r1.one
    obtain rfl : u = Value.ref a := ru
    obtain ⟨its, rv, p', hz⟩ := I1.list hq
    refine call_enumerate_list p'.isList fun h' he hit hsz hk => wpAny_pyIter_enum he ?_
    have I2 : Inv X pins σ H1 { s1 with heap := h' } := I1.kept (t' := s1.toks) hk
    refine ⟨s1.heap.objs.size + 1, [s1.heap.objs.size + 1, s1.heap.objs.size], _, _, H1, rfl, I2, turn_enumE a (s1.heap.objs.size + 1) s1.heap.objs.size, ⟨⟨.none, he⟩, hit, Nat.succ_ne_self _⟩, fun b hb => ?_, q⟩
    have le : s1.heap.objs.size ≤ b := by
      rcases (by simpa using hb : b = s1.heap.objs.size + 1 ∨ b = s1.heap.objs.size) with z | z
      · rw [z]; exact Nat.le_succ _
      · rw [z]; exact Nat.le_refl _
    exact I1.fpOk le (I1.hok.fresh le)
theorem walk_enumE {K : PySem.W.Frag} {a : Addr} {xs : List V} : Walk (ItE K a) xs.length (fun H => SqL K H a xs) (fun i H v H' => ∃ T o x, v = .ref T ∧ H T = none ∧ TF [.int (i : Nat), x] o ∧ H' = upd H T o ∧ xs[i]? = some x) :=
  ⟨fun i _ hi q => ⟨xs, xs[i], q, by simp [hi]⟩, fun _ q => ⟨xs, q, Nat.le_refl _⟩, fun _ _ _ _ _ q y => by
    obtain ⟨T, o, x, h1, h2, h3, h4, h5⟩ := y
    exact ⟨T, o, x, h1, h2, h3, h4, h5 xs q⟩⟩
theorem src_enumE {K : PySem.W.Frag} {T : CT} {S : List Addr} {H1 : Hp} {vs : List V} {ds : List Dat} {a : Addr} (h : SqL K (hide H1 S) a vs) (rs : Reps K T (hide H1 S) vs ds) : Src K T S (numD ds) (ItE K a) H1 :=
  ⟨_, _, walk_of_eq walk_enumE (by unfold numD; rw [List.length_map, List.length_range]; exact rs.length.symm), fun H' S' e => ex_l hide_ex (ex_l e h), fun i d x H2 H3 S' hi e m y => by
    obtain ⟨P, o, v, rfl, hP, tf, rfl, hv⟩ := y
    have il : i < ds.length := by
      rw [← rs.length]
      exact (List.getElem?_eq_some_iff.mp hv).1
    unfold numD at hi
    rw [List.getElem?_map, List.getElem?_range il] at hi
    cases hi
    obtain ⟨v', h1, h2⟩ := rs.get (List.getElem?_eq_getElem il)
    rw [hv] at h1
    cases h1
    show Ex H2 (upd H2 P o) ∧ Rep K T (hide (upd H2 P o) S') (.ref P) (.tup [.int (i : Nat), ds[i]?.getD .non])
    rw [List.getElem?_eq_getElem il]
    exact ⟨Ex.new hP, rep_newT m hP tf (.cons (.int _) (.cons (h2.mono e) .nil))⟩⟩
def enumAK : Dat → Res (List Dat)
  | .tup l => .ok (numD l)
  | .lst l => .ok (numD l)
  | _ => .stuck
def gEnumA (fa : DEnv → Res Dat) : DEnv → Res (List Dat) := fun ρ => (fa ρ).bind enumAK
section
variable {X : Cx} {T : CT} {W : WX} {ow : List Nat} {e : Expr} {pos p tpos : Pos} {fa : DEnv → Res Dat} {elts : List Expr} {kk : Nat}
theorem di_enumA (hm : X.mg "enumerate" = none) (ha : DE X T W ow e fa) (hg : Gl X "enumerate" := by rfl) (hs : starEach [e] X.env = [(false, eval e X.env)] := by rfl) (hs2 : starEach [e] X.env = (false, eval e X.env) :: starEach [] X.env := by rfl) :
    DI X T W ow (.Tuple elts kk tpos) (.Call (.Name "enumerate" p) [e] [] pos) (gEnumA fa) := pi_imp (pi_enumA hg hm (pa_cons ha pa_nil hs2) hs) fun σ H R h => by
  obtain ⟨ρ, S, re, w⟩ := h
  refine ⟨ρ, S, re, ?_⟩
  unfold gEnumA at w
  cases q : fa ρ with
  | stuck => rw [q] at w; exact w.elim
  | exc c => rw [q] at w; exact w
  | ok d =>
    rw [q] at w
    intro v H1 e1 r
    cases r with
    | tup hs rs => exact ⟨_, _, rfl, .inl ⟨ex_t hide_ex hs.sq, w _ H1 e1 (src_enumT hs.sq rs)⟩⟩
    | lst hs rs => exact ⟨_, _, rfl, .inr ⟨ex_l hide_ex (.inl (.inl hs)), w _ H1 e1 (src_enumE (.inl (.inl hs)) rs)⟩⟩
    | _ => exact w.elim
end
end Dl
/-! The D layer, part 40: owned dicts: {}, x[k] = v, k in x. -/
namespace Dl
open PySem PySem.Spec PyProof.Rows L2
def keyD : Dat → Option Key
  | .int i => some (.inl i)
  | .str s => some (.inr s)
  | _ => none
theorem keyD_rep {K : PySem.W.Frag} {T : CT} {H : Hp} {v : V} {d : Dat} {k : Key} (r : Rep K T H v d) (e : keyD d = some k) : v = kV k := by
  cases r with
  | int i => cases e; rfl
  | str s => cases e; rfl
  | _ => cases e
/-- the values, k's set -/
def rplD : List Key → List Dat → Key → Dat → List Dat
  | j :: ks, v :: vs, k, d => (if j = k then d else v) :: rplD ks vs k d
  | _, _, _, _ => []
theorem rpl_reps {K : PySem.W.Frag} {T : CT} {H : Hp} {k : Key} {v : V} {d : Dat} (r : Rep K T H v d) : ∀ {kvs : List (Key × V)} {vs : List Dat}, Reps K T H (kvs.map (·.2)) vs → Reps K T H ((kvs.map fun kv => if kv.1 = k then (kv.1, v) else kv).map (·.2)) (rplD (kvs.map (·.1)) vs k d)
  | [], vs, h => by
    cases h
    exact .nil
  | p :: kvs, vs, h => by
    cases h with
    | cons h1 h2 =>
      rename_i d0 ds0
      refine .cons ?_ (rpl_reps r h2)
      show Rep K T H (if p.1 = k then (p.1, v) else p).2 (if p.1 = k then d else d0)
      by_cases z : p.1 = k
      · rw [if_pos z, if_pos z]; exact r
      · rw [if_neg z, if_neg z]; exact h1
theorem rpl_keys {k : Key} {v : V} : ∀ kvs : List (Key × V), (kvs.map fun kv => if kv.1 = k then (kv.1, v) else kv).map (·.1) = kvs.map (·.1)
  | [] => rfl
  | p :: kvs => by
    show (if p.1 = k then (p.1, v) else p).1 :: _ = p.1 :: _
    rw [rpl_keys kvs]
    congr 1
    split <;> rfl
def putDk (ks : List Key) (vs : List Dat) (k : Key) (d : Dat) : List Key := if ks.any (fun j => decide (j = k)) = true then ks else ks ++ [k]
def putDv (ks : List Key) (vs : List Dat) (k : Key) (d : Dat) : List Dat := if ks.any (fun j => decide (j = k)) = true then rplD ks vs k d else vs ++ [d]
theorem put_own {K : PySem.W.Frag} {T : CT} {H : Hp} {kvs : List (Key × V)} {ks : List Key} {vs : List Dat} {k : Key} {v : V} {d : Dat} (e : kvs.map (·.1) = ks) (h : Reps K T H (kvs.map (·.2)) vs) (r : Rep K T H v d) : OwnR K T H (.dK (L2.putK kvs k v)) (.dct (putDk ks vs k d) (putDv ks vs k d)) := by
  have ea : ks.any (fun j => decide (j = k)) = kvs.any fun kv => decide (kv.1 = k) := by rw [← e, List.any_map]; rfl
  unfold L2.putK putDk putDv
  rw [ea]
  by_cases z : (kvs.any fun kv => decide (kv.1 = k)) = true
  · rw [if_pos z, if_pos z, if_pos z, ← e]
    exact .dct (rpl_keys kvs) (rpl_reps r h)
  · rw [if_neg z, if_neg z, if_neg z, ← e]
    refine .dct (by rw [List.map_append]; rfl) ?_
    rw [List.map_append]
    exact Reps.append h (Reps.one r)
/-- the slot's own dict, as an object -/
theorem own_dct {K : PySem.W.Frag} {T : CT} {B : Hp} {B0 S : List Addr} {ow : List Nat} {σ : Sg} {ρ : DEnv} {H : Hp} {i : Nat} {ks : List Key} {l : List Dat} (rs : RS K T B B0 ow σ ρ H S) (hi : i ∈ ow) (hd : ρ[i]? = some (some (.dct ks l))) : ∃ p kvs, σ[i]? = some (some (.ref p)) ∧ p ∈ S ∧ H p = some (.dK kvs) ∧ kvs.map (·.1) = ks ∧ Reps K T (hide H S) (kvs.map (·.2)) l := by
  obtain ⟨p, o, h1, h5, h3, h4⟩ := rs.re.own i _ hi hd
  cases h5 with
  | dct e r => exact ⟨p, _, h1, h3, h4, e, r⟩
def sDct0 (i : Nat) : DEnv → DFlow := fun ρ => .nx (ρ.set i (some (.dct [] [])))
def sSetK (i : Nat) (fk f : DEnv → Res Dat) : DEnv → DFlow := fun ρ => rBind (f ρ) ρ fun d => match ρ[i]? with
  | some (some (.dct ks vs)) => rBind (fk ρ) ρ fun k => match keyD k with
    | some k => if vs.length < 1000000 then .nx (ρ.set i (some (.dct (putDk ks vs k d) (putDv ks vs k d)))) else .stuck
    | none => .stuck
  | _ => .stuck
section
variable {X : Cx} {T : CT} {W : WX} {ow ow' ob : List Nat} {e : Expr} {pos : Pos} {f : DEnv → Res Dat}
theorem ds_dct0 {i : Nat} {x : Str} {pos' p2 : Pos} (hN : X.N.Nodup) (hs : ∀ j ∈ ow', j ∈ ow) (ho : i ∉ ow') (hi : X.N[i]? = some x := by rfl) (hx : Loc X.env.scope x := by first | exact .inl rfl | exact .inr rfl)
    (hsw : swapsWith (.Dict [] [] p2) (some (.Name x pos')) pos.line X.env = pure false := by rfl) (hf : X.fn x = true ∨ X.env.scope.names.lookup x = some .local := by first | exact .inl rfl | exact .inr rfl) : DS X T W ow (i :: ow') ob (.Assign [.Name x pos'] (.Dict [] [] p2) pos) (sDct0 i) :=
  ps_imp (ps_set hN hi hx pe_dnewK hsw hf) fun D σ H q => by
    obtain ⟨B, B0, ρ, S, rs, w⟩ := q
    intro p np
    have e1 : Ex H (upd H p (.dK [])) := Ex.new np
    obtain ⟨rs2, sub⟩ := rs.less hs
    exact Wants.go w (rs2.ownR (o := .dK []) (d0 := .dct [] []) rfl ho e1 np upd_same (.dct rfl .nil)) ((hide_sub sub).trans (hide_new e1 np))
theorem ds_setK {i : Nat} {x : Str} {ei : Expr} {fi : DEnv → Res Dat} {xp sp : Pos} (hu : X.A.units + 65 < cLine) (he : DE X T W ow e f) (hei : DE X T W ow ei fi) (hiw : i ∈ ow := by decide) (hN : X.N[i]? = some x := by rfl) (hv : Vis X.env.scope x := by first | exact Or.inl rfl | exact Or.inr (Or.inl rfl) | exact Or.inr (Or.inr rfl)) (hd : (x == ("__debug__" : Str)) = false := by decide)
    (hcd : (x == ("__classdict__" : Str)) = false := by decide) (hsw : swapsWithSole [.Subscript (.Name x xp) ei sp] e pos.line X.env = pure false := by rfl) (hw : swappedStores [.Subscript (.Name x xp) ei sp] e X.env = pure none := by rfl) (hae : (assignEach [.Subscript (.Name x xp) ei sp] X.env).map (·.2) = [assign (.Subscript (.Name x xp) ei sp) X.env] := by rfl)
    (hks : ∀ v, assign (.Subscript (.Name x xp) ei sp) X.env v = (do
      let ov ← holding [v] (eval (.Name x xp) X.env)
      let iv ← holding [v, ov] (eval ei X.env)
      standAt sp
      holding [v, ov, iv] (setItem ov iv v)
      release [v, ov, iv] []) := by intro _; rfl) :
    DS X T W ow ow ob (.Assign [.Subscript (.Name x xp) ei sp] e pos) (sSetK i fi f) :=
  ps_imp (ps_asg he (pg_sub (pe_var hN hv hd hcd) hei (set_dict (by omega)) hks) hsw hw hae) fun D σ H q => by
    obtain ⟨B, B0, ρ, S, rs, w⟩ := q
    unfold sSetK at w
    refine Wants.part rs w fun v d H1 w1 rs1 e1 r => ?_
    split at w1
    · rename_i ks l hl
      obtain ⟨p, kvs, h1, h2, h3, hk, h4⟩ := own_dct rs1 hiw hl
      refine ⟨_, h1, ?_⟩
      refine Wants.part rs1 w1 fun v2 d2 H2 w2 rs2 e2 r2 => ?_
      split at w2
      · rename_i k hkd
        split at w2
        · rename_i hlen
          have ev := keyD_rep r2 hkd
          have hkl : kvs.length = l.length := by
            have := h4.length
            rw [List.length_map] at this
            exact this
          refine ⟨p, upd H2 p (.dK (L2.putK kvs k v)), rfl, ?_, ?_⟩
          · rw [ev]
            exact DPut.k (e2 _ _ h3) (by rw [hkl]; exact Nat.lt_of_lt_of_le hlen (by decide))
          · refine Wants.go w2 (rs2.chgR (d1 := .dct (putDk ks l k d) (putDv ks l k d)) rfl hiw hl h1 h2 (put_own hk (h4.mono (hide_mono e2)) (r.mono (hide_mono e2)))) ?_
            rw [hide_upd h2]
            exact Ex.refl _
        · exact w2.elim
      · exact w2.elim
    · exact w1.elim
end
/-! k in x -/
def rInDict (neg : Bool) : R2 := fun x y H Q => ∃ a o, y = .ref a ∧ L2.DGet H a x o ∧ Q (.bl (if neg then !o.isSome else o.isSome)) H
theorem op_inDict {X : Cx} (hu : X.A.units + 1 < cLine) : OpR X (compareOp .In) (rInDict false) := by
  intro pins s σ H x y v u Q I rx ry h
  obtain ⟨a, o, rfl, g, q⟩ := h
  obtain rfl : u = Value.ref a := ry
  exact L2.d_in hu I g rx fun s' I' => ⟨.bl o.isSome, H, I', rfl, q⟩
theorem op_notInDict {X : Cx} (hu : X.A.units + 1 < cLine) : OpR X (compareOp .NotIn) (rInDict true) := by
  intro pins s σ H x y v u Q I rx ry h
  obtain ⟨a, o, rfl, g, q⟩ := h
  obtain rfl : u = Value.ref a := ry
  exact L2.d_notIn hu I g rx fun s' I' => ⟨.bl (!o.isSome), H, I', rfl, q⟩
def rInX (K : PySem.W.Frag) (neg : Bool) : R2 := fun x y H Q => rInAll K neg x y H Q ∨ rInDict neg x y H Q
theorem op_inX {X : Cx} (hu : X.A.units + 65 < cLine) : OpR X (compareOp .In) (rInX X.K false) := (op_inAll hu).or (op_inDict (by omega))
theorem op_notInX {X : Cx} (hu : X.A.units + 65 < cLine) : OpR X (compareOp .NotIn) (rInX X.K true) := (op_notInAll hu).or (op_notInDict (by omega))
def inDX (neg : Bool) : Dat → Dat → Option Dat := fun x y => match y with
  | .dct ks _ => (keyD x).map fun k => .bl (if neg then !(ks.any fun j => decide (j = k)) else ks.any fun j => decide (j = k))
  | y => inD neg x y
theorem rd_inX {K : PySem.W.Frag} {T : CT} {neg : Bool} : R2D K T (rInX K neg) (inDX neg) := fun S H x y dx dy d Q m rx ry e q => by
  cases ry with
  | @dct a kvs ks ds h hk r =>
    have e : (keyD dx).map (fun k => Dat.bl (if neg then !(ks.any fun j => decide (j = k)) else ks.any fun j => decide (j = k))) = some d := e
    cases z : keyD dx with
    | none => rw [z] at e; cases e
    | some k =>
      rw [z] at e
      cases e
      refine .inr ⟨a, L2.valV kvs k, rfl, ?_, ?_⟩
      · rw [keyD_rep rx z]
        exact L2.DGet.k (hide_ex _ _ h)
      · have ea : (L2.valV kvs k).isSome = ks.any fun j => decide (j = k) := by rw [← L2.valV_any, ← hk, List.any_map]; rfl
        rw [ea]
        exact q _ H (Ex.refl H) (.bl _)
  | non => exact .inl (rd_in S H x _ dx _ d Q m rx .non e q)
  | bl b => exact .inl (rd_in S H x _ dx _ d Q m rx (.bl b) e q)
  | int i => exact .inl (rd_in S H x _ dx _ d Q m rx (.int i) e q)
  | str z => exact .inl (rd_in S H x _ dx _ d Q m rx (.str z) e q)
  | tup h r => exact .inl (rd_in S H x _ dx _ d Q m rx (.tup h r) e q)
  | lst h r => exact .inl (rd_in S H x _ dx _ d Q m rx (.lst h r) e q)
  | frz h r => exact .inl (rd_in S H x _ dx _ d Q m rx (.frz h r) e q)
  | obj h n r => exact .inl (rd_in S H x _ dx _ d Q m rx (.obj h n r) e q)
  | rng h => exact .inl (rd_in S H x _ dx _ d Q m rx (.rng h) e q)
end Dl
/-! The D layer, part 41: sorted(set(t)) of a tuple of ints. -/
namespace Dl
open PySem PySem.Spec PyProof.Rows L2
section
variable {P : Program} {w : World} {A : Around} {E : Value → Shared → Prop} {s : Shared}
theorem set_of_tup {l : Addr} {items : Array Value} (ns : List Int) {Q : Value → Shared → Prop} (hh : A.handled = none) (hl : s.heap.IsTuple l items) (hit : IntsAre items.toList ns) (hb : ns.length + 1 < scanBound)
    (h : ∀ (h' : Heap) (tk c : Nat), SetR w h' s.heap.objs.size (fun j => decide (j ∈ ns)) c → c ≤ ns.length → (∀ b o, s.heap.get? b = some o → h'.get? b = some o) → Q (.ref s.heap.objs.size) { s with heap := h', toks := tk }) :
    wpAny (model P w) A (call (.type "set") [.ref l]) Q E s := by
  have sz : items.size = ns.length := by
    have q := IntsAre.length hit
    rwa [Array.length_toList] at q
  have at' : ∀ (i : Nat) (v : Value), items[i]? = some v → ∃ k t, ns[i]? = some k ∧ v = .int k t := fun i v hv => by
    have hi : i < ns.length := sz ▸ (Array.getElem?_eq_some_iff.mp hv).1
    obtain ⟨t, e⟩ := IntsAre.int_at hit i v (by rw [Array.getElem?_toList]; exact hv)
    exact ⟨ns[i], t, List.getElem?_eq_getElem hi, by rw [e, List.getD_eq_getElem?_getD, List.getElem?_eq_getElem hi] <;> rfl⟩
  obtain ⟨_, _, hmro⟩ := F.called_set.mro
  have hmade := F.called_set.made
  have hsub := F.called_set.sub
  have h1 := F.called_set.notType
  have h2 := F.called_set.canCreate
  have hct := F.typeCall_set_1 (.ref l)
  refine wpAny_call (codeAny_of_tree (show wpAny _ _ (callAny (.type "set") _) _ _ _ from wpAny_pure ⟨Code.quiet_builtin _ (by decide +kernel), codeAny_builtin F.entry_type_call ?_⟩))
  rw [Around.under_plain (weight_type_call_type "set" [.ref l] []) rfl]
  repeat (any_goals (first | assumption | wp_step))
  refine codeAny_mono (code_set_led1 (.ref l) (E := E) (Q₁ := fun obj s₁ => obj = .ref s.heap.objs.size ∧ s₁ = { s with heap := s.heap.push (set0 w) }) ⟨rfl, rfl⟩) fun r s₁ hr => ?_
  match r, hr with
  | .error e, hr => exact hr
  | .ok (.ret obj), hr =>
    obtain ⟨rfl, rfl⟩ := hr
    have hS : (s.heap.push (set0 w)).get? s.heap.objs.size = some (set0 w) := Heap.get?_push_size _ rfl
    have hT : Shared.TypeIs { s with heap := s.heap.push (set0 w) } (.ref s.heap.objs.size) "set" := ⟨_, hS, rfl⟩
    have hli := F.called_set.init.lookup
    have hbi := F.called_set.init.bind (.ref s.heap.objs.size)
    repeat (any_goals (first | assumption | wp_step))
    refine codeAny_mono (codeAny_call_builtin (R := wants (fun r s₂ => r = .none ∧ ∃ h' tk c, s₂ = { s with heap := h', toks := tk } ∧ SetR w h' s.heap.objs.size (fun j => decide (j ∈ ns)) c ∧ c ≤ ns.length ∧ (∀ b o, s.heap.get? b = some o → h'.get? b = some o)) E) F.called_set.init.plain F.entry_set_init (check_set_init_1 hT ?_)) fun r₂ s₂ hr₂ => ?_
    · obtain ⟨⟨ocls, odict, odata, oslots⟩, hol, hcl, nl, hdl⟩ := hl
      simp only at hcl hdl
      subst hcl hdl
      have hol' : (s.heap.push (set0 w)).get? l = some { cls := .type "tuple", dict := odict, data := .seq items nl, slots := oslots } := Heap.get?_push_of_some _ hol
      have hsls := F.sub_tuple_set
      have hslf := F.sub_tuple_frozenset
      have hne : (Value.type "tuple" == Value.type "dict") = false := by decide
      have hl1 : (s.heap.push (set0 w)).IsTuple l items := ⟨_, hol', rfl, nl, rfl⟩
      unfold Builtin.«set.__init__» noKeywords Builtin.Frozenset.updateFrom
      generalize hPI : pyIter = PI
      wp_walk
      subst hPI
      refine wpAny_pyIter_tuple hl1 (wpAny_bind (wpAny_runValue ?_))
      have lt := Heap.lt_size hol
      have z1 : (s.heap.push (set0 w)).objs.size = s.heap.objs.size + 1 := Heap.size_push ..
      have hh3 : A.in1.in1.in1.handled = none := by simp [hh]
      refine set_update_ints ((Walks.tuple hh3 _ l (by rw [z1]; exact Nat.ne_of_lt (Nat.lt_succ_of_lt lt)) items).toS) s.heap.objs.size
        (by rw [z1]; simp only [List.mem_cons, List.mem_singleton, List.not_mem_nil, or_false, not_or]; exact ⟨Nat.ne_of_lt (Nat.lt_succ_self _), Nat.ne_of_gt lt⟩)
        ns sz hb at' (items.size - 0) 0 _ (by omega) (Nat.zero_le _) ⟨⟨_, Heap.get?_push_size _ rfl, rfl, rfl⟩, (hl1.push _)⟩ ⟨0, Nat.le_refl 0, setR_new_at (Heap.get?_push_of_some _ hS)⟩ ?_
      rintro ⟨h', g2, d', tk', os'⟩ c' hm hc' hS'
      have eg : g2 = s.gens := hm.gens
      have ed : d' = s.drawn := hm.drawn
      have eo : os' = s.os := hm.os
      subst eg ed eo
      show wpAny _ _ _ _ _ _
      refine wpAny_pure ?_
      show wpAny _ _ (ret Value.none) _ _ _
      refine wpAny_pure ⟨rfl, h', tk', c', rfl, hS', by rw [← sz]; exact hc', fun b o e => ?_⟩
      have hb0 : b < s.heap.objs.size := Heap.lt_size e
      exact hm.heap b o (by simp only [z1, List.mem_cons, List.mem_singleton, List.not_mem_nil, or_false, not_or]; exact ⟨Nat.ne_of_lt hb0, Nat.ne_of_lt (Nat.lt_succ_of_lt hb0)⟩) (Heap.get?_push_of_some _ (Heap.get?_push_of_some _ e))
    · match r₂, hr₂ with
      | .error e, hr₂ => exact hr₂
      | .ok (.ret r), hr₂ =>
        obtain ⟨rfl, h', tk, c', rfl, hS', hc', hk'⟩ := hr₂
        repeat (any_goals (first | assumption | wp_step))
        exact h _ _ _ hS' hc' hk'
end
end Dl
/-! The D layer, part 42: sorted(set(x)), x a list or a tuple of ints. -/
namespace Dl
open PySem PySem.Spec PyProof.Rows L2
section
variable {X : Cx}
def rSetX (K : PySem.W.Frag) (w : World) : List V → Hp → VK → Prop := fun xs H Q => ∃ (l : Addr) (ns : List Int), xs = [V.ref l] ∧ (SqL K H l (ns.map V.int) ∨ SqT K H l (ns.map V.int)) ∧ ns.length < 60 ∧ ∀ a c, H a = none → c ≤ ns.length → Q (.ref a) (upd H a (SetO w a (fun j => decide (j ∈ ns)) c))
theorem cr_setX (hc : X.calm = true) : CallR X (.type "set") (rSetX X.K X.w) := by
  intro pins s σ H xs us Q I r h
  obtain ⟨l, ns, rfl, hl, hf, q⟩ := h
  rw [Vals.ref1 r]
  rcases hl with hl | hl
  · obtain ⟨its, rv, pl, hz⟩ := I.list hl
    have hi : IntsAre its ns := ints_of_vals rv
    refine set_of_list (P := X.prog) (w := X.w) ns (I.ok.hd hc) pl.isList (by simpa using hi) (by unfold scanBound; omega) fun h' tk c R hc k => ?_
    exact ⟨.ref s.heap.objs.size, upd H s.heap.objs.size (SetO X.w s.heap.objs.size (fun j => decide (j ∈ ns)) c), I.laid (t' := tk) k (Nat.le_refl _) (setO_new R), rfl, q _ c (I.hok.fresh (Nat.le_refl _)) hc⟩
  · obtain ⟨its, rv, pt, hz⟩ := I.tuple hl
    have hi : IntsAre its ns := ints_of_vals rv
    refine set_of_tup (P := X.prog) (w := X.w) ns (I.ok.hd hc) pt (by simpa using hi) (by unfold scanBound; omega) fun h' tk c R hc k => ?_
    exact ⟨.ref s.heap.objs.size, upd H s.heap.objs.size (SetO X.w s.heap.objs.size (fun j => decide (j ∈ ns)) c), I.laid (t' := tk) k (Nat.le_refl _) (setO_new R), rfl, q _ c (I.hok.fresh (Nat.le_refl _)) hc⟩
def rSSetX (K : PySem.W.Frag) (w : World) : List V → Hp → VK → Prop := fun xs H Q => rSetX K w xs H fun v H1 => rSortedSet w [v] H1 Q
def ssetXF (ds : List Dat) : Option (List Dat) := match ds with
  | [.lst l] => match intsD l with
    | some ns => if ns.length < 60 then some ((ssort ns).map .int) else none
    | none => none
  | [.tup l] => match intsD l with
    | some ns => if ns.length < 60 then some ((ssort ns).map .int) else none
    | none => none
  | _ => none
theorem rc_ssetX {K : PySem.W.Frag} {T : CT} {w : World} : RcF K T (rSSetX K w) ssetXF := fun S H vs ds l Q m rs e q => by
  have fin : ∀ ns : List Int, ns.length < 60 → l = (ssort ns).map .int → ∀ (b c : Nat), H b = none → c ≤ ns.length → rSortedSet w [.ref b] (upd H b (SetO w b (fun j => decide (j ∈ ns)) c)) Q := fun ns hl el b c hb hc => by
    refine ⟨b, _, c, rfl, upd_same .., by omega, fun ms p pw mem len hp => ?_⟩
    have em : ms = ssort ns := asc_eq pw (ssort_asc ns) fun k => by rw [mem, ssort_mem, decide_eq_true_iff]
    subst em
    subst el
    have pb : p ≠ b := fun z => by rw [z, upd_same] at hp; cases hp
    have hp' : H p = none := by rwa [upd_ne pb] at hp
    exact q p _ _ ((Ex.new hb).trans (Ex.new hp)) hp' (upd_same ..) (rep_ints _)
  match ds, e with
  | [.lst dl], e =>
    cases rs with
    | cons r rs =>
      cases rs
      cases r with
      | lst ha hr =>
        rename_i a us
        unfold ssetXF at e
        cases hi : intsD dl with
        | none => simp only [hi] at e; cases e
        | some ns =>
          simp only [hi] at e
          split at e
          · rename_i hl
            cases e
            have hu := reps_ints hr hi
            subst hu
            exact ⟨a, ns, rfl, .inl (.inl (.inl (hide_ex _ _ ha))), hl, fun b c hb hc => fin ns hl rfl b c hb hc⟩
          · cases e
  | [.tup dl], e =>
    cases rs with
    | cons r rs =>
      cases rs
      cases r with
      | tup ha hr =>
        rename_i a us
        unfold ssetXF at e
        cases hi : intsD dl with
        | none => simp only [hi] at e; cases e
        | some ns =>
          simp only [hi] at e
          split at e
          · rename_i hl
            cases e
            have hu := reps_ints hr hi
            subst hu
            exact ⟨a, ns, rfl, .inr (ex_t hide_ex ha.sq), hl, fun b c hb hc => fin ns hl rfl b c hb hc⟩
          · cases e
variable {T : CT} {W : WX} {ow : List Nat} {e : Expr} {es : List Expr} {pos p pos2 p2 : Pos} {fs : DEnv → Res (List Dat)} {fa : DEnv → Res Dat}
theorem df_ssetX (hc : X.calm = true) (hm1 : X.mg "sorted" = none) (hm2 : X.mg "set" = none) (ha : DA X T W ow (e :: es) fs) (hg1 : Gl X "sorted" := by rfl) (hg2 : Gl X "set" := by rfl)
    (he : starEach (e :: es) X.env = (false, eval e X.env) :: starEach es X.env := by rfl) (hpl : (backTo pos (starEach es X.env)).any (·.1) = false := by rfl)
    (he2 : starEach [.Call (.Name "set" p) (e :: es) [] pos] X.env = (false, eval (.Call (.Name "set" p) (e :: es) [] pos) X.env) :: starEach [] X.env := by rfl) :
    DF X T W ow (.Call (.Name "sorted" p2) [.Call (.Name "set" p) (e :: es) [] pos] [] pos2) (fCB ssetXF fs) :=
  pe_imp (pe_callB (cr_sortedSet hc) hg1 hm1 (by decide +kernel) (pa_cons (pe_callTy (cr_setX hc) hg2 hm2 (by decide +kernel) ha (by decide) (by decide) he hpl) pa_nil he2) (by decide) (by decide) he2 rfl) fun σ H Q h => rc_ssetX.read h
end
end Dl
/-! The D layer, part 43: calls without arguments. -/
namespace Dl
open PySem PySem.Spec PyProof.Rows L2
section
variable {X : Cx} {k : Nat} {f : Addr} {fd : FuncData} {ps : List Str} {sp : Sp} {E : L2.St → XK} {x : Str} {p pos : Pos}
theorem pe_callN0 (F : FnOk X.prog X.w X.K X.mg X.base (L2.CX X.prog X.w) k f fd ps sp) (hr : Room k X.A) (hg : Gl X x) (hm : X.mg x = some (.ref f)) (hk : PySem.W.keepIn X.K (.ref f) = true) (hb : Binds X.K fd ps []) (hx : ∀ σ, PassesAt (L2.CX X.prog X.w) X σ (E σ))
    (hdb : (x == ("__debug__" : Str)) = false := by decide) : PE X (.Call (.Name x p) [] [] pos) (fun σ H Q => sp [] H Q (E σ)) := by
  refine ⟨fun pins s σ H Q I h => ?_⟩
  refine wpAny_Call_Name_kw (ld_glob I hg hm ?_ hdb)
  exact PySem.W.callWith_K0 I.kIn hk (run_fnS (us := []) F hr hb (hx σ) I .nil h)
end
section
variable {X : Cx} {T : CT} {W : WX} {ow : List Nat} {pos p : Pos}
theorem de_call0 {k j n : Nat} {x : Str} {F : List Dat → Res Dat} (c : FnD X.prog X.w X.K X.mg X.base T k x n F) (hr : Room j X.A) (hk : k ≤ j) (hp : ∀ σ, PassesAt (L2.CX X.prog X.w) X σ (WE W σ)) (hg : Gl X x := by rfl)
    (hdb : (x == ("__debug__" : Str)) = false := by decide) :
    DE X T W ow (.Call (.Name x p) [] [] pos) (vCall n F aNil) := by
  obtain ⟨f, fd, ps, h1, h2, h3, h4⟩ := c.ex
  refine pe_imp (pe_callN0 h4 (hr.mono hk) hg h1 h2 h3 hp hdb) fun σ H Q h => ?_
  obtain ⟨ρ, S, re, w⟩ := h
  have e : vCall n F aNil ρ = if ([] : List Dat).length = n then F [] else .stuck := rfl
  rw [e] at w
  split at w
  · rename_i hl
    refine ⟨hl, S, [], re.mt, .nil, ?_⟩
    revert w
    cases F [] with
    | ok d => exact fun w1 => w1
    | exc c => exact fun w1 => w1
    | stuck => exact fun w1 => w1
  · exact w.elim
end
end Dl
/-! The D layer, part 44: a range object kept in a variable. -/
namespace Dl
open PySem PySem.Spec PyProof.Rows L2
section
variable {X : Cx} {tg : Expr}
def tRng3 (ta : TA) : TE := fun σ H Q => ta σ H fun vs H1 => ∃ (i j c : Int) (n : Nat), vs = [.int i, .int j, .int c] ∧ RgC i j c n ∧ ∀ a, H1 a = none → Q (.ref a) (upd H1 a (RgO a i c n))
theorem pe_range3 {a b c : Expr} {ta : TA} {p pos : Pos} (hg : Gl X "range") (hm : X.mg "range" = none) (ha : PA X [a, b, c] ta)
    (hs : starEach [a, b, c] X.env = (false, eval a X.env) :: starEach [b, c] X.env := by rfl) (hpl : (backTo pos (starEach [b, c] X.env)).any (·.1) = false := by rfl) :
    PE X (.Call (.Name "range" p) [a, b, c] [] pos) (tRng3 ta) := by
  refine ⟨fun pins s σ H Q I h => ?_⟩
  refine Call_ (ld_blt I hg hm boot_range (PyProof.Rows.callWith_type1 (thn (ha.run pos pins s σ H _ I h) fun us s1 ⟨vs, H1, I1, r1, q1⟩ => ?_) hs hpl))
  obtain ⟨i, j, k, n, e, ⟨c0, c1, c2, c3⟩, q⟩ := q1
  subst e
  cases r1 with
  | cons r rr =>
    cases rr with
    | cons r' rr =>
      cases rr with
      | cons r'' rr =>
        cases rr
        obtain ⟨t, rfl⟩ := r
        obtain ⟨t', rfl⟩ := r'
        obtain ⟨t'', rfl⟩ := r''
        refine call_range_3 c0 ?_ (.inl (PyProof.noPylong_small c1))
        have hn : H1 s1.heap.objs.size = none := I1.hok.fresh (Nat.le_refl _)
        have I2 : Inv X pins σ (upd H1 s1.heap.objs.size (RgO s1.heap.objs.size i k n)) { s1 with heap := s1.heap.push { cls := .type "range", data := .fields #[.int i t, .int j t', .int k t''] }, toks := s1.toks } :=
          I1.laid (t' := s1.toks) (fun b o e => Heap.get?_push_of_some _ e) (Nat.le_refl _) ⟨⟨j, t, t', t'', IsRange.new .., c2, c3⟩, ⟨_, Heap.get?_push_size _ rfl⟩, fun h1 h2 ⟨j, t, u, v, r, a, b⟩ k => ⟨j, t, u, v, k _ r, a, b⟩⟩
        exact ⟨.ref s1.heap.objs.size, _, I2, rfl, q _ hn⟩
def iRngO (tl : TE) : TI := fun σ H R => tl σ H fun x H1 => ∃ a i c n, x = .ref a ∧ H1 a = some (RgO a i c n) ∧ R (Itc i c n) H1
theorem pi_rngO {l : Expr} {tl : TE} (hl : PE X l tl) : PI X tg l (iRngO tl) := by
  refine ⟨fun pins s σ H R I h => ?_⟩
  refine thn (hl.run pins s σ H _ I h) fun v s1 ⟨x, H1, I1, r1, a, i, c, n, e, hq, q⟩ => ?_
  subst e
  cases r1
  obtain ⟨j, t, u, w, hr, c2, c3⟩ := (I1.hok a _ hq).1
  refine wpAny_pyIter_range hr c2 ?_
  refine pi_one (tk := s1.toks) I1 _ (turn_rangeC _ i c n) ?_ q
  have e1 : i + ((0 : Nat) : Int) * c = i := by simp
  have e2 : (n : Int) - ((0 : Nat) : Int) = Builtin.Range.rangeSize i j c := by rw [c3]; simp
  show IsRangeIter _ _ (i + ((0 : Nat) : Int) * c) ((n : Int) - ((0 : Nat) : Int)) c
  rw [e1, e2]
  exact Heap.get?_push_size _ rfl
end
def rngV : List Dat → Res Dat
  | [.int i, .int j, .int c] => if decide (c ≠ 0) && decide (c.natAbs < 1073741824) && Builtin.Range.small i j c then .ok (.rng i c (Builtin.Range.rangeSize i j c).toNat) else .stuck
  | _ => .stuck
def vRngO (fs : DEnv → Res (List Dat)) : DEnv → Res Dat := fun ρ => (fs ρ).bind rngV
def itemsR : Dat → Res (List Dat)
  | .rng i c n => .ok (rngC i c n)
  | _ => .stuck
def gRngO (fa : DEnv → Res Dat) : DEnv → Res (List Dat) := fun ρ => (fa ρ).bind itemsR
section
variable {X : Cx} {T : CT} {W : WX} {ow : List Nat} {a b c e tg : Expr} {pos p : Pos} {fs : DEnv → Res (List Dat)} {fa : DEnv → Res Dat}
theorem de_rngO (hm : X.mg "range" = none) (ha : DA X T W ow [a, b, c] fs) (hg : Gl X "range" := by rfl) (hs : starEach [a, b, c] X.env = (false, eval a X.env) :: starEach [b, c] X.env := by rfl) (hpl : (backTo pos (starEach [b, c] X.env)).any (·.1) = false := by rfl) :
    DE X T W ow (.Call (.Name "range" p) [a, b, c] [] pos) (vRngO fs) := pe_imp (pe_range3 hg hm ha hs hpl) fun σ H Q h => by
  obtain ⟨ρ, S, re, w⟩ := h
  refine Want.partA re w fun vs ds H1 w1 re1 e1 rs => ?_
  cases rs with
  | nil => exact w1.elim
  | cons r rs =>
    cases rs with
    | nil => cases r <;> exact w1.elim
    | cons r2 rs =>
      cases rs with
      | nil => cases r <;> cases r2 <;> exact w1.elim
      | cons r3 rs =>
        cases rs with
        | cons _ _ => cases r <;> cases r2 <;> cases r3 <;> exact w1.elim
        | nil =>
          cases r with
          | int i =>
            cases r2 with
            | int j =>
              cases r3 with
              | int k =>
                have w2 : Want X.K T W σ H1 S (if decide (k ≠ 0) && decide (k.natAbs < 1073741824) && Builtin.Range.small i j k then .ok (.rng i k (Builtin.Range.rangeSize i j k).toNat) else .stuck) Q := w1
                by_cases z : (decide (k ≠ 0) && decide (k.natAbs < 1073741824) && Builtin.Range.small i j k) = true
                · rw [if_pos z] at w2
                  rw [Bool.and_eq_true, Bool.and_eq_true] at z
                  exact ⟨i, j, k, _, rfl, ⟨of_decide_eq_true z.1.1, of_decide_eq_true z.1.2, z.2, rangeSize_toNat _ _ _⟩, fun a ha => w2 _ _ (Ex.new ha) (.rng (hide_get upd_same (re1.mt.not ha)))⟩
                · rw [if_neg z] at w2
                  exact w2.elim
              | _ => exact w1.elim
            | _ => cases r3 <;> exact w1.elim
          | _ => cases r2 <;> cases r3 <;> exact w1.elim
theorem di_rngO (ha : DE X T W ow e fa) : DI X T W ow tg e (gRngO fa) := pi_imp (pi_rngO ha) fun σ H R h => by
  obtain ⟨ρ, S, re, w⟩ := h
  refine WantI.part re w fun v d H1 w1 re1 e1 r => ?_
  cases r with
  | rng h => exact ⟨_, _, _, _, rfl, hide_ex _ _ h, w1 _ H1 (Ex.refl H1) src_rangeC⟩
  | _ => exact w1.elim
end
end Dl
/-! The D layer, part 45: index of data in a list. -/
namespace Dl
open PySem PySem.Spec PyProof.Rows L2
def idxD (l : List Dat) (y : Dat) : Option Dat := if (shp 8 y && shp 8 (.lst l)) = true then (l.findIdx? fun e => eqvD e y).map fun j => .int (j : Nat) else none
def onSqD : Dat → Dat → Option Dat
  | .lst l, y => idxD l y
  | .tup l, y => idxA l y
  | _, _ => none
def vIxD (fo fa : DEnv → Res Dat) : DEnv → Res Dat := fun ρ => (fo ρ).bind fun x => if isSq x = true then (fa ρ).bind fun y => ofO (onSqD x y) else .stuck
theorem get_toPys {l : List Dat} {j : Nat} : (toPys l)[j]? = l[j]?.map toPy := by rw [toPys_map, List.getElem?_map]
section
variable {X : Cx} {T : CT} {W : WX} {ow : List Nat} {o e : Expr} {fo fa : DEnv → Res Dat} {apos pos : Pos}
theorem de_indexD (hu : X.A.units + 65 < cLine) (ho : DE X T W ow o fo) (he : DE X T W ow e fa) (hs : starEach [e] X.env = (false, eval e X.env) :: starEach [] X.env := by rfl) (hbase : attributeBase o "index" X.env (eval o X.env) = eval o X.env := by rfl) (hline : (apos.endLine == pos.line) = true := by rfl)
    (hfew : ((backTo pos (starEach [e] X.env)).all (fun x => !x.1) && (backToKw pos (keywordEach [] X.env)).all (fun x => x.1.isSome) && decide ([e].length + ([] : List Keyword).length + (if ([] : List Keyword).isEmpty then 0 else 1) < 30)) = true := by rfl)
    (hpl : (backTo pos (starEach [] X.env)).any (·.1) = false := by rfl) :
    DE X T W ow (.Call (.Attribute o "index" apos) [e] [] pos) (vIxD fo fa) := pe_imp (pe_m2 ty_lst PySem.F.plainAttrs_list PySem.F.slot_list_index PySem.F.type_list_index (mt_indexD hu) ty_tup PySem.F.plainAttrs_tuple PySem.F.slot_tuple_index PySem.F.type_tuple_index mt_indexT ho (pa_cons he pa_nil hs) hbase hfew hline hs hpl) fun σ H Q h => by
  obtain ⟨ρ, S, re, w⟩ := h
  refine Want.part re w fun x dx H1 w1 re1 e1 rx => ?_
  cases rx with
  | @lst p vs ds hs rs =>
    refine .inl ⟨⟨p, vs, rfl, .inl (.inl (hide_ex _ _ hs))⟩, ?_⟩
    refine Want.part re1 w1 fun y dy H2 w2 re2 e2 ry => ?_
    have w3 : Want X.K T W σ H2 S (ofO (idxD ds dy)) Q := w2
    unfold idxD at w3
    by_cases z : (shp 8 dy && shp 8 (.lst ds)) = true
    · rw [if_pos z] at w3
      rw [Bool.and_eq_true] at z
      have za : ∀ d ∈ ds, shp 8 d = true := fun d hd => shp_up 7 d (List.all_eq_true.mp z.2 d hd)
      have rl : Rep X.K T H2 (.ref p) (.lst ds) := (Rep.mono hide_ex (Rep.mono (hide_mono e2) (.lst hs rs)))
      cases q : (ds.findIdx? fun e => eqvD e dy) with
      | none => rw [q] at w3; exact w3.elim
      | some j =>
        rw [q] at w3
        obtain ⟨hj, h1, h2⟩ := List.findIdx?_eq_some_iff_getElem.mp q
        refine ⟨p, y, toPy dy, toPys ds, j, toPy ds[j], rfl, rfl, rl.dp (d := .lst ds) z.2, (ry.mono hide_ex).dp z.1, shaped_of (d := .lst ds) z.2 (by decide), shaped_of z.1 (by decide), ?_, ?_, fun m z' hm hz' => ?_, w3 _ H2 (Ex.refl H2) (.int _)⟩
        · rw [get_toPys, List.getElem?_eq_getElem hj]; rfl
        · rw [eqv_toPy 8 _ _ (za _ (List.getElem_mem hj)) z.1]
          exact h1
        · rw [get_toPys, List.getElem?_eq_getElem (by omega)] at hz'
          cases hz'
          rw [eqv_toPy 8 _ _ (za _ (List.getElem_mem _)) z.1]
          exact Bool.eq_false_iff.mpr (h2 m hm)
    · rw [if_neg z] at w3
      exact w3.elim
  | @tup p vs ds hs rs =>
    refine .inr ⟨⟨p, vs, rfl, ex_n hide_ex hs⟩, ?_⟩
    refine Want.part re1 w1 fun y dy H2 w2 re2 e2 ry => ?_
    have w3 : Want X.K T W σ H2 S (ofO (idxA ds dy)) Q := w2
    unfold idxA at w3
    by_cases z : (isFlat dy && ds.all isFlat) = true
    · rw [if_pos z] at w3
      rw [Bool.and_eq_true] at z
      have rs2 := rs.mono (hide_mono e2)
      cases q : (ds.findIdx? fun e => eqvD e dy) with
      | none => rw [q] at w3; exact w3.elim
      | some j =>
        rw [q] at w3
        obtain ⟨z', k1, k2, k3⟩ := idx_rep rs2 ry z.1 z.2 q
        exact ⟨p, vs, y, j, z', rfl, rfl, ex_t e2 (ex_t hide_ex hs.sq), by rw [flat_rep ry]; exact z.1, by rw [flats_rep rs2]; exact z.2, k1, k2, k3, w3 _ H2 (Ex.refl H2) (.int _)⟩
    · rw [if_neg z] at w3
      exact w3.elim
  | _ => exact w1.elim
end
end Dl
/-! The D layer, part 46: defs that return a new list; their calls. -/
namespace Dl
open PySem PySem.Spec PyProof.Rows L2
/-- what is wanted behind a statement, if what is returned is a new list -/
def WantsF (K : PySem.W.Frag) (T : CT) (W : WX) (B : Hp) (B0 : List Addr) (ow' ob : List Nat) (H : Hp) (S : List Addr) (D : Ends) : DFlow → Prop
  | .rt (.lst ds) => ∀ p vs H', Ex B H' → B p = none → H' p = some (.lst vs) → Reps K T (hide H' (p :: B0)) vs ds → D.rt (.ref p) H'
  | f => Wants K T W B B0 ow' ob H S D f
def tDSF (K : PySem.W.Frag) (T : CT) (W : WX) (ow ow' ob : List Nat) (F : DEnv → DFlow) : TS := fun D σ H => ∃ B B0 ρ S, RS K T B B0 ow σ ρ H S ∧ WantsF K T W B B0 ow' ob H S D (F ρ)
def DSsF (X : Cx) (T : CT) (W : WX) (ow ow' ob : List Nat) (st : List Stmt) (F : DEnv → DFlow) : Prop := PSs X st (tDSF X.K T W ow ow' ob F)
/-- a statement that does not return -/
def NR (F : DEnv → DFlow) : Prop := ∀ ρ d, F ρ ≠ .rt d
section
variable {K : PySem.W.Frag} {T : CT} {W : WX} {B H H' : Hp} {B0 S S' : List Addr} {ow' ob : List Nat} {D : Ends}
theorem WantsF.mono {f : DFlow} (w : WantsF K T W B B0 ow' ob H S D f) (e : Ex (hide H S) (hide H' S')) : WantsF K T W B B0 ow' ob H' S' D f := by
  cases f with
  | rt d => cases d <;> exact w
  | nx ρ => exact (show Wants K T W B B0 ow' ob H S D (.nx ρ) from w).mono e
  | bk ρ => exact (show Wants K T W B B0 ow' ob H S D (.bk ρ) from w).mono e
  | ct ρ => exact (show Wants K T W B B0 ow' ob H S D (.ct ρ) from w).mono e
  | ex c ρ => exact (show Wants K T W B B0 ow' ob H S D (.ex c ρ) from w).mono e
  | stuck => exact w
end
section
variable {X : Cx} {T : CT} {W : WX} {ow ow' ow'' ob : List Nat} {st : Stmt} {rest : List Stmt} {e : Expr} {pos : Pos} {F G : DEnv → DFlow} {f : DEnv → Res (List Dat)}
theorem dssF_cons (h1 : DS X T W ow ow' ob st F) (hn : NR F) (h2 : DSsF X T W ow' ow'' ob rest G) : DSsF X T W ow ow'' ob (st :: rest) (sSeq F G) := pss_imp (pss_cons h1 h2) fun D σ H q => by
  obtain ⟨B, B0, ρ, S, rs, w⟩ := q
  refine ⟨B, B0, ρ, S, rs, ?_⟩
  unfold sSeq at w
  cases q : F ρ with
  | nx ρ' =>
    rw [q] at w
    exact fun σ' H' S' r e => ⟨B, B0, ρ', S', r, w.mono e⟩
  | rt d => exact absurd q (hn ρ d)
  | bk ρ' => rw [q] at w; exact w
  | ct ρ' => rw [q] at w; exact w
  | ex c ρ' => rw [q] at w; exact w
  | stuck => rw [q] at w; exact w
theorem dssF_ret (he : DF X T W ow e f) : DSsF X T W ow ow' ob [.Return (some e) pos] (sRet (vL f)) := pss_one (ps_imp (ps_ret he) fun D σ H q => by
  obtain ⟨B, B0, ρ, S, rs, w⟩ := q
  refine ⟨ρ, S, rs.re, ?_⟩
  unfold sRet rBind vL at w
  cases q : f ρ with
  | ok l =>
    rw [q] at w
    intro p vs H' e n hp r
    refine w p vs H' (rs.ex.trans e) (rs.ex.fresh n) hp (r.mono (hide_sub fun q hq => ?_))
    rcases List.mem_cons.mp hq with z | z
    · rw [z]; exact List.mem_cons_self
    · exact List.mem_cons_of_mem _ (rs.sub q z)
  | exc c =>
    rw [q] at w
    intro H' e
    have r2 := (rs.mono e).bare
    exact w σ H' r2.1 ((hide_mono e).trans r2.2)
  | stuck =>
    rw [q] at w
    exact w.elim)
end
/-! statements that do not return -/
theorem nr_drop {f : DEnv → Res Dat} : NR (sDrop f) := fun ρ d h => by
  unfold sDrop rBind at h
  cases q : f ρ <;> rw [q] at h <;> cases h
theorem nr_asg {i : Nat} {f : DEnv → Res Dat} : NR (sAsg i f) := fun ρ d h => by
  unfold sAsg rBind at h
  cases q : f ρ <;> rw [q] at h <;> cases h
theorem nr_asgO {i : Nat} {f : DEnv → Res (List Dat)} : NR (sAsgO i f) := fun ρ d h => by
  unfold sAsgO rBind at h
  cases q : f ρ <;> rw [q] at h <;> cases h
theorem nr_seq {F G : DEnv → DFlow} (hF : NR F) (hG : NR G) : NR (sSeq F G) := fun ρ d h => by
  unfold sSeq at h
  cases q : F ρ with
  | nx ρ' => rw [q] at h; exact hG _ _ h
  | rt d => exact hF _ _ q
  | bk ρ' => rw [q] at h; cases h
  | ct ρ' => rw [q] at h; cases h
  | ex c ρ' => rw [q] at h; cases h
  | stuck => rw [q] at h; cases h
theorem nr_ext {i : Nat} {f : DEnv → Res Dat} : NR (sExt i f) := fun ρ d h => by
  unfold sExt at h
  split at h
  · unfold rBind at h
    cases q : f ρ with
    | ok x =>
      rw [q] at h
      cases x with
      | lst l => unfold extK at h; dsimp only at h; split at h <;> cases h
      | _ => cases h
    | exc c => rw [q] at h; cases h
    | stuck => rw [q] at h; cases h
  · cases h
theorem nr_nop : NR sNop := fun ρ d h => by cases h
theorem nr_if {t : DEnv → Res Bool} {F G : DEnv → DFlow} (hF : NR F) (hG : NR G) : NR (sIf t F G) := fun ρ d h => by
  unfold sIf rBind at h
  cases q : t ρ with
  | ok b =>
    rw [q] at h
    cases b
    · exact hG _ _ h
    · exact hF _ _ h
  | exc c => rw [q] at h; cases h
  | stuck => rw [q] at h; cases h
theorem nr_forL {asg : Dat → DEnv → Option DEnv} {F : DEnv → DFlow} (hF : NR F) : ∀ (l : List Dat) (ρ : DEnv) (d : Dat), forL asg F l ρ ≠ .rt d
  | [], ρ, d, h => by cases h
  | x :: l, ρ, d, h => by
    unfold forL at h
    cases q : asg x ρ with
    | none => rw [q] at h; cases h
    | some ρ1 =>
      simp only [q] at h
      cases q2 : F ρ1 with
      | nx ρ2 => rw [q2] at h; exact nr_forL hF l _ _ h
      | ct ρ2 => rw [q2] at h; exact nr_forL hF l _ _ h
      | bk ρ2 => rw [q2] at h; cases h
      | rt d => exact hF _ _ q2
      | ex c ρ2 => rw [q2] at h; cases h
      | stuck => rw [q2] at h; cases h
theorem nr_for {g : DEnv → Res (List Dat)} {asg : Dat → DEnv → Option DEnv} {F : DEnv → DFlow} (hF : NR F) : NR (sFor g asg F) := fun ρ d h => by
  unfold sFor rBind at h
  cases q : g ρ with
  | ok l => rw [q] at h; exact nr_forL hF l ρ d h
  | exc c => rw [q] at h; cases h
  | stuck => rw [q] at h; cases h
/-! ### defs -/
def WantL (K : PySem.W.Frag) (T : CT) (W : WX) (σ : Sg) (H : Hp) (S : List Addr) : Res Dat → VK → Prop
  | .ok (.lst l), Q => ∀ p vs H', Ex H H' → H p = none → H' p = some (.lst vs) → Reps K T (hide H' (p :: S)) vs l → Q (.ref p) H'
  | r, Q => Want K T W σ H S r Q
def spDF (K : PySem.W.Frag) (T : CT) (n : Nat) (F : List Dat → Res Dat) : Sp := fun vs H Q E => vs.length = n ∧ ∃ S ds, Hid H S ∧ Reps K T (hide H S) vs ds ∧ WantL K T (fun cls d _ H => E cls d H) [] H S (F ds) Q
structure FnDF (P : Program) (w : World) (K : PySem.W.Frag) (mg : Str → Option Value) (base : Heap) (T : CT) (k : Nat) (x : Str) (n : Nat) (F : List Dat → Res Dat) : Prop where
  ex : ∃ f fd ps, mg x = some (.ref f) ∧ PySem.W.keepIn K (.ref f) = true ∧ Binds K fd ps [] ∧ FnOk P w K mg base (L2.CX P w) k f fd ps (spDF K T n F)
theorem spDF_of {K : PySem.W.Frag} {T : CT} {n : Nat} {F : List Dat → Res Dat} {vs : List V} {H : Hp} {Q : VK} {E : XK} (h : spD K T n F vs H Q E) : spDF K T n F vs H Q E := by
  obtain ⟨hl, S, ds, m, r, w⟩ := h
  refine ⟨hl, S, ds, m, r, ?_⟩
  cases q : F ds with
  | ok d =>
    rw [q] at w
    cases d with
    | lst l =>
      intro p vs' H' e n hp rr
      refine w (.ref p) H' e (.lst (hide_get hp (m.not n)) (rr.mono (hide_sub fun q hq => List.mem_cons_of_mem _ hq)))
    | _ => exact w
  | exc c => rw [q] at w; exact w
  | stuck => rw [q] at w; exact w
section
variable {P : Program} {w : World} {K : PySem.W.Frag} {mg : Str → Option Value} {base : Heap} {T : CT}
theorem fnDF_weak {k n : Nat} {f : Addr} {fd : FuncData} {ps : List Str} {F : List Dat → Res Dat} (h : FnOk P w K mg base (L2.CX P w) k f fd ps (spDF K T n F)) : FnOk P w K mg base (L2.CX P w) k f fd ps (spD K T n F) := h.imp fun vs H Q E q => spDF_of q
theorem FnDF.mk' {k n : Nat} {x qual : Str} {st : Stmt} {f : Addr} {fd : FuncData} {ps : List Str} {F : List Dat → Res Dat} (hm : mg x = some (.ref f)) (Fu : Fun K x qual st f fd) (b : Binds K fd ps []) (h : FnOk P w K mg base (L2.CX P w) k f fd ps (spDF K T n F)) :
    FnDF P w K mg base T k x n F := ⟨f, fd, ps, hm, Fu.kp, b, h⟩
theorem fn_DF {x qual : Str} {st : Stmt} {f : Addr} {fd : FuncData} {N ps : List Str} {k n : Nat} {F : DEnv → DFlow} {ow' : List Nat} (Fu : Fun K x qual st f fd) (Sc : FnScope N ps (defScope st)) (hn : ps.length = n)
    (hb : ∀ (cdv : Value) (A : Around) (outer : List Env) (s : Shared) (H : Hp) (E : XK), Room k (A.deeper (envOfC qual (defScope st) s.heap.objs.size f cdv)) →
      DSsF (cxOf (L2.CX P w) P w K mg base N qual (defScope st) f cdv A outer s H E) T (fun cls d _ H => E cls d H) [] ow' [] (defBody st) F) :
    FnOk P w K mg base (L2.CX P w) (k + 1) f fd ps (spDF K T n (runD N.length F)) := by
  refine Fu.okX Sc (fun vs H Q E h => h.1.trans hn.symm) (fun cdv A outer s H vs Q E hr h => ?_)
  obtain ⟨hlen, S, ds, m, r, w⟩ := h
  refine ⟨_, hb cdv A outer s H E hr, ?_⟩
  refine ⟨H, S, startD N.length ds, S, ⟨re_start m r, Ex.refl H, fun _ h => h, fun p hp => ?_, fun i d p h => (by cases h), fun p hp => .inl hp⟩, ?_⟩
  · obtain ⟨o, h1, _⟩ := m p hp
    rw [h1]
    intro z
    cases z
  · unfold runD at w
    cases q : F (startD N.length ds) with
    | nx ρ =>
      rw [q] at w
      exact fun σ' H' S' rs e => w .non H' rs.ex .non
    | rt d =>
      rw [q] at w
      cases d with
      | lst l => exact fun p vs H' e n hp r => w p vs H' e n hp r
      | _ => exact fun v H' e r => w v H' e r
    | ex c ρ =>
      rw [q] at w
      exact fun σ' H' rs e => w H' rs.ex
    | bk ρ =>
      rw [q] at w
      exact w.elim
    | ct ρ =>
      rw [q] at w
      exact w.elim
    | stuck =>
      rw [q] at w
      exact w.elim
end
/-! ### calls -/
def asL : Res Dat → Res (List Dat)
  | .ok (.lst l) => .ok l
  | .exc c => .exc c
  | _ => .stuck
def fCall (n : Nat) (F : List Dat → Res Dat) (fs : DEnv → Res (List Dat)) : DEnv → Res (List Dat) := fun ρ => (fs ρ).bind fun ds => if ds.length = n then asL (F ds) else .stuck
section
variable {X : Cx} {T : CT} {W : WX} {ow : List Nat} {e : Expr} {es : List Expr} {pos p : Pos} {fs : DEnv → Res (List Dat)}
theorem df_call {k j n : Nat} {x : Str} {F : List Dat → Res Dat} (c : FnDF X.prog X.w X.K X.mg X.base T k x n F) (hr : Room j X.A) (hk : k ≤ j) (hp : ∀ σ, PassesAt (L2.CX X.prog X.w) X σ (WE W σ)) (ha : DA X T W ow (e :: es) fs) (hg : Gl X x := by rfl)
    (hdb : (x == ("__debug__" : Str)) = false := by decide) (he : starEach (e :: es) X.env = (false, eval e X.env) :: starEach es X.env := by rfl) (hpl : (backTo pos (starEach es X.env)).any (·.1) = false := by rfl) :
    DF X T W ow (.Call (.Name x p) (e :: es) [] pos) (fCall n F fs) := by
  obtain ⟨f, fd, ps, h1, h2, h3, h4⟩ := c.ex
  refine pe_imp (pe_callS h4 (hr.mono hk) hg h1 h2 h3 hp ha hdb he hpl) fun σ H Q h => ?_
  obtain ⟨ρ, S, re, w⟩ := h
  refine ⟨ρ, S, re, ?_⟩
  unfold fCall at w
  cases q : fs ρ with
  | exc c => rw [q] at w; exact w
  | stuck => rw [q] at w; exact w.elim
  | ok ds =>
    rw [q] at w
    intro vs H1 e1 rs
    have w1 : WantF X.K T W σ H S (if ds.length = n then asL (F ds) else .stuck) Q := w
    by_cases hl : ds.length = n
    · rw [if_pos hl] at w1
      refine ⟨by rw [rs.length]; exact hl, S, ds, re.mt.mono e1, rs, ?_⟩
      cases q2 : F ds with
      | exc c => rw [q2] at w1; exact fun H' e2 => w1 H' (e1.trans e2)
      | stuck => rw [q2] at w1; exact w1.elim
      | ok d =>
        rw [q2] at w1
        cases d with
        | lst l => exact fun p vs' H' e2 n hp r => w1 p vs' H' (e1.trans e2) (e1.fresh n) hp r
        | _ => exact w1.elim
    · rw [if_neg hl] at w1
      exact w1.elim
end
end Dl
/-! The D layer, part 47: sorted(set(x)), x an ascending list of tuples of ints. -/
namespace Dl
open PySem PySem.Spec PyProof.Rows L2
def rowsD : List Dat → Option (List (List Int))
  | [] => some []
  | .tup t :: r => match intsD t, rowsD r with
    | some k, some ks => some (k :: ks)
    | _, _ => none
  | _ => none
def rowT (k : List Int) : Dat := .tup (k.map .int)
theorem intsD_map {t : List Dat} {k : List Int} (h : intsD t = some k) : t = k.map .int := by
  induction t generalizing k with
  | nil => cases h; rfl
  | cons d r ih =>
    cases d with
    | int b =>
      have h : (intsD r).map (fun l => b :: l) = some k := h
      obtain ⟨l, h1, rfl⟩ := Option.map_eq_some_iff.mp h
      rw [ih h1]
      rfl
    | _ => cases h
theorem rowsD_map : ∀ {l : List Dat} {ks : List (List Int)}, rowsD l = some ks → l = ks.map rowT
  | [], ks, h => by cases h; rfl
  | .tup t :: r, ks, h => by
    unfold rowsD at h
    cases q1 : intsD t with
    | none => simp only [q1] at h; cases h
    | some k =>
      cases q2 : rowsD r with
      | none => simp only [q1, q2] at h; cases h
      | some ks' =>
        simp only [q1, q2] at h
        cases h
        rw [rowsD_map q2, intsD_map q1]
        rfl
  | .non :: _, _, h => by cases h
  | .bl _ :: _, _, h => by cases h
  | .int _ :: _, _, h => by cases h
  | .str _ :: _, _, h => by cases h
  | .lst _ :: _, _, h => by cases h
  | .frz _ :: _, _, h => by cases h
  | .obj _ _ :: _, _, h => by cases h
  | .dct _ _ :: _, _, h => by cases h
  | .rng _ _ _ :: _, _, h => by cases h
def okRow (d : Nat) (k : List Int) : Bool := decide (k.length = d) && k.all fun m => decide (0 ≤ m) && decide (m < 64)
def ascB : List Int → Bool
  | [] => true
  | a :: r => r.all (fun b => decide (a < b)) && ascB r
theorem ascB_pw : ∀ {l : List Int}, ascB l = true → l.Pairwise (· < ·)
  | [], _ => List.Pairwise.nil
  | a :: r, h => by
    unfold ascB at h
    rw [Bool.and_eq_true, List.all_eq_true] at h
    exact List.Pairwise.cons (fun b hb => of_decide_eq_true (h.1 b hb)) (ascB_pw h.2)
def okRows (ks : List (List Int)) : Bool := decide (ks.length < 64) && decide (1 ≤ (ks.headD [0]).length) && ks.all (okRow (ks.headD [0]).length) && ascB (ks.map (TS.code 64))
def ssetTF (ds : List Dat) : Option (List Dat) := match ds with
  | [.lst l] => match rowsD l with
    | some ks => if okRows ks = true then some l else none
    | none => none
  | _ => none
theorem code_inj : ∀ {a b : List Int}, a.length = b.length → TS.Bd 64 a → TS.Bd 64 b → TS.code 64 a = TS.code 64 b → a = b
  | [], [], _, _, _, _ => rfl
  | [], _ :: _, h, _, _, _ => by cases h
  | _ :: _, [], h, _, _, _ => by cases h
  | d :: r, e :: q, hl, ha, hb, h => by
    have hl' : r.length = q.length := Nat.succ.inj hl
    have lt1 := fun z : d < e => TS.code_lt hl' ha.tail hb.tail z
    have lt2 := fun z : e < d => TS.code_lt hl'.symm hb.tail ha.tail z
    have de : d = e := by
      by_cases z : d < e
      · have := lt1 z; omega
      · by_cases z2 : e < d
        · have := lt2 z2; omega
        · omega
    subst de
    have s1 := TS.code_same (B := 64) (d := d) hl'
    have s2 := TS.code_same (B := 64) (d := d) hl'.symm
    have : TS.code 64 r = TS.code 64 q := by
      by_cases z : TS.code 64 r < TS.code 64 q
      · have := s1.mpr z; omega
      · by_cases z2 : TS.code 64 q < TS.code 64 r
        · have := s2.mpr z2; omega
        · omega
    rw [code_inj hl' ha.tail hb.tail this]
theorem map_inj_on {α β : Type} {f : α → β} : ∀ {l m : List α}, l.map f = m.map f → (∀ x ∈ l, ∀ y ∈ m, f x = f y → x = y) → l = m
  | [], [], _, _ => rfl
  | [], _ :: _, h, _ => by cases h
  | _ :: _, [], h, _ => by cases h
  | a :: l, b :: m, h, hi => by
    rw [List.map_cons, List.map_cons] at h
    have h1 := List.cons.inj h
    rw [hi a List.mem_cons_self b List.mem_cons_self h1.1, map_inj_on h1.2 fun x hx y hy => hi x (List.mem_cons_of_mem _ hx) y (List.mem_cons_of_mem _ hy)]
section
variable {K : PySem.W.Frag} {T : CT} {H : Hp}
theorem rows_pairs : ∀ {ks : List (List Int)} {us : List V}, Reps K T H us (ks.map rowT) → ∃ kp : List (Addr × List Int), us = kp.map (fun p => V.ref p.1) ∧ kp.map (·.2) = ks ∧ ∀ p ∈ kp, Rep K T H (.ref p.1) (rowT p.2) ∧ SqT K H p.1 (p.2.map V.int)
  | [], us, h => by
    cases h
    exact ⟨[], rfl, rfl, fun p hp => by cases hp⟩
  | k :: ks, us, h => by
    cases h with
    | cons r rs =>
      obtain ⟨kp, h1, h2, h3⟩ := rows_pairs rs
      cases r with
      | @tup a vs ds ht hr =>
        have e : vs = k.map V.int := reps_ints hr (by
          have : ∀ k : List Int, intsD (k.map Dat.int) = some k := fun k => by
            induction k with
            | nil => rfl
            | cons b r ih => show (intsD (r.map Dat.int)).map _ = _; rw [ih]; rfl
          exact this k)
        subst e
        refine ⟨(a, k) :: kp, by rw [h1]; rfl, by rw [← h2]; rfl, fun p hp => ?_⟩
        rcases List.mem_cons.mp hp with rfl | hp
        · exact ⟨.tup ht hr, ht.sq⟩
        · exact h3 p hp
theorem reps_pairs {L : List (Addr × List Int)} (h : ∀ p ∈ L, Rep K T H (.ref p.1) (rowT p.2)) : Reps K T H (L.map fun p => V.ref p.1) ((L.map (·.2)).map rowT) := by
  induction L with
  | nil => exact .nil
  | cons p L ih => exact .cons (h p List.mem_cons_self) (ih fun q hq => h q (List.mem_cons_of_mem _ hq))
end
def rSSetT (K : PySem.W.Frag) (P : Program) (w : World) : List V → Hp → VK → Prop := fun xs H Q => rSetOfT K P w xs H fun v H1 => rSortedT K P w [v] H1 Q
theorem rc_ssetT {K : PySem.W.Frag} {T : CT} {P : Program} {w : World} : RcF K T (rSSetT K P w) ssetTF := fun S H vs ds l Q m rs e q => by
  match ds, e with
  | [.lst dl], e =>
    cases rs with
    | cons r rs =>
      cases rs
      cases r with
      | lst ha hr =>
        rename_i a us
        unfold ssetTF at e
        cases hi : rowsD dl with
        | none => simp only [hi] at e; cases e
        | some ks =>
          simp only [hi] at e
          split at e
          · rename_i ok
            cases e
            have el := rowsD_map hi
            subst el
            unfold okRows at ok
            rw [Bool.and_eq_true, Bool.and_eq_true, Bool.and_eq_true, decide_eq_true_iff, decide_eq_true_iff, List.all_eq_true] at ok
            obtain ⟨⟨⟨o1, o2⟩, o3⟩, o4⟩ := ok
            generalize (ks.headD [0]).length = d at *
            have row : ∀ k ∈ ks, k.length = d ∧ TS.Bd 64 k := fun k hk => by
              have := o3 k hk
              unfold okRow at this
              rw [Bool.and_eq_true, decide_eq_true_iff, List.all_eq_true] at this
              refine ⟨this.1, fun m hm => ?_⟩
              have := this.2 m hm
              rw [Bool.and_eq_true, decide_eq_true_iff, decide_eq_true_iff] at this
              exact this
            have pw := ascB_pw o4
            obtain ⟨kp, rfl, rfl, hp⟩ := rows_pairs hr
            refine ⟨a, kp, rfl, .inl (.inl (hide_ex _ _ ha)), fun p h => ex_t hide_ex (hp p h).2, by rw [List.length_map] at o1; exact o1, fun b L hb hs hall => ?_⟩
            have rowL : ∀ p ∈ L, p.2.length = d ∧ TS.Bd 64 p.2 := fun p h => row p.2 (List.mem_map.mpr ⟨p, hs p h, rfl⟩)
            refine ⟨b, L, d, 64, rfl, upd_same, fun p h => ex_t (Ex.new hb) (ex_t hide_ex (hp p (hs p h)).2), o2, rowL, fun L' p pm nd hlt pw' hpn => ?_⟩
            have subL : ∀ p ∈ L', p ∈ L := fun p h => pm.mem_iff.mp h
            have eq : L'.map (·.2) = kp.map (·.2) := by
              refine map_inj_on (f := TS.code 64) (asc_eq ?_ pw fun c => ?_) fun x hx y hy h => ?_
              · rw [List.map_map, List.pairwise_map]
                have nd' := List.pairwise_map.mp (List.nodup_iff_pairwise_ne.mp nd)
                refine (pw'.and nd').imp_of_mem fun {x y} hx hy h => ?_
                have r1 := rowL x (subL x hx)
                have r2 := rowL y (subL y hy)
                show TS.code 64 x.2 < TS.code 64 y.2
                have ne : TS.code 64 x.2 ≠ TS.code 64 y.2 := fun z => h.2 (code_inj (by rw [r1.1, r2.1]) r1.2 r2.2 z)
                have := h.1
                omega
              · rw [List.mem_map, List.mem_map]
                constructor
                · rintro ⟨k, hk, rfl⟩
                  obtain ⟨x, hx, rfl⟩ := List.mem_map.mp hk
                  exact ⟨x.2, List.mem_map.mpr ⟨x, hs x (subL x hx), rfl⟩, rfl⟩
                · rintro ⟨k, hk, rfl⟩
                  obtain ⟨x, hx, rfl⟩ := List.mem_map.mp hk
                  obtain ⟨y, hy, e⟩ := List.mem_map.mp (hall x hx)
                  exact ⟨x.2, List.mem_map.mpr ⟨y, pm.mem_iff.mpr hy, e⟩, rfl⟩
              · obtain ⟨x', hx', rfl⟩ := List.mem_map.mp hx
                obtain ⟨y', hy', rfl⟩ := List.mem_map.mp hy
                have r1 := rowL x' (subL x' hx')
                have r2 := row y'.2 hy
                exact code_inj (by rw [r1.1, r2.1]) r1.2 r2.2 h
            have pb : p ≠ b := fun z => by rw [z, upd_same] at hpn; cases hpn
            have hp' : H p = none := by rwa [upd_ne pb] at hpn
            have ex : Ex H (upd (upd H b (SetTO P w b L)) p (.lst (L'.map fun q => V.ref q.1))) := (Ex.new hb).trans (Ex.new hpn)
            refine q p _ _ ex hp' upd_same ?_
            have rp : Reps K T (hide H S) (L'.map fun q => V.ref q.1) ((L'.map (·.2)).map rowT) := reps_pairs fun x hx => (hp x (hs x (subL x hx))).1
            rw [eq] at rp
            exact rp.mono (hide_new ex hp')
          · cases e
section
variable {X : Cx} {T : CT} {W : WX} {ow : List Nat} {e : Expr} {es : List Expr} {pos p pos2 p2 : Pos} {fs : DEnv → Res (List Dat)}
theorem df_ssetT (hc : X.calm = true) (hu : X.A.units + 64 < cLine) (hm1 : X.mg "sorted" = none) (hm2 : X.mg "set" = none) (ha : DA X T W ow (e :: es) fs) (hg1 : Gl X "sorted" := by rfl) (hg2 : Gl X "set" := by rfl)
    (he : starEach (e :: es) X.env = (false, eval e X.env) :: starEach es X.env := by rfl) (hpl : (backTo pos (starEach es X.env)).any (·.1) = false := by rfl)
    (he2 : starEach [.Call (.Name "set" p) (e :: es) [] pos] X.env = (false, eval (.Call (.Name "set" p) (e :: es) [] pos) X.env) :: starEach [] X.env := by rfl) :
    DF X T W ow (.Call (.Name "sorted" p2) [.Call (.Name "set" p) (e :: es) [] pos] [] pos2) (fCB ssetTF fs) :=
  pe_imp (pe_callB (cr_sortedT hc) hg1 hm1 (by decide +kernel) (pa_cons (pe_callTy (cr_setOfT hc hu) hg2 hm2 (by decide +kernel) ha (by decide) (by decide) he hpl) pa_nil he2) (by decide) (by decide) he2 rfl) fun σ H Q h => rc_ssetT.read h
end
end Dl
/-! The D layer, part 48: len(set(x)) of a list of ints. -/
namespace Dl
open PySem PySem.Spec PyProof.Rows L2
theorem ssort_nd (l : List Int) : (ssort l).Nodup := by
  rw [List.nodup_iff_pairwise_ne]
  exact (ssort_asc l).imp fun h => Int.ne_of_lt h
section
variable {X : Cx}
def rLenSetI (w : World) : List V → Hp → VK → Prop := fun xs H Q => ∃ (a : Addr) (ns : List Int) (c : Nat), xs = [V.ref a] ∧ H a = some (SetO w a (fun j => decide (j ∈ ns)) c) ∧ Q (.int ((ssort ns).length : Nat)) H
theorem cr_lenSetI : CallR X (.builtin "len") (rLenSetI X.w) := by
  intro pins s σ H xs us Q I r h
  obtain ⟨a, ns, c, rfl, ha, q⟩ := h
  obtain ⟨o, es, ep, t, ho, hex, hd, hg, nd, mem, hb, hf, hn, _, _⟩ := setO_get I ha
  rw [Vals.ref1 r]
  have el : es.size = (ssort ns).length := by
    have p : (es.toList.map keyOf).Perm (ssort ns) := (List.perm_ext_iff_of_nodup nd (ssort_nd ns)).mpr fun k => by
      rw [← mem, ssort_mem, decide_eq_true_iff]
    have := p.length_eq
    rw [List.length_map, Array.length_toList] at this
    exact this
  have hz : (es.size : Int) < 2 ^ 63 := by
    unfold scanBound at hb
    omega
  exact call_len_set ho hex hd hf hz ⟨.int ((ssort ns).length : Nat), H, I.tok _, ⟨_, by rw [el]⟩, q⟩
def rLSet (K : PySem.W.Frag) (w : World) : List V → Hp → VK → Prop := fun xs H Q => rSetX K w xs H fun v H1 => rLenSetI w [v] H1 Q
def lsetD (ds : List Dat) : Option Dat := match ds with
  | [.lst l] => match intsD l with
    | some ns => if ns.length < 60 then some (.int ((ssort ns).length : Nat)) else none
    | none => none
  | _ => none
theorem rc_lset {K : PySem.W.Frag} {T : CT} {w : World} : RcD K T (rLSet K w) lsetD := fun S H vs ds d Q m rs e q => by
  match ds, e with
  | [.lst dl], e =>
    cases rs with
    | cons r rs =>
      cases rs
      cases r with
      | lst ha hr =>
        rename_i a us
        unfold lsetD at e
        cases hi : intsD dl with
        | none => simp only [hi] at e; cases e
        | some ns =>
          simp only [hi] at e
          split at e
          · rename_i hl
            cases e
            have hu := reps_ints hr hi
            subst hu
            exact ⟨a, ns, rfl, .inl (.inl (.inl (hide_ex _ _ ha))), hl, fun b c hb hc => ⟨b, ns, c, rfl, upd_same .., q _ _ (Ex.new hb) (.int _)⟩⟩
          · cases e
variable {T : CT} {W : WX} {ow : List Nat} {e : Expr} {es : List Expr} {pos p pos2 p2 : Pos} {fs : DEnv → Res (List Dat)}
theorem de_lset (hc : X.calm = true) (hm1 : X.mg "len" = none) (hm2 : X.mg "set" = none) (ha : DA X T W ow (e :: es) fs) (hg1 : Gl X "len" := by rfl) (hg2 : Gl X "set" := by rfl)
    (he : starEach (e :: es) X.env = (false, eval e X.env) :: starEach es X.env := by rfl) (hpl : (backTo pos (starEach es X.env)).any (·.1) = false := by rfl)
    (he2 : starEach [.Call (.Name "set" p) (e :: es) [] pos] X.env = (false, eval (.Call (.Name "set" p) (e :: es) [] pos) X.env) :: starEach [] X.env := by rfl) :
    DE X T W ow (.Call (.Name "len" p2) [.Call (.Name "set" p) (e :: es) [] pos] [] pos2) (vCB lsetD fs) :=
  pe_imp (pe_callB cr_lenSetI hg1 hm1 (by decide +kernel) (pa_cons (pe_callTy (cr_setX hc) hg2 hm2 (by decide +kernel) ha (by decide) (by decide) he hpl) pa_nil he2) (by decide) (by decide) he2 rfl) fun σ H Q h => rc_lset.read h
end
end Dl
/-! The D layer, part 49: {"a": 1}, a value. -/
namespace Dl
open PySem PySem.Spec PyProof.Rows L2
section
variable {X : Cx} {T : CT} {W : WX} {ow : List Nat} {pos : Pos} {ke ve : Expr} {k : Str} {n : Int}
theorem de_dct1 (hp : PPs X pos [some ke] [ve] [(tC (.str k), tC (.int n))]) : DE X T W ow (.Dict [some ke] [ve] pos) (vC (.dct [Sum.inr k] [.int n])) :=
  pe_imp (pe_disp hp rfl rfl (by simp) (by show 1 ≤ 15; decide)) fun σ H Q h => by
    obtain ⟨ρ, S, re, w⟩ := h
    intro p hn
    have ex : Ex H (upd (upd H p (.dK [])) p (.dK [(Sum.inr k, V.int n)])) := fun b o e => by
      have nb : b ≠ p := fun q => by rw [q, hn] at e; cases e
      rw [upd_ne nb, upd_ne nb]
      exact e
    have nS : p ∉ S := re.mt.not hn
    have m : mergeK [] [((Sum.inr k : Key), V.int n)] = [(Sum.inr k, V.int n)] := rfl
    refine ⟨upd_same .., [(Sum.inr k, V.int n)], rfl, by show 1 ≤ 15; decide, ?_⟩
    rw [m]
    exact w _ _ ex (.dct (kvs := [(Sum.inr k, V.int n)]) (hide_get (upd_same ..) nS) rfl (.cons (.int n) .nil))
end
end Dl
/-! The D layer, part 50: l[i], l[j], l[m], l[n] = a, b, c, d for a list that is the name's own. -/
namespace Dl
open PySem PySem.Spec PyProof.Rows L2
def sPutG (i : Nat) (fi : DEnv → Res Dat) (d : Dat) (g : DEnv → DFlow) : DEnv → DFlow := fun ρ => match ρ[i]? with
  | some (some (.lst l)) => rBind (fi ρ) ρ (putK i l ρ d g)
  | _ => .stuck
def sSetI4 (i : Nat) (f0 f1 f2 f3 g0 g1 g2 g3 : DEnv → Res Dat) : DEnv → DFlow := fun ρ => rBind (g0 ρ) ρ fun d0 => rBind (g1 ρ) ρ fun d1 => rBind (g2 ρ) ρ fun d2 => rBind (g3 ρ) ρ fun d3 => sPutG i f0 d0 (sPutG i f1 d1 (sPutG i f2 d2 (sPutG i f3 d3 .nx))) ρ
theorem put_step {K : PySem.W.Frag} {T : CT} {W : WX} {B : Hp} {B0 S : List Addr} {ow ob : List Nat} {D : Ends} {σ : Sg} {ρ : DEnv} {H : Hp} {i : Nat} {fi : DEnv → Res Dat} {v : V} {d : Dat} {g : DEnv → DFlow} {Q : Sg → Hp → Prop} (hiw : i ∈ ow) (rs : RS K T B B0 ow σ ρ H S) (w : Wants K T W B B0 ow ob H S D (sPutG i fi d g ρ)) (r : Rep K T (hide H S) v d)
    (k : ∀ ρ' H', RS K T B B0 ow σ ρ' H' S → Wants K T W B B0 ow ob H' S D (g ρ') → (∀ x e, Rep K T (hide H S) x e → Rep K T (hide H' S) x e) → Q σ H') : gSub (tVar i) (tD K T W ow fi) rSetL v σ H Q := by
  unfold sPutG at w
  split at w
  · rename_i l hl
    obtain ⟨p, vs, k1, k2, k3, k4⟩ := own_at rs hiw hl
    refine ⟨_, k1, ?_⟩
    refine Wants.part rs w fun vi di H4 w4 rs4 e4 r4 => ?_
    cases r4 with
    | int n =>
      have w5 : Wants K T W B B0 ow ob H4 S D (match ixN l.length n with
        | some j => g (ρ.set i (some (.lst (l.set j d))))
        | none => .stuck) := w4
      cases q : ixN l.length n with
      | none =>
        rw [q] at w5
        exact w5.elim
      | some j =>
        rw [q] at w5
        have w5 : Wants K T W B B0 ow ob H4 S D (g (ρ.set i (some (.lst (l.set j d))))) := w5
        refine ⟨p, vs, n, j, rfl, rfl, e4 _ _ k3, by rw [k4.length]; exact q, ?_⟩
        have rs5 := rs4.chg hiw hl k1 k2 (.set (r.mono (hide_mono e4)) j (k4.mono (hide_mono e4)))
        refine k _ _ rs5 (Wants.mono (H' := upd H4 p (.lst (vs.set j v))) (S' := S) w5 (by rw [hide_upd k2]; exact Ex.refl _)) fun x e h => ?_
        rw [hide_upd k2]
        exact h.mono (hide_mono e4)
    | _ => exact w4.elim
  · exact w.elim
section
variable {X : Cx} {T : CT} {W : WX} {ow ob : List Nat} {a0 a1 a2 a3 e0 e1 e2 e3 : Expr} {f0 f1 f2 f3 g0 g1 g2 g3 : DEnv → Res Dat}
theorem ds_setI4 {i : Nat} {x : Str} {xp0 sp0 xp1 sp1 xp2 sp2 xp3 sp3 pos : Pos} {kt k2 pt pt2} (ha0 : DE X T W ow a0 g0) (ha1 : DE X T W ow a1 g1) (ha2 : DE X T W ow a2 g2) (ha3 : DE X T W ow a3 g3) (he0 : DE X T W ow e0 f0) (he1 : DE X T W ow e1 f1) (he2 : DE X T W ow e2 f2) (he3 : DE X T W ow e3 f3) (hiw : i ∈ ow := by decide) (hc : X.calm = true := by rfl) (hN : X.N[i]? = some x := by rfl) (hv : Vis X.env.scope x := by first | exact Or.inl rfl | exact Or.inr (Or.inl rfl) | exact Or.inr (Or.inr rfl)) (hd : (x == ("__debug__" : Str)) = false := by decide)
    (hcd : (x == ("__classdict__" : Str)) = false := by decide)
    (h0 : starEach [a0, a1, a2, a3] X.env = (false, eval a0 X.env) :: starEach [a1, a2, a3] X.env := by rfl)
    (h1 : starEach [a1, a2, a3] X.env = (false, eval a1 X.env) :: starEach [a2, a3] X.env := by rfl)
    (h2 : starEach [a2, a3] X.env = (false, eval a2 X.env) :: starEach [a3] X.env := by rfl)
    (h3 : starEach [a3] X.env = (false, eval a3 X.env) :: starEach [] X.env := by rfl)
    (hsw : swapsWithSole [.Tuple [.Subscript (.Name x xp0) e0 sp0, .Subscript (.Name x xp1) e1 sp1, .Subscript (.Name x xp2) e2 sp2, .Subscript (.Name x xp3) e3 sp3] kt pt] (.Tuple [a0, a1, a2, a3] k2 pt2) pos.line X.env = pure false := by rfl)
    (hw : swappedStores [.Tuple [.Subscript (.Name x xp0) e0 sp0, .Subscript (.Name x xp1) e1 sp1, .Subscript (.Name x xp2) e2 sp2, .Subscript (.Name x xp3) e3 sp3] kt pt] (.Tuple [a0, a1, a2, a3] k2 pt2) X.env = pure none := by rfl)
    (hae : (assignEach [.Tuple [.Subscript (.Name x xp0) e0 sp0, .Subscript (.Name x xp1) e1 sp1, .Subscript (.Name x xp2) e2 sp2, .Subscript (.Name x xp3) e3 sp3] kt pt] X.env).map (·.2) = [assign (.Tuple [.Subscript (.Name x xp0) e0 sp0, .Subscript (.Name x xp1) e1 sp1, .Subscript (.Name x xp2) e2 sp2, .Subscript (.Name x xp3) e3 sp3] kt pt) X.env] := by rfl)
    (ht0 : (assignEach [.Subscript (.Name x xp0) e0 sp0, .Subscript (.Name x xp1) e1 sp1, .Subscript (.Name x xp2) e2 sp2, .Subscript (.Name x xp3) e3 sp3] X.env).map (·.2) = assign (.Subscript (.Name x xp0) e0 sp0) X.env :: (assignEach [.Subscript (.Name x xp1) e1 sp1, .Subscript (.Name x xp2) e2 sp2, .Subscript (.Name x xp3) e3 sp3] X.env).map (·.2) := by rfl)
    (ht1 : (assignEach [.Subscript (.Name x xp1) e1 sp1, .Subscript (.Name x xp2) e2 sp2, .Subscript (.Name x xp3) e3 sp3] X.env).map (·.2) = assign (.Subscript (.Name x xp1) e1 sp1) X.env :: (assignEach [.Subscript (.Name x xp2) e2 sp2, .Subscript (.Name x xp3) e3 sp3] X.env).map (·.2) := by rfl)
    (ht2 : (assignEach [.Subscript (.Name x xp2) e2 sp2, .Subscript (.Name x xp3) e3 sp3] X.env).map (·.2) = assign (.Subscript (.Name x xp2) e2 sp2) X.env :: (assignEach [.Subscript (.Name x xp3) e3 sp3] X.env).map (·.2) := by rfl)
    (ht3 : (assignEach [.Subscript (.Name x xp3) e3 sp3] X.env).map (·.2) = assign (.Subscript (.Name x xp3) e3 sp3) X.env :: (assignEach [] X.env).map (·.2) := by rfl)
    (hn : (assignEach [.Subscript (.Name x xp0) e0 sp0, .Subscript (.Name x xp1) e1 sp1, .Subscript (.Name x xp2) e2 sp2, .Subscript (.Name x xp3) e3 sp3] X.env).length = 4 := by rfl) (hst : (assignEach [.Subscript (.Name x xp0) e0 sp0, .Subscript (.Name x xp1) e1 sp1, .Subscript (.Name x xp2) e2 sp2, .Subscript (.Name x xp3) e3 sp3] X.env).findIdx? (·.1) = none := by rfl)
    (hks0 : ∀ v, assign (.Subscript (.Name x xp0) e0 sp0) X.env v = (do
      let ov ← holding [v] (eval (.Name x xp0) X.env)
      let iv ← holding [v, ov] (eval e0 X.env)
      standAt sp0
      holding [v, ov, iv] (setItem ov iv v)
      release [v, ov, iv] []) := by intro _; rfl)
    (hks1 : ∀ v, assign (.Subscript (.Name x xp1) e1 sp1) X.env v = (do
      let ov ← holding [v] (eval (.Name x xp1) X.env)
      let iv ← holding [v, ov] (eval e1 X.env)
      standAt sp1
      holding [v, ov, iv] (setItem ov iv v)
      release [v, ov, iv] []) := by intro _; rfl)
    (hks2 : ∀ v, assign (.Subscript (.Name x xp2) e2 sp2) X.env v = (do
      let ov ← holding [v] (eval (.Name x xp2) X.env)
      let iv ← holding [v, ov] (eval e2 X.env)
      standAt sp2
      holding [v, ov, iv] (setItem ov iv v)
      release [v, ov, iv] []) := by intro _; rfl)
    (hks3 : ∀ v, assign (.Subscript (.Name x xp3) e3 sp3) X.env v = (do
      let ov ← holding [v] (eval (.Name x xp3) X.env)
      let iv ← holding [v, ov] (eval e3 X.env)
      standAt sp3
      holding [v, ov, iv] (setItem ov iv v)
      release [v, ov, iv] []) := by intro _; rfl)
    : DS X T W ow ow ob (.Assign [.Tuple [.Subscript (.Name x xp0) e0 sp0, .Subscript (.Name x xp1) e1 sp1, .Subscript (.Name x xp2) e2 sp2, .Subscript (.Name x xp3) e3 sp3] kt pt] (.Tuple [a0, a1, a2, a3] k2 pt2) pos) (sSetI4 i f0 f1 f2 f3 g0 g1 g2 g3) :=
  ps_imp (ps_asg (pe_tup (pa_cons ha0 (pa_cons ha1 (pa_cons ha2 (pa_cons ha3 pa_nil h3) h2) h1) h0)) (pg_tup hc (pgs_cons (pg_sub (pe_var hN hv hd hcd) he0 set_list hks0) (pgs_cons (pg_sub (pe_var hN hv hd hcd) he1 set_list hks1) (pgs_cons (pg_sub (pe_var hN hv hd hcd) he2 set_list hks2) (pgs_cons (pg_sub (pe_var hN hv hd hcd) he3 set_list hks3) pgs_nil ht3) ht2) ht1) ht0) hn hst) hsw hw hae) fun D σ H q => by
  obtain ⟨B, B0, ρ, S, rs, w⟩ := q
  unfold sSetI4 at w
  refine Wants.part rs w fun v0 d0 H1 w1 rs1 e1 r0 => ?_
  refine Wants.part rs1 w1 fun v1 d1 H2 w2 rs2 e2 r1 => ?_
  refine Wants.part rs2 w2 fun v2 d2 H3 w3 rs3 e3 r2 => ?_
  refine Wants.part rs3 w3 fun v3 d3 H4 w4 rs4 e4 r3 => ?_
  show [v0, v1, v2, v3].length ≤ sizeLine ∧ _
  refine ⟨show 4 ≤ sizeLine by decide, fun t nt => ⟨t, [v0, v1, v2, v3], rfl, .inl (.inl upd_same), rfl, v0, [v1, v2, v3], rfl, ?_⟩⟩
  have e5 : Ex H4 (upd H4 t (.tup [v0, v1, v2, v3])) := Ex.new nt
  have rs5 := rs4.mono e5
  have w5 := Wants.mono w4 (hide_mono e5)
  have r0 := (((r0.mono (hide_mono e2)).mono (hide_mono e3)).mono (hide_mono e4)).mono (hide_mono e5)
  have r1 := ((r1.mono (hide_mono e3)).mono (hide_mono e4)).mono (hide_mono e5)
  have r2 := (r2.mono (hide_mono e4)).mono (hide_mono e5)
  have r3 := r3.mono (hide_mono e5)
  refine put_step hiw rs5 w5 r0 fun ρ6 H6 rs6 w6 m6 => ⟨v1, [v2, v3], rfl, ?_⟩
  have r1 := m6 _ _ r1
  have r2 := m6 _ _ r2
  have r3 := m6 _ _ r3
  refine put_step hiw rs6 w6 r1 fun ρ7 H7 rs7 w7 m7 => ⟨v2, [v3], rfl, ?_⟩
  have r2 := m7 _ _ r2
  have r3 := m7 _ _ r3
  refine put_step hiw rs7 w7 r2 fun ρ8 H8 rs8 w8 m8 => ⟨v3, [], rfl, ?_⟩
  refine put_step hiw rs8 w8 (m8 _ _ r3) fun ρ9 H9 rs9 w9 m9 => ⟨rfl, ?_⟩
  exact Wants.go w9 rs9 (Ex.refl _)
end
end Dl
/-! The D layer, part 51: isinstance where the value may be a dict. -/
namespace Dl
open PySem PySem.Spec PyProof.Rows L2
def isxD (n : String) : Dat → Option Dat
  | .dct _ _ => some (.bl (n == "dict"))
  | d => isiD n d
theorem kd_int : kitB "dict" "int" = some (("int" : String) == "dict") := by decide +kernel
theorem kd_bool : kitB "dict" "bool" = some (("bool" : String) == "dict") := by decide +kernel
theorem kd_str : kitB "dict" "str" = some (("str" : String) == "dict") := by decide +kernel
theorem kd_tuple : kitB "dict" "tuple" = some (("tuple" : String) == "dict") := by decide +kernel
theorem kd_list : kitB "dict" "list" = some (("list" : String) == "dict") := by decide +kernel
section
variable {X : Cx} {T : CT} {W : WX} {ow : List Nat} {e a b c : Expr} {es : List Expr} {pos p p2 : Pos} {fa fb fc : DEnv → Res Dat}
theorem de_isx {y : Str} {n : String} (k : KitT n) (kd : kitB "dict" n = some (n == "dict")) (hm : X.mg "isinstance" = none) (hmy : X.mg y = none) (hvy : bootBuiltins y = some (.type n)) (ha : DE X T W ow e fa) (hg : Gl X "isinstance" := by rfl) (hgy : Gl X y := by rfl) (hny : y ≠ "__name__" := by decide) (hdy : (y == ("__debug__" : Str)) = false := by decide)
    (h1 : starEach [e, .Name y p2] X.env = (false, eval e X.env) :: starEach [.Name y p2] X.env := by rfl) (h2 : starEach [.Name y p2] X.env = (false, eval (.Name y p2) X.env) :: starEach [] X.env := by rfl) (hpl : (backTo pos (starEach [.Name y p2] X.env)).any (·.1) = false := by rfl) :
    DE X T W ow (.Call (.Name "isinstance" p) [e, .Name y p2] [] pos) (v1 (isxD n) fa) := pe_imp (pe_callB call_isi hg hm (by decide +kernel) (pa_cons ha (pa_cons (pe_bltn (v := .ty n) hgy hmy hvy rfl hny hdy) pa_nil h2) h1) (by decide) (by decide) h1 hpl) fun σ H Q h => by
  obtain ⟨ρ, S, re, w⟩ := h
  refine Want.part re w fun x dx H1 w1 re1 e1 rx => ?_
  show rIsi X.K [x, .ty n] H1 Q
  cases rx with
  | non => exact ⟨_, _, _, _, _, rfl, .ty n, .base .non, kit_ty k.non, w1 _ H1 (Ex.refl H1) (.bl _)⟩
  | bl z => exact ⟨_, _, _, _, _, rfl, .ty n, .base (.bl z), kit_ty k.bl, w1 _ H1 (Ex.refl H1) (.bl _)⟩
  | int z => exact ⟨_, _, _, _, _, rfl, .ty n, .base (.int z), kit_ty k.int, w1 _ H1 (Ex.refl H1) (.bl _)⟩
  | str z => exact ⟨_, _, _, _, _, rfl, .ty n, .base (.str z), kit_ty k.str, w1 _ H1 (Ex.refl H1) (.bl _)⟩
  | tup hs rs =>
    rcases ex_t hide_ex hs.sq with (hs | ⟨o, hs⟩) | ⟨o, its, m, hs, hc, _⟩
    · exact ⟨_, _, _, _, _, rfl, .ty n, .base (.tup hs), kit_ty k.tup, w1 _ H1 (Ex.refl H1) (.bl _)⟩
    · exact ⟨_, _, _, _, _, rfl, .ty n, .fTuple hs, kit_ty k.tup, w1 _ H1 (Ex.refl H1) (.bl _)⟩
    · exact ⟨_, _, _, _, _, rfl, .ty n, .kTuple hs hc, kit_ty k.tup, w1 _ H1 (Ex.refl H1) (.bl _)⟩
  | lst hs rs => exact ⟨_, _, _, _, _, rfl, .ty n, .base (.lst (hide_ex _ _ hs)), kit_ty k.lst, w1 _ H1 (Ex.refl H1) (.bl _)⟩
  | frz hs rs =>
    rcases ex_l hide_ex hs with (hs | ⟨o, hs⟩) | ⟨o, its, m, hs, hc, _⟩
    · exact ⟨_, _, _, _, _, rfl, .ty n, .base (.lst hs), kit_ty k.lst, w1 _ H1 (Ex.refl H1) (.bl _)⟩
    · exact ⟨_, _, _, _, _, rfl, .ty n, .base (.frz hs), kit_ty k.lst, w1 _ H1 (Ex.refl H1) (.bl _)⟩
    · exact ⟨_, _, _, _, _, rfl, .ty n, .kList hs hc, kit_ty k.lst, w1 _ H1 (Ex.refl H1) (.bl _)⟩
  | obj _ _ _ => exact w1.elim
  | dct h _ _ => exact ⟨_, _, _, _, _, rfl, .ty n, .base (.dK (hide_ex _ _ h)), kit_ty kd, w1 _ H1 (Ex.refl H1) (.bl _)⟩
  | rng _ => exact w1.elim

end
end Dl
/-! What the pure functions of the D layer compute: steps of loops, the draws. -/
namespace Dl
open PySem PySem.Spec PyProof.Rows L2
theorem seq_nx {F G : DEnv → DFlow} {ρ ρ' : DEnv} (h : F ρ = .nx ρ') : sSeq F G ρ = G ρ' := by unfold sSeq; rw [h]
theorem seq_rt {F G : DEnv → DFlow} {ρ : DEnv} {d : Dat} (h : F ρ = .rt d) : sSeq F G ρ = .rt d := by unfold sSeq; rw [h]
theorem seq_ex {F G : DEnv → DFlow} {ρ ρ' : DEnv} {c : Nat} (h : F ρ = .ex c ρ') : sSeq F G ρ = .ex c ρ' := by unfold sSeq; rw [h]
theorem asg_ok {i : Nat} {f : DEnv → Res Dat} {ρ : DEnv} {d : Dat} (h : f ρ = .ok d) : sAsg i f ρ = .nx (ρ.set i (some d)) := by unfold sAsg; rw [h]; rfl
theorem asgO_ok {i : Nat} {f : DEnv → Res (List Dat)} {ρ : DEnv} {d : List Dat} (h : f ρ = .ok d) : sAsgO i f ρ = .nx (ρ.set i (some (.lst d))) := by unfold sAsgO; rw [h]; rfl
theorem ret_ok {f : DEnv → Res Dat} {ρ : DEnv} {d : Dat} (h : f ρ = .ok d) : sRet f ρ = .rt d := by unfold sRet; rw [h]; rfl
theorem drop_ok {f : DEnv → Res Dat} {ρ : DEnv} {d : Dat} (h : f ρ = .ok d) : sDrop f ρ = .nx ρ := by unfold sDrop; rw [h]; rfl
theorem if_t {t : DEnv → Res Bool} {F G : DEnv → DFlow} {ρ : DEnv} (h : t ρ = .ok true) : sIf t F G ρ = F ρ := by unfold sIf; rw [h]; rfl
theorem if_f {t : DEnv → Res Bool} {F G : DEnv → DFlow} {ρ : DEnv} (h : t ρ = .ok false) : sIf t F G ρ = G ρ := by unfold sIf; rw [h]; rfl
theorem asgT_ok {asg : Dat → DEnv → Option DEnv} {f : DEnv → Res Dat} {ρ ρ' : DEnv} {d : Dat} (h : f ρ = .ok d) (ha : asg d ρ = some ρ') : sAsgT asg f ρ = .nx ρ' := by
  unfold sAsgT; rw [h]; show (match asg d ρ with | some ρ' => DFlow.nx ρ' | none => .stuck) = _; rw [ha]
theorem for_ok {g : DEnv → Res (List Dat)} {asg : Dat → DEnv → Option DEnv} {F : DEnv → DFlow} {ρ : DEnv} {l : List Dat} (h : g ρ = .ok l) : sFor g asg F ρ = forL asg F l ρ := by unfold sFor; rw [h]; rfl
theorem op_ok {g : Dat → Dat → Option Dat} {f1 f2 : DEnv → Res Dat} {ρ : DEnv} {x y z : Dat} (h1 : f1 ρ = .ok x) (h2 : f2 ρ = .ok y) (h : g x y = some z) : vOp g f1 f2 ρ = .ok z := by
  unfold vOp; rw [h1]; show (f2 ρ).bind _ = _; rw [h2]; show ofO (g x y) = _; rw [h]; rfl
theorem v1_ok {g : Dat → Option Dat} {f : DEnv → Res Dat} {ρ : DEnv} {x z : Dat} (h1 : f ρ = .ok x) (h : g x = some z) : v1 g f ρ = .ok z := by
  unfold v1; rw [h1]; show ofO (g x) = _; rw [h]; rfl
theorem cb_ok {g : List Dat → Option Dat} {fs : DEnv → Res (List Dat)} {ρ : DEnv} {l : List Dat} {z : Dat} (h1 : fs ρ = .ok l) (h : g l = some z) : vCB g fs ρ = .ok z := by
  unfold vCB; rw [h1]; show ofO (g l) = _; rw [h]; rfl
theorem call_ok {n : Nat} {F : List Dat → Res Dat} {fs : DEnv → Res (List Dat)} {ρ : DEnv} {l : List Dat} {r : Res Dat} (h1 : fs ρ = .ok l) (hl : l.length = n) (h : F l = r) : vCall n F fs ρ = r := by
  unfold vCall; rw [h1]; show (if l.length = n then F l else .stuck) = _; rw [if_pos hl]; exact h
theorem ac_ok {f : DEnv → Res Dat} {fs : DEnv → Res (List Dat)} {ρ : DEnv} {x : Dat} {l : List Dat} (h1 : f ρ = .ok x) (h2 : fs ρ = .ok l) : aCons f fs ρ = .ok (x :: l) := by
  unfold aCons; rw [h1]; show (fs ρ).bind _ = _; rw [h2]; rfl
theorem an_ok {ρ : DEnv} : aNil ρ = .ok [] := rfl
theorem tup_ok {fs : DEnv → Res (List Dat)} {ρ : DEnv} {l : List Dat} (h1 : fs ρ = .ok l) (hl : l.length ≤ 1000) : vTup fs ρ = .ok (.tup l) := by
  unfold vTup; rw [h1]; show (if l.length ≤ 1000 then _ else _) = _; rw [if_pos hl]
theorem lst_ok {fs : DEnv → Res (List Dat)} {ρ : DEnv} {l : List Dat} (h1 : fs ρ = .ok l) (hl : l.length ≤ 1000) : fLst fs ρ = .ok l := by
  unfold fLst; rw [h1]; show (if l.length ≤ 1000 then _ else _) = _; rw [if_pos hl]
theorem vl_ok {f : DEnv → Res (List Dat)} {ρ : DEnv} {l : List Dat} (h1 : f ρ = .ok l) : vL f ρ = .ok (.lst l) := by unfold vL; rw [h1]; rfl
theorem ga_ok {k : List Dat → Res (List Dat)} {fs : DEnv → Res (List Dat)} {ρ : DEnv} {l : List Dat} {r : Res (List Dat)} (h1 : fs ρ = .ok l) (h : k l = r) : gA k fs ρ = r := by unfold gA; rw [h1]; exact h
theorem gs_ok {f : DEnv → Res Dat} {ρ : DEnv} {x : Dat} {r : Res (List Dat)} (h1 : f ρ = .ok x) (h : itemsD x = r) : gSeq f ρ = r := by unfold gSeq; rw [h1]; exact h
theorem test_ok {f : DEnv → Res Dat} {ρ : DEnv} {b : Bool} (h : f ρ = .ok (.bl b)) : vTest f ρ = .ok b := by unfold vTest; rw [h]; rfl
theorem tru_ok {f : DEnv → Res Dat} {ρ : DEnv} {d : Dat} {b : Bool} (h : f ρ = .ok d) (ht : truD d = some b) : vTru f ρ = .ok b := by unfold vTru; rw [h]; show ofO (truD d) = _; rw [ht]; rfl
theorem not_ok {t : DEnv → Res Bool} {ρ : DEnv} {b : Bool} (h : t ρ = .ok b) : vNotT t ρ = .ok (!b) := by unfold vNotT; rw [h]; rfl
theorem or_f {t u : DEnv → Res Bool} {ρ : DEnv} (h : t ρ = .ok false) : vOrT t u ρ = u ρ := by unfold vOrT; rw [h]; rfl
theorem or_t {t u : DEnv → Res Bool} {ρ : DEnv} (h : t ρ = .ok true) : vOrT t u ρ = .ok true := by unfold vOrT; rw [h]; rfl
theorem and_t {t u : DEnv → Res Bool} {ρ : DEnv} (h : t ρ = .ok true) : vAndT t u ρ = u ρ := by unfold vAndT; rw [h]; rfl
theorem and_f {t u : DEnv → Res Bool} {ρ : DEnv} (h : t ρ = .ok false) : vAndT t u ρ = .ok false := by unfold vAndT; rw [h]; rfl
theorem vand_t {t u : DEnv → Res Dat} {ρ : DEnv} (h : t ρ = .ok (.bl true)) : vAnd t u ρ = u ρ := by unfold vAnd; rw [h]; rfl
theorem vand_f {t u : DEnv → Res Dat} {ρ : DEnv} (h : t ρ = .ok (.bl false)) : vAnd t u ρ = .ok (.bl false) := by unfold vAnd; rw [h]; rfl
theorem vor_f {t u : DEnv → Res Dat} {ρ : DEnv} (h : t ρ = .ok (.bl false)) : vOr t u ρ = u ρ := by unfold vOr; rw [h]; rfl
theorem vor_t {t u : DEnv → Res Dat} {ρ : DEnv} (h : t ρ = .ok (.bl true)) : vOr t u ρ = .ok (.bl true) := by unfold vOr; rw [h]; rfl
theorem vif_t {t : DEnv → Res Bool} {f g : DEnv → Res Dat} {ρ : DEnv} (h : t ρ = .ok true) : vIf t f g ρ = f ρ := by unfold vIf; rw [h]; rfl
theorem vif_f {t : DEnv → Res Bool} {f g : DEnv → Res Dat} {ρ : DEnv} (h : t ρ = .ok false) : vIf t f g ρ = g ρ := by unfold vIf; rw [h]; rfl
theorem sl_ok {f : DEnv → Res Dat} {fl fh : DEnv → Res (Option Int)} {ρ : DEnv} {x z : Dat} {l h : Option Int} (h1 : f ρ = .ok x) (h2 : fl ρ = .ok l) (h3 : fh ρ = .ok h) (e : slD x l h = some z) : vSl f fl fh ρ = .ok z := by
  unfold vSl; rw [h1]; show (fl ρ).bind _ = _; rw [h2]; show (fh ρ).bind _ = _; rw [h3]; show ofO (slD x l h) = _; rw [e]; rfl
theorem step_ok {f : DEnv → Res Dat} {fl fh fs : DEnv → Res (Option Int)} {ρ : DEnv} {x z : Dat} {l h s : Option Int} (h1 : f ρ = .ok x) (h2 : fl ρ = .ok l) (h3 : fh ρ = .ok h) (h4 : fs ρ = .ok s) (e : stepK l h s x = some z) : vStep f fl fh fs ρ = .ok z := by
  unfold vStep; rw [h1]; show (fl ρ).bind _ = _; rw [h2]; show (fh ρ).bind _ = _; rw [h3]; show (fs ρ).bind _ = _; rw [h4]; show ofO (stepK l h s x) = _; rw [e]; rfl
theorem os_ok {f : DEnv → Res Dat} {ρ : DEnv} {i : Int} (h : f ρ = .ok (.int i)) : oSome f ρ = .ok (some i) := by unfold oSome; rw [h]; rfl
theorem lc_ok {g : DEnv → Res (List Dat)} {asg : Dat → DEnv → Option DEnv} {vs : List Nat} {t : DEnv → Res Bool} {f : DEnv → Res Dat} {ρ : DEnv} {l : List Dat} {r : Res (List Dat)} (h : g ρ = .ok l) (hl : l.length ≤ 10000000) (hr : lcL asg t f (wipeD ρ vs) l = r) : vLc g asg vs t f ρ = r := by
  unfold vLc; rw [h]; show (if l.length ≤ 10000000 then _ else _) = _; rw [if_pos hl]; exact hr
/-- a comprehension without «if» -/
theorem lcL_map {asg : Dat → DEnv → Option DEnv} {f : DEnv → Res Dat} {ρ : DEnv} {g : Dat → Dat} : ∀ {l : List Dat}, (∀ d ∈ l, ∃ ρ1, asg d ρ = some ρ1 ∧ f ρ1 = .ok (g d)) → lcL asg tYesD f ρ l = .ok (l.map g)
  | [], _ => rfl
  | d :: r, h => by
    obtain ⟨ρ1, e1, e2⟩ := h d (List.mem_cons_self ..)
    have ih := lcL_map (asg := asg) (f := f) (ρ := ρ) (g := g) (l := r) fun e he => h e (List.mem_cons_of_mem _ he)
    unfold lcL
    rw [e1]
    show (noExc (f ρ1)).bind (fun y => (lcL asg tYesD f ρ r).bind fun ys => .ok (y :: ys)) = _
    rw [e2, ih]
    rfl
theorem lcL_of {α : Type} {asg : Dat → DEnv → Option DEnv} {f : DEnv → Res Dat} {ρ : DEnv} {e : α → Dat} {g : α → Dat} {l : List α} (h : ∀ a ∈ l, ∃ ρ1, asg (e a) ρ = some ρ1 ∧ f ρ1 = .ok (g a)) : lcL asg tYesD f ρ (l.map e) = .ok (l.map g) := by
  induction l with
  | nil => rfl
  | cons a r ih =>
    obtain ⟨ρ1, e1, e2⟩ := h a (List.mem_cons_self ..)
    have ih := ih fun e he => h e (List.mem_cons_of_mem _ he)
    rw [List.map_cons, List.map_cons]
    unfold lcL
    rw [e1]
    show (noExc (f ρ1)).bind (fun y => (lcL asg tYesD f ρ (r.map e)).bind fun ys => .ok (y :: ys)) = _
    rw [e2, ih]
    rfl
/-- a loop by its state -/
theorem forL_inv {asg : Dat → DEnv → Option DEnv} {F : DEnv → DFlow} : ∀ {l : List Dat} {ρ : DEnv} (P : Nat → DEnv → Prop), P 0 ρ → (∀ k d ρ, l[k]? = some d → P k ρ → ∃ ρ1 ρ2, asg d ρ = some ρ1 ∧ (F ρ1 = .nx ρ2 ∨ F ρ1 = .ct ρ2) ∧ P (k + 1) ρ2) → ∃ ρ', forL asg F l ρ = .nx ρ' ∧ P l.length ρ'
  | [], ρ, P, h0, _ => ⟨ρ, rfl, h0⟩
  | d :: r, ρ, P, h0, hs => by
    obtain ⟨ρ1, ρ2, e1, e2, p⟩ := hs 0 d ρ rfl h0
    obtain ⟨ρ', e, q⟩ := forL_inv (asg := asg) (F := F) (l := r) (ρ := ρ2) (fun k => P (k + 1)) p fun k d ρ hk hp => hs (k + 1) d ρ (by rw [List.getElem?_cons_succ]; exact hk) hp
    refine ⟨ρ', ?_, by rw [List.length_cons]; exact q⟩
    unfold forL
    rw [e1]
    show (match F ρ1 with | .nx ρ2 => forL asg F r ρ2 | .ct ρ2 => forL asg F r ρ2 | .bk ρ2 => .nx ρ2 | f => f) = _
    rcases e2 with e2 | e2 <;> rw [e2] <;> exact e
/-- … that returns at item m -/
theorem forL_ret {asg : Dat → DEnv → Option DEnv} {F : DEnv → DFlow} {x : Dat} : ∀ {l : List Dat} {ρ : DEnv} {m : Nat} (P : Nat → DEnv → Prop), m < l.length → P 0 ρ → (∀ k d ρ, l[k]? = some d → k < m → P k ρ → ∃ ρ1 ρ2, asg d ρ = some ρ1 ∧ (F ρ1 = .nx ρ2 ∨ F ρ1 = .ct ρ2) ∧ P (k + 1) ρ2) →
    (∀ d ρ, l[m]? = some d → P m ρ → ∃ ρ1, asg d ρ = some ρ1 ∧ F ρ1 = .rt x) → forL asg F l ρ = .rt x
  | [], ρ, m, P, hm, _, _, _ => by cases hm
  | d :: r, ρ, 0, P, hm, h0, _, hr => by
    obtain ⟨ρ1, e1, e2⟩ := hr d ρ rfl h0
    unfold forL
    rw [e1]
    show (match F ρ1 with | .nx ρ2 => forL asg F r ρ2 | .ct ρ2 => forL asg F r ρ2 | .bk ρ2 => .nx ρ2 | f => f) = _
    rw [e2]
  | d :: r, ρ, m + 1, P, hm, h0, hs, hr => by
    obtain ⟨ρ1, ρ2, e1, e2, p⟩ := hs 0 d ρ rfl (Nat.succ_pos _) h0
    have ih := forL_ret (asg := asg) (F := F) (x := x) (l := r) (ρ := ρ2) (m := m) (fun k => P (k + 1)) (by rw [List.length_cons] at hm; omega) p
      (fun k d ρ hk hkm hp => hs (k + 1) d ρ (by rw [List.getElem?_cons_succ]; exact hk) (by omega) hp) fun d ρ hk hp => hr d ρ (by rw [List.getElem?_cons_succ]; exact hk) hp
    unfold forL
    rw [e1]
    show (match F ρ1 with | .nx ρ2 => forL asg F r ρ2 | .ct ρ2 => forL asg F r ρ2 | .bk ρ2 => .nx ρ2 | f => f) = _
    rcases e2 with e2 | e2 <;> rw [e2] <;> exact ih
theorem whileL_t {t : DEnv → Res Bool} {F : DEnv → DFlow} {n : Nat} {ρ ρ2 : DEnv} (h : t ρ = .ok true) (hf : F ρ = .nx ρ2) : whileL t F (n + 1) ρ = whileL t F n ρ2 := by
  show rBind (t ρ) ρ _ = _
  rw [h]
  show (match F ρ with | .nx ρ2 => whileL t F n ρ2 | .ct ρ2 => whileL t F n ρ2 | .bk ρ2 => .nx ρ2 | f => f) = _
  rw [hf]
theorem whileL_f {t : DEnv → Res Bool} {F : DEnv → DFlow} {n : Nat} {ρ : DEnv} (h : t ρ = .ok false) : whileL t F (n + 1) ρ = .nx ρ := by
  show rBind (t ρ) ρ _ = _
  rw [h]
  rfl
theorem run_rt {m : Nat} {F : DEnv → DFlow} {ds : List Dat} {d : Dat} (h : F (startD m ds) = .rt d) : runD m F ds = .ok d := by unfold runD; rw [h]; rfl
theorem run_nx {m : Nat} {F : DEnv → DFlow} {ds : List Dat} {ρ : DEnv} (h : F (startD m ds) = .nx ρ) : runD m F ds = .ok .non := by unfold runD; rw [h]; rfl
theorem rng_get {lo : Int} {n k : Nat} {d : Dat} (h : (rng lo n)[k]? = some d) : k < n ∧ d = .int (lo + k) := by
  unfold rng at h
  rw [List.getElem?_map] at h
  by_cases z : k < n
  · rw [List.getElem?_range z] at h
    exact ⟨z, (Option.some.inj h).symm⟩
  · rw [List.getElem?_eq_none (by rw [List.length_range]; omega)] at h
    cases h
theorem rng_len {lo : Int} {n : Nat} : (rng lo n).length = n := by unfold rng; rw [List.length_map, List.length_range]
end Dl
/-! What the laws draw from the script. -/
namespace Dl
open PySem PySem.Spec PyProof.Rows L2
theorem mul_c {i j : Int} (h : j.natAbs < 2 ^ 64) : mulD (.int i) (.int j) = some (.int (i * j)) := by
  show (if mulOk i j = true then _ else _) = _
  rw [if_pos]
  unfold mulOk
  rw [decide_eq_true h]
  simp
theorem mod_c {i j : Int} (h : 0 < j) : modD (.int i) (.int j) = some (.int (i % j)) := by
  show (modI i j).map _ = _
  unfold modI
  rw [if_pos h]
  rfl
theorem pow1018 : powD (.int 10) (.int 18) = some (.int 1000000000000000000) := by
  show (powI 10 18).map _ = _
  have : powI 10 18 = some 1000000000000000000 := by decide +kernel
  rw [this]
  rfl
theorem fdiv_c {i j : Int} (h : 0 < j) (h2 : j.natAbs.log2 < 9000) : fdivD (.int i) (.int j) = some (.int (i / j)) := by
  show (fdivI i j).map _ = _
  unfold fdivI
  rw [if_pos h, if_pos h2]
  rfl
def Drawn (ds : List Int) : Prop := ∀ d ∈ ds, 0 ≤ d ∧ d < 65521
theorem Drawn.snoc {ds : List Int} {d : Int} (h : Drawn ds) (h1 : 0 ≤ d) (h2 : d < 65521) : Drawn (ds ++ [d]) := fun e he => by
  rcases List.mem_append.mp he with z | z
  · exact h e z
  · rw [List.mem_singleton] at z
    subst z
    exact ⟨h1, h2⟩
theorem app_ok {i : Nat} {f : DEnv → Res Dat} {ρ : DEnv} {d : Dat} {l : List Dat} (hi : ρ[i]? = some (some (.lst l))) (h : f ρ = .ok d) (hl : l.length < 10000000) : sApp i f ρ = .nx (ρ.set i (some (.lst (l ++ [d])))) := by
  unfold sApp
  rw [hi]
  show rBind (f ρ) ρ _ = _
  rw [h]
  show (if l.length < 10000000 then _ else _) = _
  rw [if_pos hl]
/-- the inner loop's turn -/
def G1 : DEnv → DFlow := sIf (vTest (vOp gtD (vVar 5) (vC (.int 0)))) (sSeq (sApp 2 (vOp modD (vCB intD (aCons (vVar 5) (aNil))) (vC (.int 1009)))) (sAsg 5 (vOp fdivD (vVar 5) (vC (.int 1009))))) (sNop)
def G2 : DEnv → DFlow := sSeq (sAsg 5 (vCB absD (aCons (vVar 4) (aNil)))) (sSeq (sAsg 3 (vOp modD (vCB intD (aCons (vOp addD (vOp addD (vOp mulD (vVar 3) (vC (.int 48271))) (vVar 5)) (vC (.int 11))) (aNil))) (vC (.int 2147483647)))) (sIf (vTest (vOp geD (vVar 5) (vOp powD (vC (.int 10)) (vC (.int 18))))) (sFor (gA range1D (aCons (vC (.int 60)) (aNil))) (aName 6) G1) (sApp 2 (vOp modD (vOp fdivD (vCB intD (aCons (vOp addD (vOp mulD (vVar 3) (vC (.int 16807))) (vC (.int 5))) (aNil))) (vC (.int 3))) (vC (.int 65521))))))
def G3 : DEnv → DFlow := sIf (vTest (vOp ltD (vCB lenD (aCons (vVar 2) (aNil))) (vVar 1))) (sSeq (sAsg 3 (vOp modD (vCB intD (aCons (vOp addD (vOp addD (vOp mulD (vVar 3) (vC (.int 69621))) (vVar 6)) (vC (.int 1))) (aNil))) (vC (.int 2147483647)))) (sApp 2 (vOp modD (vOp fdivD (vCB intD (aCons (vVar 3) (aNil))) (vC (.int 7))) (vC (.int 65521))))) (sNop)
def Gd : DEnv → DFlow := sSeq (sAsgO 2 (fLst (aNil))) (sSeq (sAsg 3 (vC (.int 7))) (sSeq (sFor (gSeq (vSl (vVar 0) (oNone) (oSome (vC (.int 63))))) (aName 4) G2) (sSeq (sFor (gA range1D (aCons (vVar 1) (aNil))) (aName 6) G3) (sRet (vSl (vVar 2) (oNone) (oSome (vVar 1)))))))
theorem g1_turn {a b x y : Option Dat} {ds : List Int} {s n : Int} (hd : Drawn ds) (hl : ds.length < 10000000) : ∃ (ds' : List Int) (n' : Int), G1 [a, b, some (.lst (ds.map .int)), some (.int s), x, some (.int n), y] = .nx [a, b, some (.lst (ds'.map .int)), some (.int s), x, some (.int n'), y] ∧ Drawn ds' ∧ ds'.length ≤ ds.length + 1 := by
  by_cases z : 0 < n
  · refine ⟨ds ++ [n % 1009], n / 1009, ?_, hd.snoc (Int.emod_nonneg _ (by decide)) (by have := Int.emod_lt_of_pos n (show (0 : Int) < 1009 by decide); omega), by rw [List.length_append]; exact Nat.le_refl _⟩
    unfold G1
    rw [if_t (by exact test_ok (op_ok (x := .int n) (y := .int 0) rfl rfl (by show some (Dat.bl (decide (0 < n))) = _; rw [decide_eq_true z])))]
    rw [seq_nx (app_ok (l := ds.map .int) rfl (op_ok (x := .int n) (y := .int 1009) rfl rfl (mod_c (by decide))) (by rw [List.length_map]; exact hl))]
    rw [asg_ok (op_ok (x := .int n) (y := .int 1009) rfl rfl (fdiv_c (by decide) (by decide)))]
    rw [List.map_append]
    rfl
  · refine ⟨ds, n, ?_, hd, Nat.le_succ _⟩
    unfold G1
    rw [if_f (by exact test_ok (op_ok (x := .int n) (y := .int 0) rfl rfl (by show some (Dat.bl (decide (0 < n))) = _; rw [decide_eq_false z])))]
    rfl
theorem g2_turn {a b x y : Option Dat} {ds : List Int} {s c : Int} (hd : Drawn ds) (hl : ds.length < 100000) : ∃ (ds' : List Int) (s' n' : Int) (y' : Option Dat), G2 [a, b, some (.lst (ds.map .int)), some (.int s), some (.int c), x, y] = .nx [a, b, some (.lst (ds'.map .int)), some (.int s'), some (.int c), some (.int n'), y'] ∧ Drawn ds' ∧ ds'.length ≤ ds.length + 60 := by
  unfold G2
  have e1 : ∀ G, sSeq (sAsg 5 (vCB absD (aCons (vVar 4) (aNil)))) G [a, b, some (.lst (ds.map .int)), some (.int s), some (.int c), x, y] = G [a, b, some (.lst (ds.map .int)), some (.int s), some (.int c), some (.int (if c < 0 then -c else c)), y] := fun G => seq_nx rfl
  rw [e1]
  generalize (if c < 0 then -c else c) = n
  rw [seq_nx (ρ' := [a, b, some (.lst (ds.map .int)), some (.int ((s * 48271 + n + 11) % 2147483647)), some (.int c), some (.int n), y]) (asg_ok (op_ok (x := .int (s * 48271 + n + 11)) (y := .int 2147483647)
    (cb_ok (ac_ok (op_ok (op_ok (op_ok (x := .int s) (y := .int 48271) rfl rfl (mul_c (by decide))) (y := .int n) rfl rfl) (y := .int 11) rfl rfl) an_ok) rfl) rfl (mod_c (by decide))))]
  generalize (s * 48271 + n + 11) % 2147483647 = s'
  have ht : vTest (vOp geD (vVar 5) (vOp powD (vC (.int 10)) (vC (.int 18)))) [a, b, some (.lst (ds.map .int)), some (.int s'), some (.int c), some (.int n), y] = .ok (decide (1000000000000000000 ≤ n)) :=
    test_ok (op_ok (x := .int n) (y := .int 1000000000000000000) rfl (op_ok (x := .int 10) (y := .int 18) rfl rfl pow1018) rfl)
  by_cases z : 1000000000000000000 ≤ n
  · rw [decide_eq_true z] at ht
    rw [if_t ht, for_ok (l := rng 0 60) rfl]
    obtain ⟨ρ', e, p⟩ := forL_inv (asg := aName 6) (F := G1) (l := rng 0 60) (ρ := [a, b, some (.lst (ds.map .int)), some (.int s'), some (.int c), some (.int n), y])
      (fun k ρ => ∃ (ds' : List Int) (n' : Int) (y' : Option Dat), ρ = [a, b, some (.lst (ds'.map .int)), some (.int s'), some (.int c), some (.int n'), y'] ∧ Drawn ds' ∧ ds'.length ≤ ds.length + k ∧ k ≤ 60) ⟨ds, n, y, rfl, hd, Nat.le_refl _, by decide⟩ fun k d ρ hk hp => by
        obtain ⟨ds', n', y', rfl, h1, h2, h3⟩ := hp
        obtain ⟨ds2, n2, e2, h4, h5⟩ := g1_turn (a := a) (b := b) (x := some (.int c)) (y := some d) (s := s') (n := n') h1 (by omega)
        have hk' := (rng_get hk).1
        exact ⟨_, _, rfl, .inl e2, ds2, n2, _, rfl, h4, by omega, by omega⟩
    obtain ⟨ds', n', y', rfl, h1, h2, h3⟩ := p
    exact ⟨ds', s', n', y', e, h1, by rw [rng_len] at h2; exact h2⟩
  · rw [decide_eq_false z] at ht
    rw [if_f ht]
    refine ⟨ds ++ [(s' * 16807 + 5) / 3 % 65521], s', n, y, ?_, hd.snoc (Int.emod_nonneg _ (by decide)) (Int.emod_lt_of_pos _ (by decide)), by rw [List.length_append, List.length_singleton]; omega⟩
    rw [app_ok (l := ds.map .int) rfl (op_ok (x := .int ((s' * 16807 + 5) / 3)) (y := .int 65521) (op_ok (x := .int (s' * 16807 + 5)) (y := .int 3)
      (cb_ok (ac_ok (op_ok (op_ok (x := .int s') (y := .int 16807) rfl rfl (mul_c (by decide))) (y := .int 5) rfl rfl) an_ok) rfl) rfl (fdiv_c (by decide) (by decide))) rfl (mod_c (by decide))) (by rw [List.length_map]; omega)]
    rw [List.map_append]
    rfl
theorem g3_turn {a x y : Option Dat} {m : Nat} {ds : List Int} {s k : Int} (hd : Drawn ds) (hl : ds.length < 100000) : ∃ (ds' : List Int) (s' : Int), G3 [a, some (.int m), some (.lst (ds.map .int)), some (.int s), x, y, some (.int k)] = .nx [a, some (.int m), some (.lst (ds'.map .int)), some (.int s'), x, y, some (.int k)] ∧ Drawn ds' ∧ (ds.length < m → ds'.length = ds.length + 1) ∧ (m ≤ ds.length → ds'.length = ds.length) := by
  unfold G3
  have ht : vTest (vOp ltD (vCB lenD (aCons (vVar 2) (aNil))) (vVar 1)) [a, some (.int m), some (.lst (ds.map .int)), some (.int s), x, y, some (.int k)] = .ok (decide (((ds.map Dat.int).length : Int) < m)) := rfl
  rw [List.length_map] at ht
  by_cases z : ds.length < m
  · rw [decide_eq_true (by omega)] at ht
    rw [if_t ht]
    refine ⟨ds ++ [(s * 69621 + k + 1) % 2147483647 / 7 % 65521], (s * 69621 + k + 1) % 2147483647, ?_, hd.snoc (Int.emod_nonneg _ (by decide)) (Int.emod_lt_of_pos _ (by decide)), fun _ => by rw [List.length_append]; rfl, fun h => by omega⟩
    rw [seq_nx (ρ' := [a, some (.int m), some (.lst (ds.map .int)), some (.int ((s * 69621 + k + 1) % 2147483647)), x, y, some (.int k)]) (asg_ok (op_ok (x := .int (s * 69621 + k + 1)) (y := .int 2147483647)
      (cb_ok (ac_ok (op_ok (op_ok (op_ok (x := .int s) (y := .int 69621) rfl rfl (mul_c (by decide))) (y := .int k) rfl rfl) (y := .int 1) rfl rfl) an_ok) rfl) rfl (mod_c (by decide))))]
    generalize (s * 69621 + k + 1) % 2147483647 = s'
    rw [app_ok (l := ds.map .int) rfl (op_ok (x := .int (s' / 7)) (y := .int 65521) (op_ok (x := .int s') (y := .int 7)
      (cb_ok (ac_ok rfl an_ok) rfl) rfl (fdiv_c (by decide) (by decide))) rfl (mod_c (by decide))) (by rw [List.length_map]; omega)]
    rw [List.map_append]
    rfl
  · rw [decide_eq_false (by omega)] at ht
    rw [if_f ht]
    exact ⟨ds, s, rfl, hd, fun h => absurd h z, fun _ => rfl⟩
theorem cut_pre {α : Type} (l : List α) (k : Nat) : cutD l none (some (k : Int)) = l.take k := by
  unfold cutD
  rw [HT.sIx_nat]
  show (l.drop 0).take (min k l.length - 0) = _
  rw [List.drop_zero, Nat.sub_zero]
  by_cases z : k ≤ l.length
  · rw [Nat.min_eq_left z]
  · rw [Nat.min_eq_right (by omega), List.take_of_length_le (Nat.le_refl _), List.take_of_length_le (by omega)]
/-- the draws: m numbers below 65521 -/
theorem draws_eq {m : Nat} (hm : m ≤ 10000) (ns : List Int) : ∃ ds : List Int, runD 7 Gd [.frz (ns.map .int), .int m] = .ok (.lst (ds.map .int)) ∧ ds.length = m ∧ Drawn ds := by
  have e0 : startD 7 [.frz (ns.map .int), .int m] = [some (.frz (ns.map .int)), some (.int m), none, none, none, none, none] := rfl
  obtain ⟨ρ', e, ds, s, x, y, z, rfl, h1, h2⟩ := forL_inv (asg := aName 4) (F := G2) (l := (ns.take 63).map .int) (ρ := [some (.frz (ns.map .int)), some (.int m), some (.lst []), some (.int 7), none, none, none])
    (fun k ρ => ∃ (ds : List Int) (s : Int) (x y z : Option Dat), ρ = [some (.frz (ns.map .int)), some (.int m), some (.lst (ds.map .int)), some (.int s), x, y, z] ∧ Drawn ds ∧ ds.length ≤ 60 * k) ⟨[], 7, none, none, none, rfl, (fun _ h => by cases h), Nat.le_refl _⟩ fun k d ρ hk hp => by
      obtain ⟨ds, s, x, y, z, rfl, h1, h2⟩ := hp
      have hk2 : k < 63 := by
        have := (List.getElem?_eq_some_iff.mp hk).1
        rw [List.length_map, List.length_take] at this
        omega
      rw [List.getElem?_map] at hk
      cases q : (ns.take 63)[k]? with
      | none => rw [q] at hk; cases hk
      | some c =>
        rw [q] at hk
        cases hk
        obtain ⟨ds', s', n', y', e2, h3, h4⟩ := g2_turn (a := some (.frz (ns.map .int))) (b := some (.int m)) (x := y) (y := z) (s := s) (c := c) h1 (by omega)
        exact ⟨_, _, rfl, .inl e2, ds', s', _, _, _, rfl, h3, by omega⟩
  have hl : ((ns.take 63).map Dat.int).length ≤ 63 := by rw [List.length_map, List.length_take]; omega
  obtain ⟨ρ2, e2, ds2, s2, x2, y2, z2, rfl, h3, h4, h5, h6⟩ := forL_inv (asg := aName 6) (F := G3) (l := rng 0 m) (ρ := [some (.frz (ns.map .int)), some (.int m), some (.lst (ds.map .int)), some (.int s), x, y, z])
    (fun k ρ => ∃ (ds : List Int) (s : Int) (x y z : Option Dat), ρ = [some (.frz (ns.map .int)), some (.int m), some (.lst (ds.map .int)), some (.int s), x, y, z] ∧ Drawn ds ∧ ds.length ≤ 3780 + k ∧ (k ≤ ds.length ∨ m ≤ ds.length) ∧ k ≤ m) ⟨ds, s, x, y, z, rfl, h1, by omega, .inl (Nat.zero_le _), Nat.zero_le _⟩ fun k d ρ hk hp => by
      obtain ⟨ds, s, x, y, z, rfl, h1, h2, h3, h4⟩ := hp
      obtain ⟨hk', rfl⟩ := rng_get hk
      obtain ⟨ds', s', e2, h5, h6, h7⟩ := g3_turn (a := some (.frz (ns.map .int))) (x := x) (y := y) (m := m) (s := s) (k := 0 + (k : Nat)) h1 (by omega)
      refine ⟨_, _, rfl, .inl e2, ds', s', _, _, _, rfl, h5, ?_, ?_, by omega⟩
      · by_cases z : ds.length < m
        · rw [h6 z]; omega
        · rw [h7 (by omega)]; omega
      · by_cases z : ds.length < m
        · rw [h6 z]; omega
        · rw [h7 (by omega)]; omega
  rw [rng_len] at h4 h5
  refine ⟨ds2.take m, ?_, by rw [List.length_take]; omega, fun d hd => h3 d (List.mem_of_mem_take hd)⟩
  refine run_rt ?_
  rw [e0]
  unfold Gd
  refine (seq_nx (ρ' := [some (.frz (ns.map .int)), some (.int m), some (.lst []), none, none, none, none]) rfl).trans ?_
  refine (seq_nx (ρ' := [some (.frz (ns.map .int)), some (.int m), some (.lst []), some (.int 7), none, none, none]) rfl).trans ?_
  rw [seq_nx (ρ' := [some (.frz (ns.map .int)), some (.int m), some (.lst (ds.map .int)), some (.int s), x, y, z])]
  · rw [seq_nx (ρ' := [some (.frz (ns.map .int)), some (.int m), some (.lst (ds2.map .int)), some (.int s2), x2, y2, z2])]
    · rw [ret_ok (sl_ok (x := .lst (ds2.map .int)) (l := none) (h := some (m : Int)) rfl rfl (os_ok rfl) rfl)]
      rw [cut_pre, List.map_take]
    · rw [for_ok (l := rng 0 m)]
      · exact e2
      · refine ga_ok (ac_ok (x := .int m) rfl an_ok) ?_
        show (if big62 (m : Int) = true then Res.ok (rng 0 (m : Int).toNat) else .stuck) = _
        rw [if_pos, Int.toNat_natCast]
        unfold big62
        rw [decide_eq_true, decide_eq_true] <;> first | rfl | omega
  · rw [for_ok (l := (ns.take 63).map .int)]
    · exact e
    · refine gs_ok (sl_ok (x := .frz (ns.map .int)) (l := none) (h := some ((63 : Nat) : Int)) rfl rfl (os_ok rfl) rfl) ?_
      rw [cut_pre, List.map_take]
      rfl
end Dl
/-! Stepping through the pure functions by rewriting. -/
namespace Dl
open PySem PySem.Spec PyProof.Rows L2

theorem e_v0 {d : Dat} {r : DEnv} : vVar 0 (some d :: r) = .ok d := (rfl)
theorem e_vS {n : Nat} {x : Option Dat} {r : DEnv} : vVar (n + 1) (x :: r) = vVar n r := (rfl)
theorem e_vC {d : Dat} {ρ : DEnv} : vC d ρ = .ok d := (rfl)
theorem e_s0 {x : Option Dat} {r : DEnv} {y : Option Dat} : List.set (x :: r) 0 y = y :: r := (rfl)
theorem e_sS {x : Option Dat} {r : DEnv} {y : Option Dat} {n : Nat} : List.set (x :: r) (n + 1) y = x :: List.set r n y := (rfl)
def opK (g : Dat → Dat → Option Dat) : Res Dat → (DEnv → Res Dat) → DEnv → Res Dat := fun x f ρ => x.bind fun x => (f ρ).bind fun y => ofO (g x y)
def opK2 (g : Dat → Dat → Option Dat) (x : Dat) : Res Dat → Res Dat := fun y => y.bind fun y => ofO (g x y)
theorem e_op {g : Dat → Dat → Option Dat} {f1 f2 : DEnv → Res Dat} {ρ : DEnv} : vOp g f1 f2 ρ = opK g (f1 ρ) f2 ρ := (rfl)
theorem e_op1 {g : Dat → Dat → Option Dat} {x : Dat} {f2 : DEnv → Res Dat} {ρ : DEnv} : opK g (.ok x) f2 ρ = opK2 g x (f2 ρ) := (rfl)
theorem e_op2 {g : Dat → Dat → Option Dat} {x y : Dat} : opK2 g x (.ok y) = ofO (g x y) := (rfl)
theorem e_opx {g : Dat → Dat → Option Dat} {c : Nat} {f2 : DEnv → Res Dat} {ρ : DEnv} : opK g (.exc c) f2 ρ = .exc c := (rfl)
theorem e_opx2 {g : Dat → Dat → Option Dat} {x : Dat} {c : Nat} : opK2 g x (.exc c) = .exc c := (rfl)
theorem e_some {α : Type} {a : α} : ofO (some a) = .ok a := (rfl)
def v1K (g : Dat → Option Dat) : Res Dat → Res Dat := fun x => x.bind fun x => ofO (g x)
theorem e_1 {g : Dat → Option Dat} {f : DEnv → Res Dat} {ρ : DEnv} : v1 g f ρ = v1K g (f ρ) := (rfl)
theorem e_11 {g : Dat → Option Dat} {x : Dat} : v1K g (.ok x) = ofO (g x) := (rfl)
def tstK : Res Dat → Res Bool := fun x => x.bind fun x => ofO (blOf x)
theorem e_t {f : DEnv → Res Dat} {ρ : DEnv} : vTest f ρ = tstK (f ρ) := (rfl)
theorem e_t1 {b : Bool} : tstK (.ok (.bl b)) = .ok b := (rfl)
theorem e_tx {c : Nat} : tstK (.exc c) = .exc c := (rfl)
def truK : Res Dat → Res Bool := fun x => x.bind fun x => ofO (truD x)
theorem e_tr {f : DEnv → Res Dat} {ρ : DEnv} : vTru f ρ = truK (f ρ) := (rfl)
theorem e_tr1 {x : Dat} : truK (.ok x) = ofO (truD x) := (rfl)
theorem e_trx {c : Nat} : truK (.exc c) = .exc c := (rfl)
theorem e_trb {b : Bool} : truD (.bl b) = some b := (rfl)
theorem e_trn : truD .non = some false := (rfl)
def ntK : Res Bool → Res Bool := fun x => x.bind fun x => .ok (!x)
theorem e_nt {f : DEnv → Res Bool} {ρ : DEnv} : vNotT f ρ = ntK (f ρ) := (rfl)
theorem e_nt1 {b : Bool} : ntK (.ok b) = .ok (!b) := (rfl)
theorem e_ntx {c : Nat} : ntK (.exc c) = .exc c := (rfl)
def andTK : Res Bool → (DEnv → Res Bool) → DEnv → Res Bool := fun x g ρ => x.bind fun x => if x = true then g ρ else .ok false
theorem e_and {f g : DEnv → Res Bool} {ρ : DEnv} : vAndT f g ρ = andTK (f ρ) g ρ := (rfl)
theorem e_andt {g : DEnv → Res Bool} {ρ : DEnv} : andTK (.ok true) g ρ = g ρ := (rfl)
theorem e_andf {g : DEnv → Res Bool} {ρ : DEnv} : andTK (.ok false) g ρ = .ok false := (rfl)
theorem e_andx {g : DEnv → Res Bool} {ρ : DEnv} {c : Nat} : andTK (.exc c) g ρ = .exc c := (rfl)
def orTK : Res Bool → (DEnv → Res Bool) → DEnv → Res Bool := fun x g ρ => x.bind fun x => if x = true then .ok true else g ρ
theorem e_or {f g : DEnv → Res Bool} {ρ : DEnv} : vOrT f g ρ = orTK (f ρ) g ρ := (rfl)
theorem e_ort {g : DEnv → Res Bool} {ρ : DEnv} : orTK (.ok true) g ρ = .ok true := (rfl)
theorem e_orf {g : DEnv → Res Bool} {ρ : DEnv} : orTK (.ok false) g ρ = g ρ := (rfl)
theorem e_orx {g : DEnv → Res Bool} {ρ : DEnv} {c : Nat} : orTK (.exc c) g ρ = .exc c := (rfl)
def andVK : Res Dat → (DEnv → Res Dat) → DEnv → Res Dat := fun x g ρ => vAnd (fun _ => x) g ρ
theorem e_va {f g : DEnv → Res Dat} {ρ : DEnv} : vAnd f g ρ = andVK (f ρ) g ρ := (rfl)
theorem e_vat {g : DEnv → Res Dat} {ρ : DEnv} : andVK (.ok (.bl true)) g ρ = g ρ := (rfl)
theorem e_vaf {g : DEnv → Res Dat} {ρ : DEnv} : andVK (.ok (.bl false)) g ρ = .ok (.bl false) := (rfl)
theorem e_vax {g : DEnv → Res Dat} {ρ : DEnv} {c : Nat} : andVK (.exc c) g ρ = .exc c := (rfl)
def orVK : Res Dat → (DEnv → Res Dat) → DEnv → Res Dat := fun x g ρ => vOr (fun _ => x) g ρ
theorem e_vo {f g : DEnv → Res Dat} {ρ : DEnv} : vOr f g ρ = orVK (f ρ) g ρ := (rfl)
theorem e_vot {g : DEnv → Res Dat} {ρ : DEnv} : orVK (.ok (.bl true)) g ρ = .ok (.bl true) := (rfl)
theorem e_vof {g : DEnv → Res Dat} {ρ : DEnv} : orVK (.ok (.bl false)) g ρ = g ρ := (rfl)
theorem e_vox {g : DEnv → Res Dat} {ρ : DEnv} {c : Nat} : orVK (.exc c) g ρ = .exc c := (rfl)
def vifK : Res Bool → (DEnv → Res Dat) → (DEnv → Res Dat) → DEnv → Res Dat := fun x f g ρ => x.bind fun x => if x = true then f ρ else g ρ
theorem e_vi {t : DEnv → Res Bool} {f g : DEnv → Res Dat} {ρ : DEnv} : vIf t f g ρ = vifK (t ρ) f g ρ := (rfl)
theorem e_vit {f g : DEnv → Res Dat} {ρ : DEnv} : vifK (.ok true) f g ρ = f ρ := (rfl)
theorem e_vif {f g : DEnv → Res Dat} {ρ : DEnv} : vifK (.ok false) f g ρ = g ρ := (rfl)
theorem e_vix {f g : DEnv → Res Dat} {ρ : DEnv} {c : Nat} : vifK (.exc c) f g ρ = .exc c := (rfl)
def vlK : Res (List Dat) → Res Dat := fun x => x.bind fun l => .ok (.lst l)
theorem e_vl {f : DEnv → Res (List Dat)} {ρ : DEnv} : vL f ρ = vlK (f ρ) := (rfl)
theorem e_vl1 {l : List Dat} : vlK (.ok l) = .ok (.lst l) := (rfl)
theorem e_an {ρ : DEnv} : aNil ρ = .ok [] := (rfl)
def consK : Res Dat → (DEnv → Res (List Dat)) → DEnv → Res (List Dat) := fun x g ρ => x.bind fun x => (g ρ).bind fun l => .ok (x :: l)
def consK2 (x : Dat) : Res (List Dat) → Res (List Dat) := fun y => y.bind fun l => .ok (x :: l)
theorem e_ac {f : DEnv → Res Dat} {g : DEnv → Res (List Dat)} {ρ : DEnv} : aCons f g ρ = consK (f ρ) g ρ := (rfl)
theorem e_ac1 {x : Dat} {g : DEnv → Res (List Dat)} {ρ : DEnv} : consK (.ok x) g ρ = consK2 x (g ρ) := (rfl)
theorem e_acx {c : Nat} {g : DEnv → Res (List Dat)} {ρ : DEnv} : consK (.exc c) g ρ = .exc c := (rfl)
theorem e_ac2 {x : Dat} {l : List Dat} : consK2 x (.ok l) = .ok (x :: l) := (rfl)
theorem e_acx2 {x : Dat} {c : Nat} : consK2 x (.exc c) = .exc c := (rfl)
def tupK : Res (List Dat) → Res Dat := fun x => x.bind fun l => if l.length ≤ 1000 then .ok (.tup l) else .stuck
theorem e_tu {f : DEnv → Res (List Dat)} {ρ : DEnv} : vTup f ρ = tupK (f ρ) := (rfl)
theorem e_tu1 {l : List Dat} (h : l.length ≤ 1000) : tupK (.ok l) = .ok (.tup l) := if_pos h
theorem e_tux {c : Nat} : tupK (.exc c) = .exc c := (rfl)
def lstK : Res (List Dat) → Res (List Dat) := fun x => x.bind fun l => if l.length ≤ 1000 then .ok l else .stuck
theorem e_ls {f : DEnv → Res (List Dat)} {ρ : DEnv} : fLst f ρ = lstK (f ρ) := (rfl)
theorem e_ls1 {l : List Dat} (h : l.length ≤ 1000) : lstK (.ok l) = .ok l := if_pos h
def cbK (g : List Dat → Option Dat) : Res (List Dat) → Res Dat := fun x => x.bind fun l => ofO (g l)
theorem e_cb {g : List Dat → Option Dat} {f : DEnv → Res (List Dat)} {ρ : DEnv} : vCB g f ρ = cbK g (f ρ) := (rfl)
theorem e_cb1 {g : List Dat → Option Dat} {l : List Dat} : cbK g (.ok l) = ofO (g l) := (rfl)
theorem e_cbx {g : List Dat → Option Dat} {c : Nat} : cbK g (.exc c) = .exc c := (rfl)
def caK (n : Nat) (F : List Dat → Res Dat) : Res (List Dat) → Res Dat := fun x => x.bind fun l => if l.length = n then F l else .stuck
theorem e_ca {n : Nat} {F : List Dat → Res Dat} {f : DEnv → Res (List Dat)} {ρ : DEnv} : vCall n F f ρ = caK n F (f ρ) := (rfl)
theorem e_ca_0 {F : List Dat → Res Dat} : caK 0 F (.ok []) = F [] := (rfl)
theorem e_ca_1 {F : List Dat → Res Dat} {x0 : Dat} : caK 1 F (.ok [x0]) = F [x0] := (rfl)
theorem e_ca_2 {F : List Dat → Res Dat} {x0 x1 : Dat} : caK 2 F (.ok [x0, x1]) = F [x0, x1] := (rfl)
theorem e_ca_3 {F : List Dat → Res Dat} {x0 x1 x2 : Dat} : caK 3 F (.ok [x0, x1, x2]) = F [x0, x1, x2] := (rfl)
theorem e_ca_4 {F : List Dat → Res Dat} {x0 x1 x2 x3 : Dat} : caK 4 F (.ok [x0, x1, x2, x3]) = F [x0, x1, x2, x3] := (rfl)
theorem e_ca_5 {F : List Dat → Res Dat} {x0 x1 x2 x3 x4 : Dat} : caK 5 F (.ok [x0, x1, x2, x3, x4]) = F [x0, x1, x2, x3, x4] := (rfl)
theorem e_ca_6 {F : List Dat → Res Dat} {x0 x1 x2 x3 x4 x5 : Dat} : caK 6 F (.ok [x0, x1, x2, x3, x4, x5]) = F [x0, x1, x2, x3, x4, x5] := (rfl)
theorem e_cax {n : Nat} {F : List Dat → Res Dat} {c : Nat} : caK n F (.exc c) = .exc c := (rfl)
def chK (g h : Dat → Dat → Option Dat) : Res Dat → (DEnv → Res Dat) → (DEnv → Res Dat) → DEnv → Res Dat := fun x fb fc ρ => vChain g h (fun _ => x) fb fc ρ
def chK2 (g h : Dat → Dat → Option Dat) (x : Dat) : Res Dat → (DEnv → Res Dat) → DEnv → Res Dat := fun y fc ρ => vChain g h (fun _ => .ok x) (fun _ => y) fc ρ
def chK3 (h : Dat → Dat → Option Dat) (y : Dat) : Option Dat → (DEnv → Res Dat) → DEnv → Res Dat := fun z fc ρ => (ofO z).bind fun z => vChainK h fc ρ y z
theorem e_ch {g h : Dat → Dat → Option Dat} {fa fb fc : DEnv → Res Dat} {ρ : DEnv} : vChain g h fa fb fc ρ = chK g h (fa ρ) fb fc ρ := (rfl)
theorem e_ch1 {g h : Dat → Dat → Option Dat} {x : Dat} {fb fc : DEnv → Res Dat} {ρ : DEnv} : chK g h (.ok x) fb fc ρ = chK2 g h x (fb ρ) fc ρ := (rfl)
theorem e_ch2 {g h : Dat → Dat → Option Dat} {x y : Dat} {fc : DEnv → Res Dat} {ρ : DEnv} : chK2 g h x (.ok y) fc ρ = chK3 h y (g x y) fc ρ := (rfl)
theorem e_ch3 {h : Dat → Dat → Option Dat} {y : Dat} {fc : DEnv → Res Dat} {ρ : DEnv} : chK3 h y (some (.bl true)) fc ρ = opK2 h y (fc ρ) := (rfl)
theorem e_ch4 {h : Dat → Dat → Option Dat} {y : Dat} {fc : DEnv → Res Dat} {ρ : DEnv} : chK3 h y (some (.bl false)) fc ρ = .ok (.bl false) := (rfl)
def slK (x : Res Dat) (l h : Res (Option Int)) : Res Dat := x.bind fun x => l.bind fun l => h.bind fun h => ofO (slD x l h)
theorem e_sl {f : DEnv → Res Dat} {fl fh : DEnv → Res (Option Int)} {ρ : DEnv} : vSl f fl fh ρ = slK (f ρ) (fl ρ) (fh ρ) := (rfl)
theorem e_sl1 {x : Dat} {l h : Option Int} : slK (.ok x) (.ok l) (.ok h) = ofO (slD x l h) := (rfl)
theorem e_slt {x : List Dat} {l h : Option Int} : slD (.tup x) l h = some (.tup (cutD x l h)) := (rfl)
theorem e_sll {x : List Dat} {l h : Option Int} : slD (.lst x) l h = some (.lst (cutD x l h)) := (rfl)
theorem e_slf {x : List Dat} {l h : Option Int} : slD (.frz x) l h = some (.lst (cutD x l h)) := (rfl)
def stK (x : Res Dat) (l h s : Res (Option Int)) : Res Dat := x.bind fun x => l.bind fun l => h.bind fun h => s.bind fun s => ofO (stepK l h s x)
theorem e_st {f : DEnv → Res Dat} {fl fh fs : DEnv → Res (Option Int)} {ρ : DEnv} : vStep f fl fh fs ρ = stK (f ρ) (fl ρ) (fh ρ) (fs ρ) := (rfl)
theorem e_st1 {x : Dat} {l h s : Option Int} : stK (.ok x) (.ok l) (.ok h) (.ok s) = ofO (stepK l h s x) := (rfl)
def osK : Res Dat → Res (Option Int) := fun x => x.bind oInt
theorem e_os {f : DEnv → Res Dat} {ρ : DEnv} : oSome f ρ = osK (f ρ) := (rfl)
theorem e_os1 {i : Int} : osK (.ok (.int i)) = .ok (some i) := (rfl)
theorem e_on {ρ : DEnv} : oNone ρ = .ok none := (rfl)
def gaK (k : List Dat → Res (List Dat)) : Res (List Dat) → Res (List Dat) := fun x => x.bind k
theorem e_ga {k : List Dat → Res (List Dat)} {f : DEnv → Res (List Dat)} {ρ : DEnv} : gA k f ρ = gaK k (f ρ) := (rfl)
theorem e_ga1 {k : List Dat → Res (List Dat)} {l : List Dat} : gaK k (.ok l) = k l := (rfl)
def gsK : Res Dat → Res (List Dat) := fun x => x.bind itemsD
theorem e_gs {f : DEnv → Res Dat} {ρ : DEnv} : gSeq f ρ = gsK (f ρ) := (rfl)
theorem e_gst {l : List Dat} : gsK (.ok (.tup l)) = .ok l := (rfl)
theorem e_gsl {l : List Dat} : gsK (.ok (.lst l)) = .ok l := (rfl)
theorem e_gsf {l : List Dat} : gsK (.ok (.frz l)) = .ok l := (rfl)
def geK : Res Dat → Res (List Dat) := fun x => x.bind enumK
theorem e_ge {f : DEnv → Res Dat} {ρ : DEnv} : gEnum f ρ = geK (f ρ) := (rfl)
theorem e_get {l : List Dat} : geK (.ok (.tup l)) = .ok (numD l) := (rfl)
theorem e_r1 {b : Nat} (h : b < 2 ^ 40) : range1D [.int (b : Int)] = .ok (rng 0 b) := by
  show (if big62 (b : Int) = true then Res.ok (rng 0 (b : Int).toNat) else .stuck) = _
  rw [if_pos, Int.toNat_natCast]
  unfold big62
  rw [decide_eq_true, decide_eq_true] <;> first | rfl | omega
theorem e_r1i {b : Int} (h : b < 2 ^ 40) (h2 : - 2 ^ 40 < b) : range1D [.int b] = .ok (rng 0 b.toNat) := by
  show (if big62 (b : Int) = true then Res.ok (rng 0 (b : Int).toNat) else .stuck) = _
  rw [if_pos]
  unfold big62
  rw [decide_eq_true, decide_eq_true] <;> first | rfl | omega
theorem e_r2i {a b : Int} (ha : a < 2 ^ 40) (ha2 : -2 ^ 40 < a) (hb : b < 2 ^ 40) (hb2 : -2 ^ 40 < b) : range2D [.int a, .int b] = .ok (rng a (b - a).toNat) := by
  show (if (big62 a && big62 b) = true then Res.ok (rng a (b - a).toNat) else .stuck) = _
  rw [if_pos]
  unfold big62
  rw [decide_eq_true, decide_eq_true, decide_eq_true, decide_eq_true] <;> first | rfl | omega
theorem fits_of {i : Int} (h : i < 2 ^ 62) (h2 : -2 ^ 62 < i) : Builtin.Range.rangeFitsLong i = true := by
  unfold Builtin.Range.rangeFitsLong
  rw [Bool.and_eq_true, decide_eq_true_iff, decide_eq_true_iff]
  omega
theorem e_r3 {i j c : Int} (hc : 0 < c) (hc2 : c < 1073741824) (hi : i < 2 ^ 40) (hi2 : -2 ^ 40 < i) (hj : j < 2 ^ 40) (hj2 : -2 ^ 40 < j) : range3D [.int i, .int j, .int c] = .ok (rngC i c (if i < j then (j - i - 1) / c + 1 else 0).toNat) := by
  have e : Builtin.Range.rangeSize i j c = if i < j then (j - i - 1) / c + 1 else 0 := by
    unfold Builtin.Range.rangeSize
    rw [if_pos (by omega)]
  have b : 0 ≤ (if i < j then (j - i - 1) / c + 1 else 0) ∧ (if i < j then (j - i - 1) / c + 1 else 0) < 2 ^ 42 := by
    by_cases z : i < j
    · rw [if_pos z]
      have h1 : 0 ≤ (j - i - 1) / c := Int.ediv_nonneg (by omega) (by omega)
      have h2 : (j - i - 1) / c ≤ j - i - 1 := Int.ediv_le_self _ (by omega)
      omega
    · rw [if_neg z]
      omega
  have hs : Builtin.Range.small i j c = true := by
    unfold Builtin.Range.small
    rw [e, fits_of (by omega) (by omega), fits_of (by omega) (by omega), fits_of (by omega) (by omega), fits_of (by omega) (by omega), fits_of (by omega) (by omega)]
    simp
    exact .inr (.inl hc)
  show (if (decide (c ≠ 0) && decide (c.natAbs < 1073741824) && Builtin.Range.small i j c) = true then Res.ok (rngC i c (Builtin.Range.rangeSize i j c).toNat) else .stuck) = _
  rw [hs, decide_eq_true (by omega), decide_eq_true (by omega), e]
  rfl
def lcK (asg : Dat → DEnv → Option DEnv) (vs : List Nat) (t : DEnv → Res Bool) (f : DEnv → Res Dat) (ρ : DEnv) : Res (List Dat) → Res (List Dat) := fun x => x.bind fun items => if items.length ≤ 10000000 then lcL asg t f (wipeD ρ vs) items else .stuck
theorem e_lc {g : DEnv → Res (List Dat)} {asg : Dat → DEnv → Option DEnv} {vs : List Nat} {t : DEnv → Res Bool} {f : DEnv → Res Dat} {ρ : DEnv} : vLc g asg vs t f ρ = lcK asg vs t f ρ (g ρ) := (rfl)
theorem e_lc1 {asg : Dat → DEnv → Option DEnv} {vs : List Nat} {t : DEnv → Res Bool} {f : DEnv → Res Dat} {ρ : DEnv} {l : List Dat} (h : l.length ≤ 10000000) : lcK asg vs t f ρ (.ok l) = lcL asg t f (wipeD ρ vs) l := if_pos h
theorem e_wp0 {ρ : DEnv} : wipeD ρ [] = ρ := (rfl)
theorem e_wp1 {ρ : DEnv} {v : Nat} {vs : List Nat} : wipeD ρ (v :: vs) = (wipeD ρ vs).set v none := (rfl)
theorem e_gn {i : Nat} {d : Dat} {ρ : DEnv} : aName i d ρ = some (ρ.set i (some d)) := (rfl)
theorem e_gt {g : List Dat → DEnv → Option DEnv} {l : List Dat} {ρ : DEnv} : aTup g (.tup l) ρ = g l ρ := (rfl)
theorem e_gl {g : List Dat → DEnv → Option DEnv} {l : List Dat} {ρ : DEnv} : aTup g (.lst l) ρ = g l ρ := (rfl)
def asK (g : List Dat → DEnv → Option DEnv) (r : List Dat) : Option DEnv → Option DEnv := fun x => x.bind fun ρ => g r ρ
theorem e_gc {f : Dat → DEnv → Option DEnv} {g : List Dat → DEnv → Option DEnv} {d : Dat} {r : List Dat} {ρ : DEnv} : asCons f g (d :: r) ρ = asK g r (f d ρ) := (rfl)
theorem e_gc1 {g : List Dat → DEnv → Option DEnv} {r : List Dat} {ρ : DEnv} : asK g r (some ρ) = g r ρ := (rfl)
theorem e_g0 {ρ : DEnv} : asNil [] ρ = some ρ := (rfl)
def seqK : DFlow → (DEnv → DFlow) → DFlow
  | .nx ρ, G => G ρ
  | f, _ => f
theorem e_seq {F G : DEnv → DFlow} {ρ : DEnv} : sSeq F G ρ = seqK (F ρ) G := by unfold sSeq seqK; cases F ρ <;> rfl
theorem e_seqn {G : DEnv → DFlow} {ρ : DEnv} : seqK (.nx ρ) G = G ρ := (rfl)
theorem e_seqr {G : DEnv → DFlow} {d : Dat} : seqK (.rt d) G = .rt d := (rfl)
theorem e_seqx {G : DEnv → DFlow} {ρ : DEnv} {c : Nat} : seqK (.ex c ρ) G = .ex c ρ := (rfl)
theorem e_seqc {G : DEnv → DFlow} {ρ : DEnv} : seqK (.ct ρ) G = .ct ρ := (rfl)
theorem e_seqb {G : DEnv → DFlow} {ρ : DEnv} : seqK (.bk ρ) G = .bk ρ := (rfl)
theorem e_nop {ρ : DEnv} : sNop ρ = .nx ρ := (rfl)
theorem e_brk {ρ : DEnv} : sBreak ρ = .bk ρ := (rfl)
theorem e_cnt {ρ : DEnv} : sCont ρ = .ct ρ := (rfl)
theorem e_rai {ρ : DEnv} {c : Nat} : sRaise c ρ = .ex c ρ := (rfl)
def asgK (i : Nat) (ρ : DEnv) : Res Dat → DFlow := fun x => rBind x ρ fun d => .nx (ρ.set i (some d))
theorem e_asg {i : Nat} {f : DEnv → Res Dat} {ρ : DEnv} : sAsg i f ρ = asgK i ρ (f ρ) := (rfl)
theorem e_asg1 {i : Nat} {ρ : DEnv} {d : Dat} : asgK i ρ (.ok d) = .nx (ρ.set i (some d)) := (rfl)
theorem e_asgx {i : Nat} {ρ : DEnv} {c : Nat} : asgK i ρ (.exc c) = .ex c ρ := (rfl)
def asgOK (i : Nat) (ρ : DEnv) : Res (List Dat) → DFlow := fun x => rBind x ρ fun d => .nx (ρ.set i (some (.lst d)))
theorem e_asgO {i : Nat} {f : DEnv → Res (List Dat)} {ρ : DEnv} : sAsgO i f ρ = asgOK i ρ (f ρ) := (rfl)
theorem e_asgO1 {i : Nat} {ρ : DEnv} {d : List Dat} : asgOK i ρ (.ok d) = .nx (ρ.set i (some (.lst d))) := (rfl)
def tgK : Option DEnv → DFlow
  | some ρ' => .nx ρ'
  | none => .stuck
def asgTK (asg : Dat → DEnv → Option DEnv) (ρ : DEnv) : Res Dat → DFlow := fun x => rBind x ρ fun d => tgK (asg d ρ)
theorem e_asgT {asg : Dat → DEnv → Option DEnv} {f : DEnv → Res Dat} {ρ : DEnv} : sAsgT asg f ρ = asgTK asg ρ (f ρ) := (rfl)
theorem e_asgT1 {asg : Dat → DEnv → Option DEnv} {ρ : DEnv} {d : Dat} : asgTK asg ρ (.ok d) = tgK (asg d ρ) := (rfl)
theorem e_asgTx {asg : Dat → DEnv → Option DEnv} {ρ : DEnv} {c : Nat} : asgTK asg ρ (.exc c) = .ex c ρ := (rfl)
theorem e_tg {ρ : DEnv} : tgK (some ρ) = .nx ρ := (rfl)
def parK (i j : Nat) (ρ : DEnv) : Res Dat → (DEnv → Res Dat) → DFlow := fun x g => rBind x ρ fun d => rBind (g ρ) ρ fun e => .nx ((ρ.set i (some d)).set j (some e))
def parK2 (i j : Nat) (ρ : DEnv) (d : Dat) : Res Dat → DFlow := fun x => rBind x ρ fun e => .nx ((ρ.set i (some d)).set j (some e))
theorem e_par {i j : Nat} {f g : DEnv → Res Dat} {ρ : DEnv} : sPar i j f g ρ = parK i j ρ (f ρ) g := (rfl)
theorem e_par1 {i j : Nat} {g : DEnv → Res Dat} {ρ : DEnv} {d : Dat} : parK i j ρ (.ok d) g = parK2 i j ρ d (g ρ) := (rfl)
theorem e_par2 {i j : Nat} {ρ : DEnv} {d e : Dat} : parK2 i j ρ d (.ok e) = .nx ((ρ.set i (some d)).set j (some e)) := (rfl)
def parOK (i j : Nat) (ρ : DEnv) : Res (List Dat) → (DEnv → Res Dat) → DFlow := fun x g => rBind x ρ fun d => rBind (g ρ) ρ fun e => .nx ((ρ.set i (some (.lst d))).set j (some e))
theorem e_parO {i j : Nat} {f : DEnv → Res (List Dat)} {g : DEnv → Res Dat} {ρ : DEnv} : sParO i j f g ρ = parOK i j ρ (f ρ) g := (rfl)
theorem e_parO1 {i j : Nat} {g : DEnv → Res Dat} {ρ : DEnv} {d : List Dat} : parOK i j ρ (.ok d) g = parK2 i j ρ (.lst d) (g ρ) := (rfl)
def dropK (ρ : DEnv) : Res Dat → DFlow := fun x => rBind x ρ fun _ => .nx ρ
theorem e_drop {f : DEnv → Res Dat} {ρ : DEnv} : sDrop f ρ = dropK ρ (f ρ) := (rfl)
theorem e_drop1 {ρ : DEnv} {d : Dat} : dropK ρ (.ok d) = .nx ρ := (rfl)
theorem e_dropx {ρ : DEnv} {c : Nat} : dropK ρ (.exc c) = .ex c ρ := (rfl)
def retK (ρ : DEnv) : Res Dat → DFlow := fun x => rBind x ρ .rt
theorem e_ret {f : DEnv → Res Dat} {ρ : DEnv} : sRet f ρ = retK ρ (f ρ) := (rfl)
theorem e_ret1 {ρ : DEnv} {d : Dat} : retK ρ (.ok d) = .rt d := (rfl)
theorem e_retx {ρ : DEnv} {c : Nat} : retK ρ (.exc c) = .ex c ρ := (rfl)
theorem e_retN {ρ : DEnv} : sRetN ρ = .rt .non := (rfl)
def ifK (ρ : DEnv) : Res Bool → (DEnv → DFlow) → (DEnv → DFlow) → DFlow := fun x F G => rBind x ρ fun b => if b = true then F ρ else G ρ
theorem e_if {t : DEnv → Res Bool} {F G : DEnv → DFlow} {ρ : DEnv} : sIf t F G ρ = ifK ρ (t ρ) F G := (rfl)
theorem e_ift {F G : DEnv → DFlow} {ρ : DEnv} : ifK ρ (.ok true) F G = F ρ := (rfl)
theorem e_iff {F G : DEnv → DFlow} {ρ : DEnv} : ifK ρ (.ok false) F G = G ρ := (rfl)
theorem e_ifx {F G : DEnv → DFlow} {ρ : DEnv} {c : Nat} : ifK ρ (.exc c) F G = .ex c ρ := (rfl)
def augK (i : Nat) (g : Dat → Dat → Option Dat) (ρ : DEnv) : Res Dat → Res Dat → DFlow
  | .ok d, e => rBind e ρ fun e => match g d e with
    | some z => .nx (ρ.set i (some z))
    | none => .stuck
  | _, _ => .stuck
def augK2 (i : Nat) (ρ : DEnv) : Option Dat → DFlow
  | some z => .nx (ρ.set i (some z))
  | none => .stuck
theorem vVar_eq {i : Nat} {ρ : DEnv} : vVar i ρ = (match ρ[i]? with
  | some (some d) => .ok d
  | _ => .stuck) := by
  unfold vVar
  rcases ρ[i]? with _ | _ | d <;> rfl
theorem e_aug {i : Nat} {g : Dat → Dat → Option Dat} {f : DEnv → Res Dat} {ρ : DEnv} : sAug i g f ρ = augK i g ρ (vVar i ρ) (f ρ) := by unfold sAug; rw [vVar_eq]; rcases ρ[i]? with _ | _ | d <;> rfl
theorem e_aug1 {i : Nat} {g : Dat → Dat → Option Dat} {ρ : DEnv} {d e : Dat} : augK i g ρ (.ok d) (.ok e) = augK2 i ρ (g d e) := by show (match g d e with | some z => DFlow.nx (ρ.set i (some z)) | none => .stuck) = _; cases g d e <;> rfl
theorem e_aug2 {i : Nat} {ρ : DEnv} {z : Dat} : augK2 i ρ (some z) = .nx (ρ.set i (some z)) := (rfl)
def appK (i : Nat) (ρ : DEnv) : Res Dat → Res Dat → DFlow
  | .ok (.lst l), e => rBind e ρ fun d => if l.length < 10000000 then .nx (ρ.set i (some (.lst (l ++ [d])))) else .stuck
  | _, _ => .stuck
theorem e_app {i : Nat} {f : DEnv → Res Dat} {ρ : DEnv} : sApp i f ρ = appK i ρ (vVar i ρ) (f ρ) := by unfold sApp; rw [vVar_eq]; rcases ρ[i]? with _ | _ | d <;> first | rfl | (cases d <;> rfl)
theorem e_app1 {i : Nat} {ρ : DEnv} {l : List Dat} {d : Dat} (h : l.length < 10000000) : appK i ρ (.ok (.lst l)) (.ok d) = .nx (ρ.set i (some (.lst (l ++ [d])))) := if_pos h
def exK (i : Nat) (ρ : DEnv) : Res Dat → Res Dat → DFlow
  | .ok (.lst l), e => rBind e ρ (extK i l ρ)
  | _, _ => .stuck
theorem e_ext {i : Nat} {f : DEnv → Res Dat} {ρ : DEnv} : sExt i f ρ = exK i ρ (vVar i ρ) (f ρ) := by unfold sExt; rw [vVar_eq]; rcases ρ[i]? with _ | _ | d <;> first | rfl | (cases d <;> rfl)
theorem e_ext1 {i : Nat} {ρ : DEnv} {l m : List Dat} (h : l.length + m.length ≤ 10000000) : exK i ρ (.ok (.lst l)) (.ok (.lst m)) = .nx (ρ.set i (some (.lst (l ++ m)))) := if_pos h
def siK (i : Nat) (ρ : DEnv) : Res Dat → Res Dat → (DEnv → Res Dat) → DFlow
  | .ok d, .ok (.lst l), fi => rBind (fi ρ) ρ (setK i l ρ d)
  | .ok d, _, _ => .stuck
  | .exc c, _, _ => .ex c ρ
  | .stuck, _, _ => .stuck
def siK2 (i : Nat) (ρ : DEnv) (d : Dat) (l : List Dat) : Option Nat → DFlow
  | some j => .nx (ρ.set i (some (.lst (l.set j d))))
  | none => .stuck
def siK3 (i : Nat) (ρ : DEnv) (d : Dat) (l : List Dat) : Res Dat → DFlow := fun x => rBind x ρ (setK i l ρ d)
theorem e_si {i : Nat} {fi f : DEnv → Res Dat} {ρ : DEnv} : sSetI i fi f ρ = siK i ρ (f ρ) (vVar i ρ) fi := by unfold sSetI; rw [vVar_eq]; cases f ρ <;> first | rfl | (rcases ρ[i]? with _ | _ | d <;> first | rfl | (cases d <;> rfl))
theorem e_si1 {i : Nat} {fi : DEnv → Res Dat} {ρ : DEnv} {d : Dat} {l : List Dat} : siK i ρ (.ok d) (.ok (.lst l)) fi = siK3 i ρ d l (fi ρ) := (rfl)
theorem e_si2 {i : Nat} {ρ : DEnv} {d : Dat} {l : List Dat} {n : Int} : siK3 i ρ d l (.ok (.int n)) = siK2 i ρ d l (ixN l.length n) := by show (match ixN l.length n with | some j => DFlow.nx (ρ.set i (some (.lst (l.set j d)))) | none => .stuck) = _; cases ixN l.length n <;> rfl
theorem e_si3 {i : Nat} {ρ : DEnv} {d : Dat} {l : List Dat} {j : Nat} : siK2 i ρ d l (some j) = .nx (ρ.set i (some (.lst (l.set j d)))) := (rfl)
def popK (i : Nat) (asg : Dat → DEnv → Option DEnv) (ρ : DEnv) : Res Dat → DFlow
  | .ok (.lst l) => (match l.getLast? with
    | some d => tgK (asg d (ρ.set i (some (.lst l.dropLast))))
    | none => .stuck)
  | _ => .stuck
theorem e_pop {i : Nat} {asg : Dat → DEnv → Option DEnv} {ρ : DEnv} : sPopT i asg ρ = popK i asg ρ (vVar i ρ) := by
  unfold sPopT; rw [vVar_eq]
  rcases ρ[i]? with _ | _ | d <;> first | rfl | skip
  cases d <;> first | rfl | skip
theorem e_pop1 {i : Nat} {asg : Dat → DEnv → Option DEnv} {ρ : DEnv} {l : List Dat} {d : Dat} : popK i asg ρ (.ok (.lst (l ++ [d]))) = tgK (asg d (ρ.set i (some (.lst l)))) := by show (match (l ++ [d]).getLast? with | some d => _ | none => DFlow.stuck) = _; rw [List.getLast?_concat]; show tgK (asg d (ρ.set i (some (.lst (l ++ [d]).dropLast)))) = _; rw [List.dropLast_concat]
def forK (asg : Dat → DEnv → Option DEnv) (F : DEnv → DFlow) (ρ : DEnv) : Res (List Dat) → DFlow := fun x => rBind x ρ fun items => forL asg F items ρ
theorem e_for {g : DEnv → Res (List Dat)} {asg : Dat → DEnv → Option DEnv} {F : DEnv → DFlow} {ρ : DEnv} : sFor g asg F ρ = forK asg F ρ (g ρ) := (rfl)
theorem e_for1 {asg : Dat → DEnv → Option DEnv} {F : DEnv → DFlow} {ρ : DEnv} {l : List Dat} : forK asg F ρ (.ok l) = forL asg F l ρ := (rfl)
theorem e_whl {n : Nat} {t : DEnv → Res Bool} {F : DEnv → DFlow} {ρ : DEnv} : sWhile n t F ρ = whileL t F n ρ := (rfl)
def fsK (asg : Dat → DEnv → Option DEnv) (F : DEnv → DFlow) (r : List Dat) : DFlow → DFlow
  | .nx ρ2 => forL asg F r ρ2
  | .ct ρ2 => forL asg F r ρ2
  | .bk ρ2 => .nx ρ2
  | f => f
def ftK (asg : Dat → DEnv → Option DEnv) (F : DEnv → DFlow) (r : List Dat) : Option DEnv → DFlow
  | none => .stuck
  | some ρ1 => fsK asg F r (F ρ1)
def wsK (t : DEnv → Res Bool) (F : DEnv → DFlow) (n : Nat) : DFlow → DFlow
  | .nx ρ2 => whileL t F n ρ2
  | .ct ρ2 => whileL t F n ρ2
  | .bk ρ2 => .nx ρ2
  | f => f
def wtK (t : DEnv → Res Bool) (F : DEnv → DFlow) (n : Nat) (ρ : DEnv) : Res Bool → DFlow
  | .ok true => wsK t F n (F ρ)
  | .ok false => .nx ρ
  | .exc c => .ex c ρ
  | .stuck => .stuck
theorem u_for {asg : Dat → DEnv → Option DEnv} {F : DEnv → DFlow} {d : Dat} {r : List Dat} {ρ : DEnv} : forL asg F (d :: r) ρ = ftK asg F r (asg d ρ) := by
  unfold forL ftK
  cases asg d ρ with
  | none => rfl
  | some ρ1 =>
    show (match F ρ1 with | .nx ρ2 => forL asg F r ρ2 | .ct ρ2 => forL asg F r ρ2 | .bk ρ2 => .nx ρ2 | f => f) = fsK asg F r (F ρ1)
    unfold fsK
    cases F ρ1 <;> rfl
theorem u_whl {n : Nat} {t : DEnv → Res Bool} {F : DEnv → DFlow} {ρ : DEnv} : whileL t F (n + 1) ρ = wtK t F n ρ (t ρ) := by
  show rBind (t ρ) ρ _ = _
  rcases t ρ with (_ | _) | _ | _ <;> try rfl
theorem e_fl0 {asg : Dat → DEnv → Option DEnv} {F : DEnv → DFlow} {ρ : DEnv} : forL asg F [] ρ = .nx ρ := (rfl)
theorem e_ft {asg : Dat → DEnv → Option DEnv} {F : DEnv → DFlow} {r : List Dat} {ρ : DEnv} : ftK asg F r (some ρ) = fsK asg F r (F ρ) := (rfl)
theorem e_fsn {asg : Dat → DEnv → Option DEnv} {F : DEnv → DFlow} {r : List Dat} {ρ : DEnv} : fsK asg F r (.nx ρ) = forL asg F r ρ := (rfl)
theorem e_fsc {asg : Dat → DEnv → Option DEnv} {F : DEnv → DFlow} {r : List Dat} {ρ : DEnv} : fsK asg F r (.ct ρ) = forL asg F r ρ := (rfl)
theorem e_fsb {asg : Dat → DEnv → Option DEnv} {F : DEnv → DFlow} {r : List Dat} {ρ : DEnv} : fsK asg F r (.bk ρ) = .nx ρ := (rfl)
theorem e_fsr {asg : Dat → DEnv → Option DEnv} {F : DEnv → DFlow} {r : List Dat} {d : Dat} : fsK asg F r (.rt d) = .rt d := (rfl)
theorem e_fsx {asg : Dat → DEnv → Option DEnv} {F : DEnv → DFlow} {r : List Dat} {c : Nat} {ρ : DEnv} : fsK asg F r (.ex c ρ) = .ex c ρ := (rfl)
theorem e_wtt {t : DEnv → Res Bool} {F : DEnv → DFlow} {n : Nat} {ρ : DEnv} : wtK t F n ρ (.ok true) = wsK t F n (F ρ) := (rfl)
theorem e_wtf {t : DEnv → Res Bool} {F : DEnv → DFlow} {n : Nat} {ρ : DEnv} : wtK t F n ρ (.ok false) = .nx ρ := (rfl)
theorem e_wsn {t : DEnv → Res Bool} {F : DEnv → DFlow} {n : Nat} {ρ : DEnv} : wsK t F n (.nx ρ) = whileL t F n ρ := (rfl)
theorem e_wsc {t : DEnv → Res Bool} {F : DEnv → DFlow} {n : Nat} {ρ : DEnv} : wsK t F n (.ct ρ) = whileL t F n ρ := (rfl)
theorem e_wsb {t : DEnv → Res Bool} {F : DEnv → DFlow} {n : Nat} {ρ : DEnv} : wsK t F n (.bk ρ) = .nx ρ := (rfl)
theorem e_wsr {t : DEnv → Res Bool} {F : DEnv → DFlow} {n : Nat} {d : Dat} : wsK t F n (.rt d) = .rt d := (rfl)
theorem e_wsx {t : DEnv → Res Bool} {F : DEnv → DFlow} {n : Nat} {c : Nat} {ρ : DEnv} : wsK t F n (.ex c ρ) = .ex c ρ := (rfl)
def tryK (hs : HdL) : DFlow → DFlow := fun f => sTryM (fun _ => f) hs []
theorem e_try {F : DEnv → DFlow} {hs : HdL} {ρ : DEnv} : sTryM F hs ρ = tryK hs (F ρ) := (rfl)
theorem e_tryn {hs : HdL} {ρ : DEnv} : tryK hs (.nx ρ) = .nx ρ := (rfl)
theorem e_tryr {hs : HdL} {d : Dat} : tryK hs (.rt d) = .rt d := (rfl)
theorem e_tryc {hs : HdL} {ρ : DEnv} : tryK hs (.ct ρ) = .ct ρ := (rfl)
def try1K (m : Nat → Bool) (G : DEnv → DFlow) : DFlow → DFlow := fun f => sTry m (fun _ => f) G []
theorem e_try1 {m : Nat → Bool} {F G : DEnv → DFlow} {ρ : DEnv} : sTry m F G ρ = try1K m G (F ρ) := (rfl)
theorem e_try1n {m : Nat → Bool} {G : DEnv → DFlow} {ρ : DEnv} : try1K m G (.nx ρ) = .nx ρ := (rfl)
theorem e_try1r {m : Nat → Bool} {G : DEnv → DFlow} {d : Dat} : try1K m G (.rt d) = .rt d := (rfl)
def mvK (c n m : Nat) (I : DEnv → Res (List Dat)) : Res (List Dat) → Res Dat := fun x => x.bind (makeD c n m I)
def mk2K (c : Nat) : Res (List Dat) → Res Dat := fun x => x.bind fun l => .ok (.obj c l)
def ifldK : Res Dat → (DEnv → Res (List Dat)) → DEnv → Res (List Dat) := fun x I ρ => x.bind fun d => (I ρ).bind fun l => .ok (d :: l)
def iifK (c : Nat) : Res Bool → (DEnv → Res (List Dat)) → DEnv → Res (List Dat) := fun x I ρ => x.bind fun b => if b = true then .exc c else I ρ
theorem e_mk {c n m : Nat} {I : DEnv → Res (List Dat)} {fs : DEnv → Res (List Dat)} {ρ : DEnv} : vMake c n m I fs ρ = mvK c n m I (fs ρ) := (rfl)
theorem e_mk1 {c n m : Nat} {I : DEnv → Res (List Dat)} {l : List Dat} (h : l.length = n) : mvK c n m I (.ok l) = mk2K c (I (startI m l)) := by show (if l.length = n then _ else _) = _; rw [if_pos h]; rfl
theorem e_mk2 {c : Nat} {l : List Dat} : mk2K c (.ok l) = .ok (.obj c l) := (rfl)
theorem e_mkx {c k : Nat} : mk2K c (.exc k) = .exc k := (rfl)
theorem e_mkx1 {c n m k : Nat} {I : DEnv → Res (List Dat)} : mvK c n m I (.exc k) = .exc k := (rfl)
theorem e_sI {m : Nat} {l : List Dat} : startI m l = (startD m (.non :: l)).set 0 none := (rfl)
theorem e_iE {ρ : DEnv} : iEnd ρ = .ok [] := (rfl)
theorem e_iF {f : DEnv → Res Dat} {I : DEnv → Res (List Dat)} {ρ : DEnv} : iFld f I ρ = ifldK (f ρ) I ρ := (rfl)
theorem e_iF1 {d : Dat} {I : DEnv → Res (List Dat)} {ρ : DEnv} : ifldK (.ok d) I ρ = consK2 d (I ρ) := (rfl)
theorem e_iI {t : DEnv → Res Bool} {c : Nat} {I : DEnv → Res (List Dat)} {ρ : DEnv} : iIf t c I ρ = iifK c (t ρ) I ρ := (rfl)
theorem e_iIt {c : Nat} {I : DEnv → Res (List Dat)} {ρ : DEnv} : iifK c (.ok true) I ρ = .exc c := (rfl)
theorem e_iIf {c : Nat} {I : DEnv → Res (List Dat)} {ρ : DEnv} : iifK c (.ok false) I ρ = I ρ := (rfl)
theorem l_fld0 {c : Nat} {a : Dat} {l : List Dat} : fldD c 0 (.obj c (a :: l)) = some a := by show (if c = c then (a :: l)[0]? else none) = _; rw [if_pos rfl]; rfl
theorem l_fld1 {c : Nat} {a b : Dat} {l : List Dat} : fldD c 1 (.obj c (a :: b :: l)) = some b := by show (if c = c then (a :: b :: l)[1]? else none) = _; rw [if_pos rfl]; rfl
theorem l_fld2 {c : Nat} {a b d : Dat} {l : List Dat} : fldD c 2 (.obj c (a :: b :: d :: l)) = some d := by show (if c = c then (a :: b :: d :: l)[2]? else none) = _; rw [if_pos rfl]; rfl
def tryAK (l : CatL) : DFlow → DFlow
  | .ex c ρ' => handA l c ρ'
  | f => f
def haK (d : Dat) (r : CatL) (c : Nat) (ρ : DEnv) : Bool → DFlow
  | true => .rt d
  | false => handA r c ρ
theorem e_tA {F : DEnv → DFlow} {l : CatL} {ρ : DEnv} : sTryA F l ρ = tryAK l (F ρ) := by unfold sTryA tryAK; cases F ρ <;> rfl
theorem e_tAn {l : CatL} {ρ : DEnv} : tryAK l (.nx ρ) = .nx ρ := (rfl)
theorem e_tAr {l : CatL} {d : Dat} : tryAK l (.rt d) = .rt d := (rfl)
theorem e_tAx {l : CatL} {c : Nat} {ρ : DEnv} : tryAK l (.ex c ρ) = handA l c ρ := (rfl)
theorem e_hA {m : Nat → Bool} {g : Nat → Dat} {r : CatL} {c : Nat} {ρ : DEnv} : handA ((m, g) :: r) c ρ = haK (g c) r c ρ (m c) := by show (if m c = true then _ else _) = _; cases m c <;> rfl
theorem e_hA0 {c : Nat} {ρ : DEnv} : handA [] c ρ = .ex c ρ := (rfl)
theorem e_haT {d : Dat} {r : CatL} {c : Nat} {ρ : DEnv} : haK d r c ρ true = .rt d := (rfl)
theorem e_haF {d : Dat} {r : CatL} {c : Nat} {ρ : DEnv} : haK d r c ρ false = handA r c ρ := (rfl)
def stAK (x : Res Dat) (l h s : Res (Option Int)) : Res Dat := x.bind fun x => l.bind fun l => h.bind fun h => s.bind fun s => ofO (stepA l h s x)
theorem e_stA {f : DEnv → Res Dat} {fl fh fs : DEnv → Res (Option Int)} {ρ : DEnv} : vStepA f fl fh fs ρ = stAK (f ρ) (fl ρ) (fh ρ) (fs ρ) := (rfl)
theorem e_stA1 {x : Dat} {l h s : Option Int} : stAK (.ok x) (.ok l) (.ok h) (.ok s) = ofO (stepA l h s x) := (rfl)
def rgK1 (mk : List Dat → Dat) : Res Dat → Res Dat := fun x => x.bind fun x => (rg1K x).bind fun l => .ok (mk l)
theorem e_rg {mk : List Dat → Dat} {f : DEnv → Res Dat} {ρ : DEnv} : vRg1 mk f ρ = rgK1 mk (f ρ) := (rfl)
theorem e_rg1 {mk : List Dat → Dat} {j : Int} (h : j ≤ 16777216) (h2 : -16777216 ≤ j) : rgK1 mk (.ok (.int j)) = .ok (mk (rng 0 j.toNat)) := by show (if (big62 0 && big62 j && decide ((j - 0).toNat ≤ 2 ^ 24)) = true then Res.ok (rng 0 (j - 0).toNat) else .stuck).bind _ = _; rw [Int.sub_zero, if_pos]; rfl; unfold big62; rw [decide_eq_true (show -2 ^ 62 ≤ j by omega), decide_eq_true (show j < 2 ^ 62 by omega), decide_eq_true (show j.toNat ≤ 2 ^ 24 by omega)]; rfl
def uK : Res Dat → Res Dat := fun x => x.bind chk
theorem e_U {f : DEnv → Res Dat} {ρ : DEnv} : vU f ρ = uK (f ρ) := (rfl)
theorem e_U1 {i : Int} : uK (.ok (.int i)) = .ok (.int i) := (rfl)
theorem e_run {m : Nat} {F : DEnv → DFlow} {ds : List Dat} : runD m F ds = endD (F (startD m ds)) := (rfl)
theorem e_endn {ρ : DEnv} : endD (.nx ρ) = .ok .non := (rfl)
theorem e_endr {d : Dat} : endD (.rt d) = .ok d := (rfl)
theorem e_endx {c : Nat} {ρ : DEnv} : endD (.ex c ρ) = .exc c := (rfl)
theorem e_sta1 {m : Nat} {d : Dat} {ds : List Dat} : startD (m + 1) (d :: ds) = some d :: startD m ds := by unfold startD; rw [List.length_cons, show m + 1 - (ds.length + 1) = m - ds.length by omega]; rfl
theorem e_sta2 {m : Nat} : startD (m + 1) [] = none :: startD m [] := (rfl)
theorem e_sta3 : startD 0 [] = [] := (rfl)
theorem l_eqb {a b : Int} : (a == b) = decide (a = b) := by
  by_cases h : a = b
  · subst h; simp
  · rw [decide_eq_false h]; exact beq_eq_false_iff_ne.mpr h
theorem l_eq {a b : Int} : eqD (.int a) (.int b) = some (.bl (decide (a = b))) := by show some (Dat.bl (a == b)) = _; rw [l_eqb]
theorem l_ne {a b : Int} : neD (.int a) (.int b) = some (.bl (!decide (a = b))) := by show some (Dat.bl (!(a == b))) = _; rw [l_eqb]
theorem l_eqbb {a b : Bool} : eqD (.bl a) (.bl b) = some (.bl (a == b)) := (rfl)
theorem l_nebb {a b : Bool} : neD (.bl a) (.bl b) = some (.bl (!(a == b))) := (rfl)
theorem l_lt {a b : Int} : ltD (.int a) (.int b) = some (.bl (decide (a < b))) := (rfl)
theorem l_le {a b : Int} : leD (.int a) (.int b) = some (.bl (decide (a ≤ b))) := (rfl)
theorem l_gt {a b : Int} : gtD (.int a) (.int b) = some (.bl (decide (b < a))) := (rfl)
theorem l_ge {a b : Int} : geD (.int a) (.int b) = some (.bl (decide (b ≤ a))) := (rfl)
theorem l_add {a b : Int} : addD (.int a) (.int b) = some (.int (a + b)) := (rfl)
theorem l_addt {a b : List Dat} (h : a.length + b.length ≤ 100000) : addD (.tup a) (.tup b) = some (.tup (a ++ b)) := if_pos (Nat.le_trans h (by decide))
theorem l_addl {a b : List Dat} (h : a.length + b.length ≤ 100000) : addD (.lst a) (.lst b) = some (.lst (a ++ b)) := if_pos (Nat.le_trans h (by decide))
theorem l_sub {a b : Int} : subD (.int a) (.int b) = some (.int (a - b)) := (rfl)
theorem l_neg {a : Int} : negD (.int a) = some (.int (-a)) := (rfl)
theorem l_mod {i j : Int} (h : 0 < j) : modD (.int i) (.int j) = some (.int (i % j)) := mod_c h
theorem l_fdiv {i j : Int} (h : 0 < j) (h2 : j < 18446744073709551616) : fdivD (.int i) (.int j) = some (.int (i / j)) := by
  refine fdiv_c h ?_
  by_cases z : j.natAbs = 0
  · rw [z]; decide
  · exact Nat.lt_trans ((Nat.log2_lt z).mpr (show j.natAbs < 2 ^ 64 by omega)) (by decide)
theorem l_mul {i j : Int} (h : j < 18446744073709551616) (h2 : -18446744073709551616 < j) : mulD (.int i) (.int j) = some (.int (i * j)) := mul_c (by omega)
theorem l_mul2 {i j : Int} (h : i < 18446744073709551616) (h2 : -18446744073709551616 < i) : mulD (.int i) (.int j) = some (.int (i * j)) := by
  show (if mulOk i j = true then _ else _) = _
  rw [if_pos]
  unfold mulOk
  rw [decide_eq_true (show i.natAbs < 2 ^ 64 by omega)]
  rfl
theorem l_fdivX {i j : Int} (h : 0 < j) (h2 : j < 18446744073709551616) : fdivXD (.int i) (.int j) = some (.int (i / j)) := by
  show (fdivXI i j).map _ = _
  unfold fdivXI
  rw [if_pos ⟨by omega, Nat.lt_trans ((Nat.log2_lt (by omega)).mpr (show j.natAbs < 2 ^ 64 by omega)) (by decide)⟩, Int.fdiv_eq_ediv_of_nonneg _ (by omega)]
  rfl
theorem l_tn {n : Nat} : (n : Int).toNat = n := by omega
theorem l_btf : (true == false) = false := (rfl)
theorem l_bft : (false == true) = false := (rfl)
theorem l_btt : (true == true) = true := (rfl)
theorem l_bff : (false == false) = true := (rfl)
theorem l_ct {α : Type} {a b : α} : cond true a b = a := (rfl)
theorem l_cf {α : Type} {a b : α} : cond false a b = b := (rfl)
theorem l_iadd {a b : Int} : iaddD (.int a) (.int b) = some (.int (a + b)) := (rfl)
theorem l_not {b : Bool} : notD (.bl b) = some (.bl (!b)) := (rfl)
theorem l_len1 {l : List Dat} : lenD [.tup l] = some (.int l.length) := (rfl)
theorem l_len2 {l : List Dat} : lenD [.lst l] = some (.int l.length) := (rfl)
theorem l_len3 {l : List Dat} : lenD [.frz l] = some (.int l.length) := (rfl)
theorem l_int {i : Int} : intD [.int i] = some (.int i) := (rfl)
theorem l_intb {b : Bool} : intD [.bl b] = some (.int (if b then 1 else 0)) := (rfl)
theorem l_tup1 {l : List Dat} : tupleD [.lst l] = some (.tup l) := (rfl)
theorem l_tup2 {l : List Dat} : tupleD [.tup l] = some (.tup l) := (rfl)
theorem l_lst1 {l : List Dat} : listD [.tup l] = some (.lst l) := (rfl)
theorem l_lst2 {l : List Dat} : listD [.lst l] = some (.lst l) := (rfl)
theorem l_max {i j : Int} : max2D [.int i, .int j] = some (.int (if j > i then j else i)) := (rfl)
theorem l_min {i j : Int} : min2D [.int i, .int j] = some (.int (if j < i then j else i)) := (rfl)
theorem l_ixt0 {a : Dat} {l : List Dat} : ixD (.tup (a :: l)) (.int 0) = some a := by
  show atI (a :: l) ((0 : Nat) : Int) = _
  unfold atI ixN
  rw [if_pos (by omega), if_pos (by rw [List.length_cons]; omega)]
  rfl
theorem l_ixt1 {a b : Dat} {l : List Dat} : ixD (.tup (a :: b :: l)) (.int 1) = some b := by
  show atI (a :: b :: l) ((1 : Nat) : Int) = _
  unfold atI ixN
  rw [if_pos (by omega), if_pos (by rw [List.length_cons, List.length_cons]; omega)]
  rfl
theorem l_ixt2 {a b c : Dat} {l : List Dat} : ixD (.tup (a :: b :: c :: l)) (.int 2) = some c := by
  show atI (a :: b :: c :: l) ((2 : Nat) : Int) = _
  unfold atI ixN
  rw [if_pos (by omega), if_pos (by rw [List.length_cons, List.length_cons, List.length_cons]; omega)]
  rfl
theorem l_ixtl {a : Dat} {l : List Dat} : ixD (.tup (l ++ [a])) (.int (-1)) = some a := by
  show atI (l ++ [a]) (-1) = _
  unfold atI ixN
  rw [if_neg (by omega), if_pos (by rw [List.length_append]; simp; omega)]
  rw [show ((-1 : Int) + ((l ++ [a]).length : Nat)).toNat = l.length by rw [List.length_append]; simp; omega]
  simp
theorem l_ixl0 {a : Dat} {l : List Dat} : ixD (.lst (a :: l)) (.int 0) = some a := by
  show atI (a :: l) ((0 : Nat) : Int) = _
  unfold atI ixN
  rw [if_pos (by omega), if_pos (by rw [List.length_cons]; omega)]
  rfl
theorem l_ixl1 {a b : Dat} {l : List Dat} : ixD (.lst (a :: b :: l)) (.int 1) = some b := by
  show atI (a :: b :: l) ((1 : Nat) : Int) = _
  unfold atI ixN
  rw [if_pos (by omega), if_pos (by rw [List.length_cons, List.length_cons]; omega)]
  rfl
theorem l_ixl2 {a b c : Dat} {l : List Dat} : ixD (.lst (a :: b :: c :: l)) (.int 2) = some c := by
  show atI (a :: b :: c :: l) ((2 : Nat) : Int) = _
  unfold atI ixN
  rw [if_pos (by omega), if_pos (by rw [List.length_cons, List.length_cons, List.length_cons]; omega)]
  rfl
theorem l_ixll {a : Dat} {l : List Dat} : ixD (.lst (l ++ [a])) (.int (-1)) = some a := by
  show atI (l ++ [a]) (-1) = _
  unfold atI ixN
  rw [if_neg (by omega), if_pos (by rw [List.length_append]; simp; omega)]
  rw [show ((-1 : Int) + ((l ++ [a]).length : Nat)).toNat = l.length by rw [List.length_append]; simp; omega]
  simp
theorem l_isn_bl {b : Bool} : isND (.bl b) .non = some (.bl false) := (rfl)
theorem l_inn_bl {b : Bool} : notND (.bl b) .non = some (.bl true) := (rfl)
theorem l_ty_int_bl {b : Bool} : isiD "int" (.bl b) = some (.bl true) := (rfl)
theorem l_ty_bool_bl {b : Bool} : isiD "bool" (.bl b) = some (.bl true) := (rfl)
theorem l_ty_str_bl {b : Bool} : isiD "str" (.bl b) = some (.bl false) := (rfl)
theorem l_ty_tuple_bl {b : Bool} : isiD "tuple" (.bl b) = some (.bl false) := (rfl)
theorem l_ty_list_bl {b : Bool} : isiD "list" (.bl b) = some (.bl false) := (rfl)
theorem l_isn_int {i : Int} : isND (.int i) .non = some (.bl false) := (rfl)
theorem l_inn_int {i : Int} : notND (.int i) .non = some (.bl true) := (rfl)
theorem l_ty_int_int {i : Int} : isiD "int" (.int i) = some (.bl true) := (rfl)
theorem l_ty_bool_int {i : Int} : isiD "bool" (.int i) = some (.bl false) := (rfl)
theorem l_ty_str_int {i : Int} : isiD "str" (.int i) = some (.bl false) := (rfl)
theorem l_ty_tuple_int {i : Int} : isiD "tuple" (.int i) = some (.bl false) := (rfl)
theorem l_ty_list_int {i : Int} : isiD "list" (.int i) = some (.bl false) := (rfl)
theorem l_isn_str {s : Str} : isND (.str s) .non = some (.bl false) := (rfl)
theorem l_inn_str {s : Str} : notND (.str s) .non = some (.bl true) := (rfl)
theorem l_ty_int_str {s : Str} : isiD "int" (.str s) = some (.bl false) := (rfl)
theorem l_ty_bool_str {s : Str} : isiD "bool" (.str s) = some (.bl false) := (rfl)
theorem l_ty_str_str {s : Str} : isiD "str" (.str s) = some (.bl true) := (rfl)
theorem l_ty_tuple_str {s : Str} : isiD "tuple" (.str s) = some (.bl false) := (rfl)
theorem l_ty_list_str {s : Str} : isiD "list" (.str s) = some (.bl false) := (rfl)
theorem l_isn_tup {l : List Dat} : isND (.tup l) .non = some (.bl false) := (rfl)
theorem l_inn_tup {l : List Dat} : notND (.tup l) .non = some (.bl true) := (rfl)
theorem l_ty_int_tup {l : List Dat} : isiD "int" (.tup l) = some (.bl false) := (rfl)
theorem l_ty_bool_tup {l : List Dat} : isiD "bool" (.tup l) = some (.bl false) := (rfl)
theorem l_ty_str_tup {l : List Dat} : isiD "str" (.tup l) = some (.bl false) := (rfl)
theorem l_ty_tuple_tup {l : List Dat} : isiD "tuple" (.tup l) = some (.bl true) := (rfl)
theorem l_ty_list_tup {l : List Dat} : isiD "list" (.tup l) = some (.bl false) := (rfl)
theorem l_isn_lst {l : List Dat} : isND (.lst l) .non = some (.bl false) := (rfl)
theorem l_inn_lst {l : List Dat} : notND (.lst l) .non = some (.bl true) := (rfl)
theorem l_ty_int_lst {l : List Dat} : isiD "int" (.lst l) = some (.bl false) := (rfl)
theorem l_ty_bool_lst {l : List Dat} : isiD "bool" (.lst l) = some (.bl false) := (rfl)
theorem l_ty_str_lst {l : List Dat} : isiD "str" (.lst l) = some (.bl false) := (rfl)
theorem l_ty_tuple_lst {l : List Dat} : isiD "tuple" (.lst l) = some (.bl false) := (rfl)
theorem l_ty_list_lst {l : List Dat} : isiD "list" (.lst l) = some (.bl true) := (rfl)
theorem l_isn_non  : isND (.non) .non = some (.bl true) := (rfl)
theorem l_inn_non  : notND (.non) .non = some (.bl false) := (rfl)
theorem l_ty_int_non  : isiD "int" (.non) = some (.bl false) := (rfl)
theorem l_ty_bool_non  : isiD "bool" (.non) = some (.bl false) := (rfl)
theorem l_ty_str_non  : isiD "str" (.non) = some (.bl false) := (rfl)
theorem l_ty_tuple_non  : isiD "tuple" (.non) = some (.bl false) := (rfl)
theorem l_ty_list_non  : isiD "list" (.non) = some (.bl false) := (rfl)
theorem d_t {p : Prop} [Decidable p] (h : p) : decide p = true := decide_eq_true h
theorem d_f {p : Prop} [Decidable p] (h : ¬p) : decide p = false := decide_eq_false h
theorem rngC_len {lo c : Int} {n : Nat} : (rngC lo c n).length = n := by unfold rngC; rw [List.length_map, List.length_range]
theorem forL_inv' {asg : Dat → DEnv → Option DEnv} {F : DEnv → DFlow} {l : List Dat} {ρ : DEnv} {r : DFlow} (hF : forL asg F l ρ = r) (P : Nat → DEnv → Prop) (h0 : P 0 ρ) (hs : ∀ k d ρ, l[k]? = some d → P k ρ → ∃ ρ1 ρ2, asg d ρ = some ρ1 ∧ (F ρ1 = .nx ρ2 ∨ F ρ1 = .ct ρ2) ∧ P (k + 1) ρ2) : ∃ ρ', r = .nx ρ' ∧ P l.length ρ' := by
  obtain ⟨ρ', e, p⟩ := forL_inv P h0 hs
  exact ⟨ρ', hF.symm.trans e, p⟩
theorem forL_ret' {asg : Dat → DEnv → Option DEnv} {F : DEnv → DFlow} {x : Dat} {l : List Dat} {ρ : DEnv} {r : DFlow} (hF : forL asg F l ρ = r) {m : Nat} (P : Nat → DEnv → Prop) (hm : m < l.length) (h0 : P 0 ρ) (hs : ∀ k d ρ, l[k]? = some d → k < m → P k ρ → ∃ ρ1 ρ2, asg d ρ = some ρ1 ∧ (F ρ1 = .nx ρ2 ∨ F ρ1 = .ct ρ2) ∧ P (k + 1) ρ2)
    (hr : ∀ d ρ, l[m]? = some d → P m ρ → ∃ ρ1, asg d ρ = some ρ1 ∧ F ρ1 = .rt x) : r = .rt x := hF.symm.trans (forL_ret P hm h0 hs hr)
theorem lcL_of' {α : Type} {asg : Dat → DEnv → Option DEnv} {f : DEnv → Res Dat} {ρ : DEnv} {e : α → Dat} {l : List α} {r : Res (List Dat)} (hL : lcL asg tYesD f ρ (l.map e) = r) (g : α → Dat) (h : ∀ a ∈ l, ∃ ρ1, asg (e a) ρ = some ρ1 ∧ f ρ1 = .ok (g a)) : r = .ok (l.map g) := hL.symm.trans (lcL_of h)
theorem lcL_filter {α : Type} {asg : Dat → DEnv → Option DEnv} {t : DEnv → Res Bool} {f : DEnv → Res Dat} {ρ : DEnv} {e g : α → Dat} {p : α → Bool} {l : List α} (h : ∀ a ∈ l, ∃ ρ1, asg (e a) ρ = some ρ1 ∧ t ρ1 = .ok (p a) ∧ (p a = true → f ρ1 = .ok (g a))) : lcL asg t f ρ (l.map e) = .ok ((l.filter p).map g) := by
  induction l with
  | nil => rfl
  | cons a r ih =>
    obtain ⟨ρ1, e1, e2, e3⟩ := h a (List.mem_cons_self ..)
    have ih := ih fun e he => h e (List.mem_cons_of_mem _ he)
    rw [List.map_cons]
    unfold lcL
    rw [e1]
    show (noExc (t ρ1)).bind (fun b => if b = true then (noExc (f ρ1)).bind fun y => (lcL asg t f ρ (r.map e)).bind fun ys => .ok (y :: ys) else lcL asg t f ρ (r.map e)) = _
    rw [e2, ih]
    cases q : p a with
    | false =>
      rw [List.filter_cons_of_neg (by rw [q]; decide)]
      rfl
    | true =>
      rw [List.filter_cons_of_pos q]
      show (noExc (f ρ1)).bind _ = _
      rw [e3 q]
      rfl
theorem lcL_filter' {α : Type} {asg : Dat → DEnv → Option DEnv} {t : DEnv → Res Bool} {f : DEnv → Res Dat} {ρ : DEnv} {e : α → Dat} {l : List α} {r : Res (List Dat)} (hL : lcL asg t f ρ (l.map e) = r) (g : α → Dat) (p : α → Bool) (h : ∀ a ∈ l, ∃ ρ1, asg (e a) ρ = some ρ1 ∧ t ρ1 = .ok (p a) ∧ (p a = true → f ρ1 = .ok (g a))) : r = .ok ((l.filter p).map g) := hL.symm.trans (lcL_filter h)
theorem lcL_dat' {asg : Dat → DEnv → Option DEnv} {f : DEnv → Res Dat} {ρ : DEnv} {l : List Dat} {r : Res (List Dat)} (hL : lcL asg tYesD f ρ l = r) (g : Dat → Dat) (h : ∀ d ∈ l, ∃ ρ1, asg d ρ = some ρ1 ∧ f ρ1 = .ok (g d)) : r = .ok (l.map g) := hL.symm.trans (lcL_map h)
theorem rngC_get {lo c : Int} {n k : Nat} {d : Dat} (h : (rngC lo c n)[k]? = some d) : k < n ∧ d = .int (lo + k * c) := by
  unfold rngC at h
  rw [List.getElem?_map] at h
  by_cases z : k < n
  · rw [List.getElem?_range z] at h
    exact ⟨z, (Option.some.inj h).symm⟩
  · rw [List.getElem?_eq_none (by rw [List.length_range]; omega)] at h
    cases h

def numF : Nat → List Dat → List Dat
  | _, [] => []
  | k, d :: r => .tup [.int (k : Nat), d] :: numF (k + 1) r
theorem numF_get : ∀ (l : List Dat) (k i : Nat), (numF k l)[i]? = l[i]?.map fun d => .tup [.int ((k + i : Nat)), d]
  | [], k, i => rfl
  | d :: r, k, 0 => rfl
  | d :: r, k, i + 1 => by
    show (numF (k + 1) r)[i]? = _
    rw [numF_get r, List.getElem?_cons_succ, show k + 1 + i = k + (i + 1) by omega]
theorem num_from (l : List Dat) : numD l = numF 0 l := by
  refine List.ext_getElem? fun i => ?_
  unfold numD
  rw [numF_get, List.getElem?_map]
  by_cases h : i < l.length
  · rw [List.getElem?_range h, Nat.zero_add]
    show some (Dat.tup [Dat.int (i : Nat), l[i]?.getD .non]) = _
    rw [List.getElem?_eq_getElem h]
    rfl
  · rw [List.getElem?_eq_none (by rw [List.length_range]; omega), List.getElem?_eq_none (by omega)]
    rfl
theorem boolsT {α : Type} (l : List α) : boolsD (l.map fun _ => Dat.bl true) = some (l.map fun _ => true) := by
  induction l with
  | nil => rfl
  | cons a r ih =>
    show (boolsD (r.map fun _ => Dat.bl true)).map _ = _
    rw [ih]
    rfl
theorem allT {α : Type} (l : List α) : allD [.lst (l.map fun _ => Dat.bl true)] = some (.bl true) := by
  show (boolsD _).map _ = _
  rw [boolsT]
  show some (Dat.bl ((l.map fun _ => true).all id)) = _
  rw [List.all_map]
  congr 2
  rw [List.all_eq_true]
  exact fun _ _ => rfl
theorem cut_map {α β : Type} (f : α → β) (l : List α) (a b : Option Int) : Dl.cutD (l.map f) a b = (Dl.cutD l a b).map f := by
  unfold Dl.cutD
  rw [List.length_map, List.map_take, List.map_drop]
theorem cut_mid {α : Type} (l : List α) {i j : Int} (h0 : 0 ≤ i) (hi : i ≤ l.length) (h1 : 0 ≤ j) (hj : j ≤ l.length) : Dl.cutD l (some i) (some j) = (l.drop i.toNat).take (j.toNat - i.toNat) := by
  unfold Dl.cutD HT.sIx
  show (l.drop (if i < 0 then (i + (l.length : Int)).toNat else min i.toNat l.length)).take ((if j < 0 then (j + (l.length : Int)).toNat else min j.toNat l.length) - (if i < 0 then (i + (l.length : Int)).toNat else min i.toNat l.length)) = _
  rw [if_neg (by omega), if_neg (by omega), Nat.min_eq_left (by omega), Nat.min_eq_left (by omega)]
theorem cut_to {α : Type} (l : List α) {j : Int} (h1 : 0 ≤ j) (hj : j ≤ l.length) : Dl.cutD l none (some j) = l.take j.toNat := by
  have := cut_mid l (i := 0) (j := j) (by omega) (by omega) h1 hj
  exact this
theorem cut_off {α : Type} (l : List α) {i : Int} (h0 : 0 ≤ i) (hi : i ≤ l.length) : Dl.cutD l (some i) none = l.drop i.toNat := by
  unfold Dl.cutD HT.sIx
  show (l.drop (if i < 0 then (i + (l.length : Int)).toNat else min i.toNat l.length)).take (l.length - (if i < 0 then (i + (l.length : Int)).toNat else min i.toNat l.length)) = _
  rw [if_neg (by omega), Nat.min_eq_left (by omega), List.take_of_length_le (by rw [List.length_drop]; omega)]
def drw (ds : List Int) (k : Nat) : Int := ds[k]?.getD 0
theorem l_at {ds : List Int} {j : Int} (h0 : 0 ≤ j) (h1 : j < ds.length) : ixD (.lst (ds.map .int)) (.int j) = some (.int (drw ds j.toNat)) := by
  show atI _ j = _
  unfold atI ixN drw
  rw [if_pos h0, if_pos (by rw [List.length_map]; exact h1)]
  show (ds.map Dat.int)[j.toNat]? = _
  rw [List.getElem?_map, List.getElem?_eq_getElem (by omega)]
  rfl
theorem drw_bd {ds : List Int} (h : Drawn ds) (k : Nat) : 0 ≤ drw ds k ∧ drw ds k < 65521 := by
  unfold drw
  cases q : ds[k]? with
  | none => decide
  | some d => exact h d (List.mem_of_getElem? q)
def firstF (flt : Nat → Option Dat) : Nat → Nat → Option Dat
  | _, 0 => none
  | k, n + 1 => match flt k with
    | some d => some d
    | none => firstF flt (k + 1) n
theorem forL_first {asg : Dat → DEnv → Option DEnv} {F : DEnv → DFlow} (flt : Nat → Option Dat) : ∀ {l : List Dat} {ρ : DEnv} (k0 : Nat) (P : Nat → DEnv → Prop), P k0 ρ →
    (∀ k d ρ, l[k]? = some d → P (k0 + k) ρ → ∃ ρ1, asg d ρ = some ρ1 ∧ ((∃ r, flt (k0 + k) = some r ∧ F ρ1 = .rt r) ∨ (flt (k0 + k) = none ∧ ∃ ρ2, (F ρ1 = .nx ρ2 ∨ F ρ1 = .ct ρ2) ∧ P (k0 + k + 1) ρ2))) →
    (∃ r, firstF flt k0 l.length = some r ∧ forL asg F l ρ = .rt r) ∨ (firstF flt k0 l.length = none ∧ ∃ ρ', forL asg F l ρ = .nx ρ' ∧ P (k0 + l.length) ρ')
  | [], ρ, k0, P, h0, _ => .inr ⟨rfl, ρ, rfl, h0⟩
  | d :: r, ρ, k0, P, h0, hs => by
    obtain ⟨ρ1, e1, h⟩ := hs 0 d ρ rfl h0
    rcases h with ⟨x, f1, f2⟩ | ⟨f1, ρ2, f2, p⟩
    · refine .inl ⟨x, ?_, ?_⟩
      · show (match flt k0 with | some d => some d | none => firstF flt (k0 + 1) r.length) = _
        rw [show flt k0 = some x from f1]
      · rw [u_for, e1]
        show fsK asg F r (F ρ1) = _
        rw [f2]
        rfl
    · have ih := forL_first (asg := asg) (F := F) flt (l := r) (ρ := ρ2) (k0 + 1) P p fun k d ρ hk hp => by
        have := hs (k + 1) d ρ (by rw [List.getElem?_cons_succ]; exact hk) (by rw [show k0 + (k + 1) = k0 + 1 + k by omega]; exact hp)
        rw [show k0 + (k + 1) = k0 + 1 + k by omega] at this
        exact this
      have e2 : forL asg F (d :: r) ρ = forL asg F r ρ2 := by
        rw [u_for, e1]
        show fsK asg F r (F ρ1) = _
        rcases f2 with f2 | f2 <;> rw [f2] <;> rfl
      have e3 : firstF flt k0 (d :: r).length = firstF flt (k0 + 1) r.length := by
        show (match flt k0 with | some d => some d | none => firstF flt (k0 + 1) r.length) = _
        rw [show flt k0 = none from f1]
      rw [e2, e3, List.length_cons, show k0 + (r.length + 1) = k0 + 1 + r.length by omega]
      exact ih
theorem boolsP {α : Type} (p : α → Bool) (l : List α) : boolsD (l.map fun a => Dat.bl (p a)) = some (l.map p) := by
  induction l with
  | nil => rfl
  | cons a r ih =>
    show (boolsD (r.map fun a => Dat.bl (p a))).map _ = _
    rw [ih]
    rfl
theorem allP {α : Type} (p : α → Bool) (l : List α) : allD [.lst (l.map fun a => Dat.bl (p a))] = some (.bl (l.all p)) := by
  show (boolsD _).map _ = _
  rw [boolsP]
  show some (Dat.bl ((l.map p).all id)) = _
  rw [List.all_map]
  rfl
theorem anyP {α : Type} (p : α → Bool) (l : List α) : anyD [.lst (l.map fun a => Dat.bl (p a))] = some (.bl (l.any p)) := by
  show (boolsD _).map _ = _
  rw [boolsP]
  show some (Dat.bl ((l.map p).any id)) = _
  rw [List.any_map]
  rfl
theorem intsP (ns : List Int) : intsD (ns.map Dat.int) = some ns := by
  induction ns with
  | nil => rfl
  | cons a r ih =>
    show (intsD (r.map Dat.int)).map _ = _
    rw [ih]
    rfl
theorem fold_max : ∀ (r : List Int) (n : Int), (r.foldl max n = n ∨ r.foldl max n ∈ r) ∧ n ≤ r.foldl max n ∧ ∀ x ∈ r, x ≤ r.foldl max n
  | [], n => ⟨.inl rfl, Int.le_refl _, fun x h => by cases h⟩
  | a :: r, n => by
    obtain ⟨h1, h2, h3⟩ := fold_max r (max n a)
    rw [List.foldl_cons]
    refine ⟨?_, by omega, fun x hx => ?_⟩
    · rcases h1 with h1 | h1
      · rw [h1]
        rcases Int.le_total n a with z | z
        · rw [Int.max_eq_right z]; exact .inr List.mem_cons_self
        · rw [Int.max_eq_left z]; exact .inl rfl
      · exact .inr (List.mem_cons_of_mem _ h1)
    · rcases List.mem_cons.mp hx with rfl | hx
      · omega
      · exact h3 x hx
theorem fold_min : ∀ (r : List Int) (n : Int), (r.foldl min n = n ∨ r.foldl min n ∈ r) ∧ r.foldl min n ≤ n ∧ ∀ x ∈ r, r.foldl min n ≤ x
  | [], n => ⟨.inl rfl, Int.le_refl _, fun x h => by cases h⟩
  | a :: r, n => by
    obtain ⟨h1, h2, h3⟩ := fold_min r (min n a)
    rw [List.foldl_cons]
    refine ⟨?_, by omega, fun x hx => ?_⟩
    · rcases h1 with h1 | h1
      · rw [h1]
        rcases Int.le_total n a with z | z
        · rw [Int.min_eq_left z]; exact .inl rfl
        · rw [Int.min_eq_right z]; exact .inr List.mem_cons_self
      · exact .inr (List.mem_cons_of_mem _ h1)
    · rcases List.mem_cons.mp hx with rfl | hx
      · omega
      · exact h3 x hx
theorem max1_tup {ns : List Int} (h : ns ≠ []) : ∃ m, max1D [.tup (ns.map .int)] = some (.int m) ∧ m ∈ ns ∧ ∀ x ∈ ns, x ≤ m := by
  match ns, h with
  | n :: r, _ =>
    obtain ⟨h1, h2, h3⟩ := fold_max r n
    refine ⟨r.foldl max n, ?_, ?_, fun x hx => ?_⟩
    · show bestK max _ = _
      unfold bestK
      rw [intsP]
    · rcases h1 with h1 | h1
      · rw [h1]; exact List.mem_cons_self
      · exact List.mem_cons_of_mem _ h1
    · rcases List.mem_cons.mp hx with rfl | hx
      · exact h2
      · exact h3 x hx
theorem max1_lst {ns : List Int} (h : ns ≠ []) : ∃ m, max1D [.lst (ns.map .int)] = some (.int m) ∧ m ∈ ns ∧ ∀ x ∈ ns, x ≤ m := max1_tup h
theorem min1_tup {ns : List Int} (h : ns ≠ []) : ∃ m, min1D [.tup (ns.map .int)] = some (.int m) ∧ m ∈ ns ∧ ∀ x ∈ ns, m ≤ x := by
  match ns, h with
  | n :: r, _ =>
    obtain ⟨h1, h2, h3⟩ := fold_min r n
    refine ⟨r.foldl min n, ?_, ?_, fun x hx => ?_⟩
    · show bestK min _ = _
      unfold bestK
      rw [intsP]
    · rcases h1 with h1 | h1
      · rw [h1]; exact List.mem_cons_self
      · exact List.mem_cons_of_mem _ h1
    · rcases List.mem_cons.mp hx with rfl | hx
      · exact h2
      · exact h3 x hx
theorem min1_lst {ns : List Int} (h : ns ≠ []) : ∃ m, min1D [.lst (ns.map .int)] = some (.int m) ∧ m ∈ ns ∧ ∀ x ∈ ns, m ≤ x := min1_tup h
theorem pick_revD {α : Type} (l : List α) : pickD l none none (-1) = l.reverse := by
  unfold pickD
  have e1 : Builtin.Slice.sliceAdjust none none (-1) (l.length : Int) = ((l.length : Int) - 1, -1) := rfl
  rw [e1]
  have e2 : Builtin.Slice.slicePlaces ((l.length : Int) - 1) (-1) (-1) = l.length := by
    unfold Builtin.Slice.slicePlaces
    rw [if_neg (by decide)]
    by_cases z : l.length = 0
    · rw [if_neg (by omega), z]
      rfl
    · rw [if_pos (by omega), show (-(-1 : Int)) = 1 by decide, Int.ediv_one]
      omega
  rw [e2]
  have : ∀ n : Nat, n ≤ l.length → (List.range n).filterMap (fun (m : Nat) => l[((l.length : Int) - 1 + (m : Int) * (-1)).toNat]?) = (l.reverse).take n := by
    intro n
    induction n with
    | zero => intro _; rw [List.take_zero]; rfl
    | succ n ih =>
      intro h
      rw [List.range_succ, List.filterMap_append, ih (by omega), List.take_add_one, List.getElem?_reverse (by omega)]
      congr 1
      rw [List.filterMap_cons]
      show (match l[((l.length : Int) - 1 + (n : Int) * (-1)).toNat]? with | none => [] | some b => b :: []) = _
      rw [show ((l.length : Int) - 1 + (n : Int) * (-1)).toNat = l.length - 1 - n by omega, List.getElem?_eq_getElem (by omega)]
      rfl
  rw [this _ (Nat.le_refl _), ← List.length_reverse, List.take_length]
theorem pickL_rev {α : Type} (l : List α) : pickL l none none (-1) = l.reverse := by
  unfold pickL
  have e1 : sliceBounds none none (some (-1)) l.length = ((l.length : Int) - 1, -1, -1) := rfl
  rw [e1]
  unfold sliceRange
  rw [if_neg (show ¬ ((-1 : Int) > 0) by decide), List.filterMap_map]
  have e2 : (if (l.length : Int) - 1 > -1 then ((l.length : Int) - 1 - (-1) - (-1) - 1) / -(-1) else 0).toNat = l.length := by
    split
    · rw [show (-(-1 : Int)) = 1 by decide, Int.ediv_one]; omega
    · omega
  rw [e2, ← pick_revD l]
  unfold pickD
  have e3 : Builtin.Slice.sliceAdjust none none (-1) (l.length : Int) = ((l.length : Int) - 1, -1) := rfl
  rw [e3]
  have e4 : Builtin.Slice.slicePlaces ((l.length : Int) - 1) (-1) (-1) = l.length := by
    unfold Builtin.Slice.slicePlaces
    rw [if_neg (by decide)]
    by_cases z : l.length = 0
    · rw [if_neg (by omega), z]
      rfl
    · rw [if_pos (by omega), show (-(-1 : Int)) = 1 by decide, Int.ediv_one]
      omega
  rw [e4]
  congr 1
  funext m
  show l[((l.length : Int) - 1 + -1 * (m : Int)).toNat]? = _
  rw [Int.mul_comm]
theorem revT {l : List Dat} (h : l.length ≤ 1000000) : stepA none none (some (-1)) (.tup l) = some (.tup l.reverse) := by
  show (if (-1 : Int) ≠ 0 ∧ (-1 : Int) ≠ 1 ∧ (pickD l none none (-1)).length ≤ 10000000 then some (Dat.tup (pickD l none none (-1))) else none) = _
  rw [pick_revD, if_pos ⟨by decide, by decide, by rw [List.length_reverse]; omega⟩]
theorem revL {l : List Dat} : stepA none none (some (-1)) (.lst l) = some (.lst l.reverse) := by
  show (if (-1 : Int) ≠ 0 then some (Dat.lst (pickL l none none (-1))) else none) = _
  rw [pickL_rev, if_pos (by decide)]
end Dl
/-! Stepping through the pure functions with tests that are not decided. -/
namespace Dl
open PySem PySem.Spec PyProof.Rows L2
/-- a choice whose branches know the test -/
def iteR {α : Type} (b : Bool) (x : b = true → α) (y : b = false → α) : α := match b with
  | true => x rfl
  | false => y rfl
theorem iteR_eq {α : Type} {b : Bool} {x y : α} : iteR b (fun _ => x) (fun _ => y) = if b = true then x else y := by cases b <;> rfl
theorem iteR_pos {α : Type} {b : Bool} {x : b = true → α} {y : b = false → α} (h : b = true) : iteR b x y = x h := by subst h; rfl
theorem iteR_neg {α : Type} {b : Bool} {x : b = true → α} {y : b = false → α} (h : b = false) : iteR b x y = y h := by subst h; rfl
theorem y_t {α : Type} {x : true = true → α} {y : true = false → α} : iteR true x y = x rfl := (rfl)
theorem y_f {α : Type} {x : false = true → α} {y : false = false → α} : iteR false x y = y rfl := (rfl)
theorem y_same {α : Type} {b : Bool} {x : α} : iteR b (fun _ => x) (fun _ => x) = x := by cases b <;> rfl
theorem y_and {b : Bool} {g : DEnv → Res Bool} {ρ : DEnv} : andTK (.ok b) g ρ = iteR b (fun _ => g ρ) (fun _ => .ok false) := by cases b <;> rfl
theorem y_or {b : Bool} {g : DEnv → Res Bool} {ρ : DEnv} : orTK (.ok b) g ρ = iteR b (fun _ => .ok true) (fun _ => g ρ) := by cases b <;> rfl
theorem y_va {b : Bool} {g : DEnv → Res Dat} {ρ : DEnv} : andVK (.ok (.bl b)) g ρ = iteR b (fun _ => g ρ) (fun _ => .ok (.bl false)) := by cases b <;> rfl
theorem y_vo {b : Bool} {g : DEnv → Res Dat} {ρ : DEnv} : orVK (.ok (.bl b)) g ρ = iteR b (fun _ => .ok (.bl true)) (fun _ => g ρ) := by cases b <;> rfl
theorem y_vi {b : Bool} {f g : DEnv → Res Dat} {ρ : DEnv} : vifK (.ok b) f g ρ = iteR b (fun _ => f ρ) (fun _ => g ρ) := by cases b <;> rfl
theorem y_ch {b : Bool} {h : Dat → Dat → Option Dat} {y : Dat} {fc : DEnv → Res Dat} {ρ : DEnv} : chK3 h y (some (.bl b)) fc ρ = iteR b (fun _ => opK2 h y (fc ρ)) (fun _ => .ok (.bl false)) := by cases b <;> rfl
theorem y_if {b : Bool} {ρ : DEnv} {F G : DEnv → DFlow} : ifK ρ (.ok b) F G = iteR b (fun _ => F ρ) (fun _ => G ρ) := by cases b <;> rfl
theorem y_ii {b : Bool} {c : Nat} {I : DEnv → Res (List Dat)} {ρ : DEnv} : iifK c (.ok b) I ρ = iteR b (fun _ => .exc c) (fun _ => I ρ) := by cases b <;> rfl
def c3K (g h k : Dat → Dat → Option Dat) : Res Dat → (DEnv → Res Dat) → (DEnv → Res Dat) → (DEnv → Res Dat) → DEnv → Res Dat := fun x fb fc fd ρ => vChain3 g h k (fun _ => x) fb fc fd ρ
def c3K2 (g h k : Dat → Dat → Option Dat) (x : Dat) : Res Dat → (DEnv → Res Dat) → (DEnv → Res Dat) → DEnv → Res Dat := fun y fc fd ρ => vChain3 g h k (fun _ => .ok x) (fun _ => y) fc fd ρ
def c3K3 (h k : Dat → Dat → Option Dat) (y : Dat) : Option Dat → (DEnv → Res Dat) → (DEnv → Res Dat) → DEnv → Res Dat := fun z fc fd ρ => (ofO z).bind fun z => vCh3K h k fc fd ρ y z
theorem e_c3 {g h k : Dat → Dat → Option Dat} {fa fb fc fd : DEnv → Res Dat} {ρ : DEnv} : vChain3 g h k fa fb fc fd ρ = c3K g h k (fa ρ) fb fc fd ρ := (rfl)
theorem e_c31 {g h k : Dat → Dat → Option Dat} {x : Dat} {fb fc fd : DEnv → Res Dat} {ρ : DEnv} : c3K g h k (.ok x) fb fc fd ρ = c3K2 g h k x (fb ρ) fc fd ρ := (rfl)
theorem e_c32 {g h k : Dat → Dat → Option Dat} {x y : Dat} {fc fd : DEnv → Res Dat} {ρ : DEnv} : c3K2 g h k x (.ok y) fc fd ρ = c3K3 h k y (g x y) fc fd ρ := (rfl)
theorem e_c33 {h k : Dat → Dat → Option Dat} {y : Dat} {fc fd : DEnv → Res Dat} {ρ : DEnv} {b : Bool} : c3K3 h k y (some (.bl b)) fc fd ρ = iteR b (fun _ => chK2 h k y (fc ρ) fd ρ) (fun _ => .ok (.bl false)) := by cases b <;> rfl
def meK (c n : Nat) (F : List Dat → Res Dat) : Res Dat → (DEnv → Res (List Dat)) → DEnv → Res Dat := fun x fs ρ => vMeth c n F (fun _ => x) fs ρ
def meK2 (n : Nat) (F : List Dat → Res Dat) (x : Dat) : Res (List Dat) → Res Dat := fun y => y.bind fun ds => if ds.length + 1 = n then F (x :: ds) else .stuck
theorem e_me {c n : Nat} {F : List Dat → Res Dat} {fo : DEnv → Res Dat} {fs : DEnv → Res (List Dat)} {ρ : DEnv} : vMeth c n F fo fs ρ = meK c n F (fo ρ) fs ρ := (rfl)
theorem e_me1 {c n : Nat} {F : List Dat → Res Dat} {l : List Dat} {fs : DEnv → Res (List Dat)} {ρ : DEnv} : meK c n F (.ok (.obj c l)) fs ρ = meK2 n F (.obj c l) (fs ρ) := by show (if (c == c) = true then (fs ρ).bind fun ds => methK c n F ds (.obj c l) else .stuck) = _; rw [if_pos (beq_self_eq_true c)]; cases fs ρ with | ok ds => (show (if c = c ∧ ds.length + 1 = n then F (.obj c l :: ds) else .stuck) = (if ds.length + 1 = n then F (.obj c l :: ds) else .stuck); simp) | exc c => rfl | stuck => rfl
theorem e_me_0 {F : List Dat → Res Dat} {x : Dat} : meK2 1 F x (.ok []) = F (x :: []) := (rfl)
theorem e_me_1 {x0 : Dat} {F : List Dat → Res Dat} {x : Dat} : meK2 2 F x (.ok [x0]) = F (x :: [x0]) := (rfl)
theorem e_me_2 {x0 x1 : Dat} {F : List Dat → Res Dat} {x : Dat} : meK2 3 F x (.ok [x0, x1]) = F (x :: [x0, x1]) := (rfl)
theorem e_me_3 {x0 x1 x2 : Dat} {F : List Dat → Res Dat} {x : Dat} : meK2 4 F x (.ok [x0, x1, x2]) = F (x :: [x0, x1, x2]) := (rfl)
theorem e_me_4 {x0 x1 x2 x3 : Dat} {F : List Dat → Res Dat} {x : Dat} : meK2 5 F x (.ok [x0, x1, x2, x3]) = F (x :: [x0, x1, x2, x3]) := (rfl)
def pOOK (i j : Nat) (ρ : DEnv) : Res (List Dat) → (DEnv → Res (List Dat)) → DFlow := fun x g => rBind x ρ fun d => rBind (g ρ) ρ fun e => .nx ((ρ.set i (some (.lst d))).set j (some (.lst e)))
def pOOK2 (i j : Nat) (ρ : DEnv) (d : List Dat) : Res (List Dat) → DFlow := fun x => rBind x ρ fun e => .nx ((ρ.set i (some (.lst d))).set j (some (.lst e)))
theorem e_pOO {i j : Nat} {f g : DEnv → Res (List Dat)} {ρ : DEnv} : sParOO i j f g ρ = pOOK i j ρ (f ρ) g := (rfl)
theorem e_pOO1 {i j : Nat} {g : DEnv → Res (List Dat)} {ρ : DEnv} {d : List Dat} : pOOK i j ρ (.ok d) g = pOOK2 i j ρ d (g ρ) := (rfl)
theorem e_pOO2 {i j : Nat} {ρ : DEnv} {d e : List Dat} : pOOK2 i j ρ d (.ok e) = .nx ((ρ.set i (some (.lst d))).set j (some (.lst e))) := (rfl)
def p3K (i j l : Nat) (ρ : DEnv) : Res Dat → (DEnv → Res Dat) → (DEnv → Res Dat) → DFlow := fun x g h => rBind x ρ fun d => rBind (g ρ) ρ fun e => rBind (h ρ) ρ fun d3 => .nx (((ρ.set i (some d)).set j (some e)).set l (some d3))
def p3K2 (i j l : Nat) (ρ : DEnv) (d : Dat) : Res Dat → (DEnv → Res Dat) → DFlow := fun x h => rBind x ρ fun e => rBind (h ρ) ρ fun d3 => .nx (((ρ.set i (some d)).set j (some e)).set l (some d3))
def p3K3 (i j l : Nat) (ρ : DEnv) (d e : Dat) : Res Dat → DFlow := fun x => rBind x ρ fun d3 => .nx (((ρ.set i (some d)).set j (some e)).set l (some d3))
theorem e_p3 {i j l : Nat} {f g h : DEnv → Res Dat} {ρ : DEnv} : sPar3 i j l f g h ρ = p3K i j l ρ (f ρ) g h := (rfl)
theorem e_p31 {i j l : Nat} {g h : DEnv → Res Dat} {ρ : DEnv} {d : Dat} : p3K i j l ρ (.ok d) g h = p3K2 i j l ρ d (g ρ) h := (rfl)
theorem e_p32 {i j l : Nat} {h : DEnv → Res Dat} {ρ : DEnv} {d e : Dat} : p3K2 i j l ρ d (.ok e) h = p3K3 i j l ρ d e (h ρ) := (rfl)
theorem e_p33 {i j l : Nat} {ρ : DEnv} {d e d3 : Dat} : p3K3 i j l ρ d e (.ok d3) = .nx (((ρ.set i (some d)).set j (some e)).set l (some d3)) := (rfl)
theorem l_isB {a b : Bool} : isBD (.bl a) (.bl b) = some (.bl (decide (a = b))) := (rfl)
theorem l_isnB {a b : Bool} : isnotBD (.bl a) (.bl b) = some (.bl (!decide (a = b))) := (rfl)
theorem m_bl {b c d : Bool} : iteR b (fun _ => Res.ok c) (fun _ => Res.ok d) = .ok (bif b then c else d) := by cases b <;> rfl
theorem m_D {b c d : Bool} : iteR b (fun _ => Res.ok (Dat.bl c)) (fun _ => Res.ok (Dat.bl d)) = .ok (.bl (bif b then c else d)) := by cases b <;> rfl
theorem m_I {b : Bool} {c d : Int} : iteR b (fun _ => Res.ok (Dat.int c)) (fun _ => Res.ok (Dat.int d)) = .ok (.int (bif b then c else d)) := by cases b <;> rfl
theorem m_oD {b c d : Bool} : iteR b (fun _ => some (Dat.bl c)) (fun _ => some (Dat.bl d)) = some (.bl (bif b then c else d)) := by cases b <;> rfl
theorem m_rt {b c d : Bool} : iteR b (fun _ => DFlow.rt (Dat.bl c)) (fun _ => DFlow.rt (Dat.bl d)) = .rt (.bl (bif b then c else d)) := by cases b <;> rfl
theorem c_1 {b c : Bool} : (bif b then c else false) = (b && c) := by cases b <;> cases c <;> rfl
theorem c_2 {b c : Bool} : (bif b then true else c) = (b || c) := by cases b <;> cases c <;> rfl
theorem c_3 {b c : Bool} : (bif b then false else c) = (!b && c) := by cases b <;> cases c <;> rfl
theorem c_4 {b c : Bool} : (bif b then c else true) = (!b || c) := by cases b <;> cases c <;> rfl
theorem c_5 {b : Bool} : (bif b then true else false) = b := by cases b <;> rfl
theorem c_6 {b : Bool} : (bif b then false else true) = !b := by cases b <;> rfl
theorem s_op {g : Dat → Dat → Option Dat}{f : DEnv → Res Dat}{ρ : DEnv} {b : Bool} {x : b = true → Res Dat} {y : b = false → Res Dat} : opK g (iteR b x y) f ρ = iteR b (fun h => opK g (x h) f ρ) (fun h => opK g (y h) f ρ) := by cases b <;> rfl
theorem s_op2 {g : Dat → Dat → Option Dat}{z : Dat} {b : Bool} {x : b = true → Res Dat} {y : b = false → Res Dat} : opK2 g z (iteR b x y) = iteR b (fun h => opK2 g z (x h)) (fun h => opK2 g z (y h)) := by cases b <;> rfl
theorem s_v1 {g : Dat → Option Dat} {b : Bool} {x : b = true → Res Dat} {y : b = false → Res Dat} : v1K g (iteR b x y) = iteR b (fun h => v1K g (x h)) (fun h => v1K g (y h)) := by cases b <;> rfl
theorem s_tst  {b : Bool} {x : b = true → Res Dat} {y : b = false → Res Dat} : tstK (iteR b x y) = iteR b (fun h => tstK (x h)) (fun h => tstK (y h)) := by cases b <;> rfl
theorem s_tru  {b : Bool} {x : b = true → Res Dat} {y : b = false → Res Dat} : truK (iteR b x y) = iteR b (fun h => truK (x h)) (fun h => truK (y h)) := by cases b <;> rfl
theorem s_nt  {b : Bool} {x : b = true → Res Bool} {y : b = false → Res Bool} : ntK (iteR b x y) = iteR b (fun h => ntK (x h)) (fun h => ntK (y h)) := by cases b <;> rfl
theorem s_and {g : DEnv → Res Bool}{ρ : DEnv} {b : Bool} {x : b = true → Res Bool} {y : b = false → Res Bool} : andTK (iteR b x y) g ρ = iteR b (fun h => andTK (x h) g ρ) (fun h => andTK (y h) g ρ) := by cases b <;> rfl
theorem s_or {g : DEnv → Res Bool}{ρ : DEnv} {b : Bool} {x : b = true → Res Bool} {y : b = false → Res Bool} : orTK (iteR b x y) g ρ = iteR b (fun h => orTK (x h) g ρ) (fun h => orTK (y h) g ρ) := by cases b <;> rfl
theorem s_va {f : DEnv → Res Dat}{ρ : DEnv} {b : Bool} {x : b = true → Res Dat} {y : b = false → Res Dat} : andVK (iteR b x y) f ρ = iteR b (fun h => andVK (x h) f ρ) (fun h => andVK (y h) f ρ) := by cases b <;> rfl
theorem s_vo {f : DEnv → Res Dat}{ρ : DEnv} {b : Bool} {x : b = true → Res Dat} {y : b = false → Res Dat} : orVK (iteR b x y) f ρ = iteR b (fun h => orVK (x h) f ρ) (fun h => orVK (y h) f ρ) := by cases b <;> rfl
theorem s_vi {f g : DEnv → Res Dat}{ρ : DEnv} {b : Bool} {x : b = true → Res Bool} {y : b = false → Res Bool} : vifK (iteR b x y) f g ρ = iteR b (fun h => vifK (x h) f g ρ) (fun h => vifK (y h) f g ρ) := by cases b <;> rfl
theorem s_vl  {b : Bool} {x : b = true → Res (List Dat)} {y : b = false → Res (List Dat)} : vlK (iteR b x y) = iteR b (fun h => vlK (x h)) (fun h => vlK (y h)) := by cases b <;> rfl
theorem s_cons {g : DEnv → Res (List Dat)}{ρ : DEnv} {b : Bool} {x : b = true → Res Dat} {y : b = false → Res Dat} : consK (iteR b x y) g ρ = iteR b (fun h => consK (x h) g ρ) (fun h => consK (y h) g ρ) := by cases b <;> rfl
theorem s_cons2 {z : Dat} {b : Bool} {x : b = true → Res (List Dat)} {y : b = false → Res (List Dat)} : consK2 z (iteR b x y) = iteR b (fun h => consK2 z (x h)) (fun h => consK2 z (y h)) := by cases b <;> rfl
theorem s_tup  {b : Bool} {x : b = true → Res (List Dat)} {y : b = false → Res (List Dat)} : tupK (iteR b x y) = iteR b (fun h => tupK (x h)) (fun h => tupK (y h)) := by cases b <;> rfl
theorem s_lst  {b : Bool} {x : b = true → Res (List Dat)} {y : b = false → Res (List Dat)} : lstK (iteR b x y) = iteR b (fun h => lstK (x h)) (fun h => lstK (y h)) := by cases b <;> rfl
theorem s_cb {g : List Dat → Option Dat} {b : Bool} {x : b = true → Res (List Dat)} {y : b = false → Res (List Dat)} : cbK g (iteR b x y) = iteR b (fun h => cbK g (x h)) (fun h => cbK g (y h)) := by cases b <;> rfl
theorem s_ca {n : Nat} {F : List Dat → Res Dat} {b : Bool} {x : b = true → Res (List Dat)} {y : b = false → Res (List Dat)} : caK n F (iteR b x y) = iteR b (fun h => caK n F (x h)) (fun h => caK n F (y h)) := by cases b <;> rfl
theorem s_ch {g g2 : Dat → Dat → Option Dat} {fb fc : DEnv → Res Dat}{ρ : DEnv} {b : Bool} {x : b = true → Res Dat} {y : b = false → Res Dat} : chK g g2 (iteR b x y) fb fc ρ = iteR b (fun h => chK g g2 (x h) fb fc ρ) (fun h => chK g g2 (y h) fb fc ρ) := by cases b <;> rfl
theorem s_ch2 {g g2 : Dat → Dat → Option Dat} {z : Dat}{f : DEnv → Res Dat}{ρ : DEnv} {b : Bool} {x : b = true → Res Dat} {y : b = false → Res Dat} : chK2 g g2 z (iteR b x y) f ρ = iteR b (fun h => chK2 g g2 z (x h) f ρ) (fun h => chK2 g g2 z (y h) f ρ) := by cases b <;> rfl
theorem s_ch3 {g : Dat → Dat → Option Dat}{z : Dat}{f : DEnv → Res Dat}{ρ : DEnv} {b : Bool} {x : b = true → Option Dat} {y : b = false → Option Dat} : chK3 g z (iteR b x y) f ρ = iteR b (fun h => chK3 g z (x h) f ρ) (fun h => chK3 g z (y h) f ρ) := by cases b <;> rfl
theorem s_sl {lo hi : Res (Option Int)} {b : Bool} {x : b = true → Res Dat} {y : b = false → Res Dat} : slK (iteR b x y) lo hi = iteR b (fun h => slK (x h) lo hi) (fun h => slK (y h) lo hi) := by cases b <;> rfl
theorem s_sl2 {z : Dat} {hi : Res (Option Int)} {b : Bool} {x : b = true → Res (Option Int)} {y : b = false → Res (Option Int)} : slK (.ok z) (iteR b x y) hi = iteR b (fun h => slK (.ok z) (x h) hi) (fun h => slK (.ok z) (y h) hi) := by cases b <;> rfl
theorem s_sl3 {z : Dat} {lo : Option Int} {b : Bool} {x : b = true → Res (Option Int)} {y : b = false → Res (Option Int)} : slK (.ok z) (.ok lo) (iteR b x y) = iteR b (fun h => slK (.ok z) (.ok lo) (x h)) (fun h => slK (.ok z) (.ok lo) (y h)) := by cases b <;> rfl
theorem s_os  {b : Bool} {x : b = true → Res Dat} {y : b = false → Res Dat} : osK (iteR b x y) = iteR b (fun h => osK (x h)) (fun h => osK (y h)) := by cases b <;> rfl
theorem s_ga {k : List Dat → Res (List Dat)} {b : Bool} {x : b = true → Res (List Dat)} {y : b = false → Res (List Dat)} : gaK k (iteR b x y) = iteR b (fun h => gaK k (x h)) (fun h => gaK k (y h)) := by cases b <;> rfl
theorem s_gs  {b : Bool} {x : b = true → Res Dat} {y : b = false → Res Dat} : gsK (iteR b x y) = iteR b (fun h => gsK (x h)) (fun h => gsK (y h)) := by cases b <;> rfl
theorem s_ge  {b : Bool} {x : b = true → Res Dat} {y : b = false → Res Dat} : geK (iteR b x y) = iteR b (fun h => geK (x h)) (fun h => geK (y h)) := by cases b <;> rfl
theorem s_lc {asg : Dat → DEnv → Option DEnv} {vs : List Nat} {t : DEnv → Res Bool}{f : DEnv → Res Dat}{ρ : DEnv} {b : Bool} {x : b = true → Res (List Dat)} {y : b = false → Res (List Dat)} : lcK asg vs t f ρ (iteR b x y) = iteR b (fun h => lcK asg vs t f ρ (x h)) (fun h => lcK asg vs t f ρ (y h)) := by cases b <;> rfl
theorem s_seq {F : DEnv → DFlow} {b : Bool} {x : b = true → DFlow} {y : b = false → DFlow} : seqK (iteR b x y) F = iteR b (fun h => seqK (x h) F) (fun h => seqK (y h) F) := by cases b <;> rfl
theorem s_asg {i : Nat}{ρ : DEnv} {b : Bool} {x : b = true → Res Dat} {y : b = false → Res Dat} : asgK i ρ (iteR b x y) = iteR b (fun h => asgK i ρ (x h)) (fun h => asgK i ρ (y h)) := by cases b <;> rfl
theorem s_asgO {i : Nat}{ρ : DEnv} {b : Bool} {x : b = true → Res (List Dat)} {y : b = false → Res (List Dat)} : asgOK i ρ (iteR b x y) = iteR b (fun h => asgOK i ρ (x h)) (fun h => asgOK i ρ (y h)) := by cases b <;> rfl
theorem s_asgT {asg : Dat → DEnv → Option DEnv}{ρ : DEnv} {b : Bool} {x : b = true → Res Dat} {y : b = false → Res Dat} : asgTK asg ρ (iteR b x y) = iteR b (fun h => asgTK asg ρ (x h)) (fun h => asgTK asg ρ (y h)) := by cases b <;> rfl
theorem s_par {i j : Nat}{f : DEnv → Res Dat}{ρ : DEnv} {b : Bool} {x : b = true → Res Dat} {y : b = false → Res Dat} : parK i j ρ (iteR b x y) f = iteR b (fun h => parK i j ρ (x h) f) (fun h => parK i j ρ (y h) f) := by cases b <;> rfl
theorem s_par2 {i j : Nat} {z : Dat}{ρ : DEnv} {b : Bool} {x : b = true → Res Dat} {y : b = false → Res Dat} : parK2 i j ρ z (iteR b x y) = iteR b (fun h => parK2 i j ρ z (x h)) (fun h => parK2 i j ρ z (y h)) := by cases b <;> rfl
theorem s_parO {i j : Nat}{f : DEnv → Res Dat}{ρ : DEnv} {b : Bool} {x : b = true → Res (List Dat)} {y : b = false → Res (List Dat)} : parOK i j ρ (iteR b x y) f = iteR b (fun h => parOK i j ρ (x h) f) (fun h => parOK i j ρ (y h) f) := by cases b <;> rfl
theorem s_drop {ρ : DEnv} {b : Bool} {x : b = true → Res Dat} {y : b = false → Res Dat} : dropK ρ (iteR b x y) = iteR b (fun h => dropK ρ (x h)) (fun h => dropK ρ (y h)) := by cases b <;> rfl
theorem s_ret {ρ : DEnv} {b : Bool} {x : b = true → Res Dat} {y : b = false → Res Dat} : retK ρ (iteR b x y) = iteR b (fun h => retK ρ (x h)) (fun h => retK ρ (y h)) := by cases b <;> rfl
theorem s_if {ρ : DEnv}{F G : DEnv → DFlow} {b : Bool} {x : b = true → Res Bool} {y : b = false → Res Bool} : ifK ρ (iteR b x y) F G = iteR b (fun h => ifK ρ (x h) F G) (fun h => ifK ρ (y h) F G) := by cases b <;> rfl
theorem s_aug {i : Nat} {z : Dat}{g : Dat → Dat → Option Dat}{ρ : DEnv} {b : Bool} {x : b = true → Res Dat} {y : b = false → Res Dat} : augK i g ρ (.ok z) (iteR b x y) = iteR b (fun h => augK i g ρ (.ok z) (x h)) (fun h => augK i g ρ (.ok z) (y h)) := by cases b <;> rfl
theorem s_aug2 {i : Nat}{ρ : DEnv} {b : Bool} {x : b = true → Option Dat} {y : b = false → Option Dat} : augK2 i ρ (iteR b x y) = iteR b (fun h => augK2 i ρ (x h)) (fun h => augK2 i ρ (y h)) := by cases b <;> rfl
theorem s_app {i : Nat} {l : List Dat}{ρ : DEnv} {b : Bool} {x : b = true → Res Dat} {y : b = false → Res Dat} : appK i ρ (.ok (.lst l)) (iteR b x y) = iteR b (fun h => appK i ρ (.ok (.lst l)) (x h)) (fun h => appK i ρ (.ok (.lst l)) (y h)) := by cases b <;> rfl
theorem s_ext {i : Nat} {l : List Dat}{ρ : DEnv} {b : Bool} {x : b = true → Res Dat} {y : b = false → Res Dat} : exK i ρ (.ok (.lst l)) (iteR b x y) = iteR b (fun h => exK i ρ (.ok (.lst l)) (x h)) (fun h => exK i ρ (.ok (.lst l)) (y h)) := by cases b <;> rfl
theorem s_for {asg : Dat → DEnv → Option DEnv} {F : DEnv → DFlow}{ρ : DEnv} {b : Bool} {x : b = true → Res (List Dat)} {y : b = false → Res (List Dat)} : forK asg F ρ (iteR b x y) = iteR b (fun h => forK asg F ρ (x h)) (fun h => forK asg F ρ (y h)) := by cases b <;> rfl
theorem s_fs {asg : Dat → DEnv → Option DEnv} {F : DEnv → DFlow} {r : List Dat} {b : Bool} {x : b = true → DFlow} {y : b = false → DFlow} : fsK asg F r (iteR b x y) = iteR b (fun h => fsK asg F r (x h)) (fun h => fsK asg F r (y h)) := by cases b <;> rfl
theorem s_try {hs : HdL} {b : Bool} {x : b = true → DFlow} {y : b = false → DFlow} : tryK hs (iteR b x y) = iteR b (fun h => tryK hs (x h)) (fun h => tryK hs (y h)) := by cases b <;> rfl
theorem s_try1 {m : Nat → Bool} {G : DEnv → DFlow} {b : Bool} {x : b = true → DFlow} {y : b = false → DFlow} : try1K m G (iteR b x y) = iteR b (fun h => try1K m G (x h)) (fun h => try1K m G (y h)) := by cases b <;> rfl
theorem s_tA {l : CatL} {b : Bool} {x : b = true → DFlow} {y : b = false → DFlow} : tryAK l (iteR b x y) = iteR b (fun h => tryAK l (x h)) (fun h => tryAK l (y h)) := by cases b <;> rfl
theorem s_c3 {g g2 g3 : Dat → Dat → Option Dat} {fb fc fd : DEnv → Res Dat}{ρ : DEnv} {b : Bool} {x : b = true → Res Dat} {y : b = false → Res Dat} : c3K g g2 g3 (iteR b x y) fb fc fd ρ = iteR b (fun h => c3K g g2 g3 (x h) fb fc fd ρ) (fun h => c3K g g2 g3 (y h) fb fc fd ρ) := by cases b <;> rfl
theorem s_c32 {g g2 g3 : Dat → Dat → Option Dat} {z : Dat} {fc fd : DEnv → Res Dat}{ρ : DEnv} {b : Bool} {x : b = true → Res Dat} {y : b = false → Res Dat} : c3K2 g g2 g3 z (iteR b x y) fc fd ρ = iteR b (fun h => c3K2 g g2 g3 z (x h) fc fd ρ) (fun h => c3K2 g g2 g3 z (y h) fc fd ρ) := by cases b <;> rfl
theorem s_end  {b : Bool} {x : b = true → DFlow} {y : b = false → DFlow} : endD (iteR b x y) = iteR b (fun h => endD (x h)) (fun h => endD (y h)) := by cases b <;> rfl
theorem s_ofO {α : Type} {b : Bool} {x : b = true → Option α} {y : b = false → Option α} : ofO (iteR b x y) = iteR b (fun h => ofO (x h)) (fun h => ofO (y h)) := by cases b <;> rfl
theorem s_mk2 {c : Nat} {b : Bool} {x : b = true → Res (List Dat)} {y : b = false → Res (List Dat)} : mk2K c (iteR b x y) = iteR b (fun h => mk2K c (x h)) (fun h => mk2K c (y h)) := by cases b <;> rfl
theorem s_mv {c n m : Nat} {I : DEnv → Res (List Dat)} {b : Bool} {x : b = true → Res (List Dat)} {y : b = false → Res (List Dat)} : mvK c n m I (iteR b x y) = iteR b (fun h => mvK c n m I (x h)) (fun h => mvK c n m I (y h)) := by cases b <;> rfl
theorem s_ifld {I : DEnv → Res (List Dat)}{ρ : DEnv} {b : Bool} {x : b = true → Res Dat} {y : b = false → Res Dat} : ifldK (iteR b x y) I ρ = iteR b (fun h => ifldK (x h) I ρ) (fun h => ifldK (y h) I ρ) := by cases b <;> rfl
theorem s_iif {c : Nat} {I : DEnv → Res (List Dat)}{ρ : DEnv} {b : Bool} {x : b = true → Res Bool} {y : b = false → Res Bool} : iifK c (iteR b x y) I ρ = iteR b (fun h => iifK c (x h) I ρ) (fun h => iifK c (y h) I ρ) := by cases b <;> rfl
def m2K (k : List Dat → Dat → Option Dat) (a b : Res Dat) : Res Dat := a.bind fun x => if isSq x = true then b.bind fun y => ofO (onSq k x y) else .stuck
theorem e_m2 {k : List Dat → Dat → Option Dat} {fo fa : DEnv → Res Dat} {ρ : DEnv} : vM2 k fo fa ρ = m2K k (fo ρ) (fa ρ) := (rfl)
theorem e_m2t {k : List Dat → Dat → Option Dat} {l : List Dat} {d : Dat} : m2K k (.ok (.tup l)) (.ok d) = ofO (k l d) := (rfl)
theorem e_m2l {k : List Dat → Dat → Option Dat} {l : List Dat} {d : Dat} : m2K k (.ok (.lst l)) (.ok d) = ofO (k l d) := (rfl)
def oneK (f : DEnv → Res Dat) : Option DEnv → Res Dat
  | some ρ => noExc (f ρ)
  | none => .stuck
def oneT (f : DEnv → Res Bool) : Option DEnv → Res Bool
  | some ρ => noExc (f ρ)
  | none => .stuck
theorem o_k {f : DEnv → Res Dat} {ρ : DEnv} : oneK f (some ρ) = noExc (f ρ) := (rfl)
theorem o_t {f : DEnv → Res Bool} {ρ : DEnv} : oneT f (some ρ) = noExc (f ρ) := (rfl)
theorem o_n {α : Type} {a : α} : noExc (.ok a) = .ok a := (rfl)
theorem s_noE {α : Type} {b : Bool} {x : b = true → Res α} {y : b = false → Res α} : noExc (iteR b x y) = iteR b (fun h => noExc (x h)) (fun h => noExc (y h)) := by cases b <;> rfl
def mapR {α : Type} : (l : List α) → (∀ a, a ∈ l → Res Dat) → Res (List Dat)
  | [], _ => .ok []
  | a :: r, f => (f a List.mem_cons_self).bind fun y => (mapR r fun b h => f b (List.mem_cons_of_mem _ h)).bind fun ys => .ok (y :: ys)
def filR {α : Type} : (l : List α) → (∀ a, a ∈ l → Res Bool) → (∀ a, a ∈ l → Res Dat) → Res (List Dat)
  | [], _, _ => .ok []
  | a :: r, t, f => (t a List.mem_cons_self).bind fun b => if b = true then (f a List.mem_cons_self).bind fun y => (filR r (fun b h => t b (List.mem_cons_of_mem _ h)) fun b h => f b (List.mem_cons_of_mem _ h)).bind fun ys => .ok (y :: ys)
      else filR r (fun b h => t b (List.mem_cons_of_mem _ h)) fun b h => f b (List.mem_cons_of_mem _ h)
theorem lc_map {α : Type} {asg : Dat → DEnv → Option DEnv} {f : DEnv → Res Dat} {ρ : DEnv} {e : α → Dat} {l : List α} : lcL asg tYesD f ρ (l.map e) = mapR l fun a _ => oneK f (asg (e a) ρ) := by
  induction l with
  | nil => rfl
  | cons a r ih =>
    show lcL asg tYesD f ρ (e a :: r.map e) = (oneK f (asg (e a) ρ)).bind fun y => (mapR r fun b _ => oneK f (asg (e b) ρ)).bind fun ys => .ok (y :: ys)
    rw [← ih]
    conv => lhs; unfold lcL
    cases asg (e a) ρ with
    | none => rfl
    | some ρ1 => rfl
theorem lc_fil {α : Type} {asg : Dat → DEnv → Option DEnv} {t : DEnv → Res Bool} {f : DEnv → Res Dat} {ρ : DEnv} {e : α → Dat} {l : List α} (n : ∀ a ∈ l, ∃ ρ1, asg (e a) ρ = some ρ1) : lcL asg t f ρ (l.map e) = filR l (fun a _ => oneT t (asg (e a) ρ)) fun a _ => oneK f (asg (e a) ρ) := by
  induction l with
  | nil => rfl
  | cons a r ih =>
    have ih := ih fun a h => n a (List.mem_cons_of_mem _ h)
    obtain ⟨ρ1, h1⟩ := n a List.mem_cons_self
    show lcL asg t f ρ (e a :: r.map e) = (oneT t (asg (e a) ρ)).bind fun b => if b = true then (oneK f (asg (e a) ρ)).bind fun y => (filR r (fun b _ => oneT t (asg (e b) ρ)) fun b _ => oneK f (asg (e b) ρ)).bind fun ys => .ok (y :: ys) else filR r (fun b _ => oneT t (asg (e b) ρ)) fun b _ => oneK f (asg (e b) ρ)
    rw [← ih]
    conv => lhs; unfold lcL
    rw [h1]
    rfl
theorem lc_filN {α : Type} {i : Nat} {t : DEnv → Res Bool} {f : DEnv → Res Dat} {ρ : DEnv} {e : α → Dat} {l : List α} : lcL (aName i) t f ρ (l.map e) = filR l (fun a _ => oneT t (aName i (e a) ρ)) fun a _ => oneK f (aName i (e a) ρ) := lc_fil fun a _ => ⟨_, rfl⟩
theorem mapR_ok {α : Type} {l : List α} {g : α → Dat} : mapR l (fun a _ => .ok (g a)) = .ok (l.map g) := by
  induction l with
  | nil => rfl
  | cons a r ih =>
    show (mapR r fun a _ => Res.ok (g a)).bind (fun ys => .ok (g a :: ys)) = _
    rw [ih]
    rfl
theorem filR_ok {α : Type} {l : List α} {p : α → Bool} {g : α → Dat} : filR l (fun a _ => .ok (p a)) (fun a _ => .ok (g a)) = .ok ((l.filter p).map g) := by
  induction l with
  | nil => rfl
  | cons a r ih =>
    show (if p a = true then (filR r (fun a _ => .ok (p a)) fun a _ => Res.ok (g a)).bind (fun ys => .ok (g a :: ys)) else filR r (fun a _ => .ok (p a)) fun a _ => Res.ok (g a)) = _
    rw [ih]
    cases q : p a with
    | false => rw [List.filter_cons_of_neg (by rw [q]; decide)]; rfl
    | true => rw [List.filter_cons_of_pos q]; rfl
theorem filR_out {α : Type} {l : List α} {p : α → Bool} {f : ∀ a, a ∈ l → Res Dat} (g : α → Dat) (h : ∀ a (m : a ∈ l), p a = true → f a m = .ok (g a)) : filR l (fun a _ => .ok (p a)) f = .ok ((l.filter p).map g) := by
  induction l with
  | nil => rfl
  | cons a r ih =>
    have ih := ih (f := fun b h => f b (List.mem_cons_of_mem _ h)) fun b m => h b (List.mem_cons_of_mem _ m)
    unfold filR
    show (if p a = true then _ else _) = _
    rw [ih]
    cases q : p a with
    | false => rw [List.filter_cons_of_neg (by rw [q]; decide)]; rfl
    | true =>
      rw [List.filter_cons_of_pos q, h a List.mem_cons_self q]; rfl
def consR (a : Res Dat) (b : Res (List Dat)) : Res (List Dat) := a.bind fun y => b.bind fun ys => .ok (y :: ys)
theorem lc_cons {asg : Dat → DEnv → Option DEnv} {f : DEnv → Res Dat} {ρ : DEnv} {d : Dat} {r : List Dat} : lcL asg tYesD f ρ (d :: r) = consR (oneK f (asg d ρ)) (lcL asg tYesD f ρ r) := by
  show lcL asg tYesD f ρ (d :: r) = _
  conv => lhs; unfold lcL
  cases asg d ρ with
  | none => rfl
  | some ρ1 => rfl
theorem lc_nil {asg : Dat → DEnv → Option DEnv} {t : DEnv → Res Bool} {f : DEnv → Res Dat} {ρ : DEnv} : lcL asg t f ρ [] = .ok [] := (rfl)
theorem lc_c1 {y : Dat} {ys : List Dat} : consR (.ok y) (.ok ys) = .ok (y :: ys) := (rfl)
theorem lc_rng {asg : Dat → DEnv → Option DEnv} {f : DEnv → Res Dat} {ρ : DEnv} {lo : Int} {n : Nat} : lcL asg tYesD f ρ (rng lo n) = mapR (List.range n) fun a _ => oneK f (asg (.int (lo + (a : Nat))) ρ) := lc_map
theorem lc_id {asg : Dat → DEnv → Option DEnv} {f : DEnv → Res Dat} {ρ : DEnv} {l : List Dat} : lcL asg tYesD f ρ l = mapR l fun d _ => oneK f (asg d ρ) := by
  have h := lc_map (asg := asg) (f := f) (ρ := ρ) (e := fun d : Dat => d) (l := l)
  rw [List.map_id'] at h
  exact h
theorem lc_rngF {i : Nat} {t : DEnv → Res Bool} {f : DEnv → Res Dat} {ρ : DEnv} {lo : Int} {n : Nat} : lcL (aName i) t f ρ (rng lo n) = filR (List.range n) (fun a _ => oneT t (aName i (.int (lo + (a : Nat))) ρ)) fun a _ => oneK f (aName i (.int (lo + (a : Nat))) ρ) := lc_filN
def appR (a b : Res (List Dat)) : Res (List Dat) := a.bind fun x => b.bind fun y => .ok (x ++ y)
theorem lc_app {asg : Dat → DEnv → Option DEnv} {f : DEnv → Res Dat} {ρ : DEnv} {l m : List Dat} : lcL asg tYesD f ρ (l ++ m) = appR (lcL asg tYesD f ρ l) (lcL asg tYesD f ρ m) := by
  induction l with
  | nil => show lcL asg tYesD f ρ m = (lcL asg tYesD f ρ m).bind fun y => .ok y; cases lcL asg tYesD f ρ m <;> rfl
  | cons d r ih =>
    rw [List.cons_append, lc_cons, lc_cons, ih]
    cases oneK f (asg d ρ) with
    | ok y =>
      cases lcL asg tYesD f ρ r with
      | ok x => cases lcL asg tYesD f ρ m <;> rfl
      | exc c => rfl
      | stuck => rfl
    | exc c => rfl
    | stuck => rfl
def andO (b : Bool) (x : Option Dat) : Option Dat := x.bind fun d => match d with
  | .bl c => some (.bl (b && c))
  | _ => none
def orO (b : Bool) (x : Option Dat) : Option Dat := x.bind fun d => match d with
  | .bl c => some (.bl (b || c))
  | _ => none
theorem all_c {b : Bool} {r : List Dat} : allD [.lst (.bl b :: r)] = andO b (allD [.lst r]) := by
  show ((boolsD r).map (b :: ·)).map _ = andO b ((boolsD r).map _)
  cases boolsD r <;> rfl
theorem any_c {b : Bool} {r : List Dat} : anyD [.lst (.bl b :: r)] = orO b (anyD [.lst r]) := by
  show ((boolsD r).map (b :: ·)).map _ = orO b ((boolsD r).map _)
  cases boolsD r <;> rfl
theorem andO_and {b c : Bool} {x : Option Dat} : andO b (andO c x) = andO (b && c) x := by
  cases x with
  | none => rfl
  | some d => cases d <;> first | rfl | (cases b <;> cases c <;> rfl)
theorem orO_or {b c : Bool} {x : Option Dat} : orO b (orO c x) = orO (b || c) x := by
  cases x with
  | none => rfl
  | some d => cases d <;> first | rfl | (cases b <;> cases c <;> rfl)
theorem all_a {α : Type} {p : α → Bool} {l : List α} {r : List Dat} : allD [.lst ((l.map fun a => Dat.bl (p a)) ++ r)] = andO (l.all p) (allD [.lst r]) := by
  induction l with
  | nil =>
    show allD [.lst r] = andO true (allD [.lst r])
    show (boolsD r).map _ = andO true ((boolsD r).map _)
    cases boolsD r <;> rfl
  | cons a t ih => rw [List.map_cons, List.cons_append, all_c, ih, andO_and]; rfl
theorem any_a {α : Type} {p : α → Bool} {l : List α} {r : List Dat} : anyD [.lst ((l.map fun a => Dat.bl (p a)) ++ r)] = orO (l.any p) (anyD [.lst r]) := by
  induction l with
  | nil =>
    show anyD [.lst r] = orO false (anyD [.lst r])
    show (boolsD r).map _ = orO false ((boolsD r).map _)
    cases boolsD r <;> rfl
  | cons a t ih => rw [List.map_cons, List.cons_append, any_c, ih, orO_or]; rfl
theorem appR_ok {x y : List Dat} : appR (.ok x) (.ok y) = .ok (x ++ y) := (rfl)
theorem andO_ok {b c : Bool} : andO b (some (.bl c)) = some (.bl (b && c)) := (rfl)
theorem orO_ok {b c : Bool} : orO b (some (.bl c)) = some (.bl (b || c)) := (rfl)
theorem all_0 : allD [.lst []] = some (.bl true) := (rfl)
theorem any_0 : anyD [.lst []] = some (.bl false) := (rfl)
def okS (z : Str) : Bool := z.cps.all fun c => decide (c < 0x110000)
theorem l_eqs {z w : Str} (h : okS z = true) (h2 : okS w = true) : eqD (.str z) (.str w) = some (.bl (z == w)) := by
  unfold eqD
  rw [show shp 8 (.str z) = true from h, show shp 8 (.str w) = true from h2]
  rfl
theorem l_nes {z w : Str} (h : okS z = true) (h2 : okS w = true) : neD (.str z) (.str w) = some (.bl (!(z == w))) := by
  unfold neD
  rw [show shp 8 (.str z) = true from h, show shp 8 (.str w) = true from h2]
  rfl
theorem l_eqt {z w : Str} (h : okS z = true) (h2 : okS w = true) : eqD (.tup [.str z]) (.tup [.str w]) = some (.bl (z == w)) := by
  unfold eqD
  rw [show shp 8 (.tup [.str z]) = (okS z && true) from rfl, show shp 8 (.tup [.str w]) = (okS w && true) from rfl, h, h2]
  show some (Dat.bl ((z == w) && true)) = _
  rw [Bool.and_true]
theorem lit_t {a b : String} (h : (Str.ofString a == Str.ofString b) = true) : (Str.ofString a == Str.ofString b) = true := h
theorem lit_f {a b : String} (h : (Str.ofString a == Str.ofString b) = false) : (Str.ofString a == Str.ofString b) = false := h
def notO (x : Option Dat) : Option Dat := x.bind fun d => match d with
  | .bl c => some (.bl (!c))
  | _ => none
theorem in_ti {n m : Int} {r : List Dat} : inD false (.int n) (.tup (.int m :: r)) = orO (decide (n = m)) (inD false (.int n) (.tup r)) := by
  show (if (isFlat (.int n) && (isFlat (.int m) && r.all isFlat)) = true then some (Dat.bl ((m == n) || r.any fun y => eqvD y (.int n))) else none) = orO _ (if (isFlat (.int n) && r.all isFlat) = true then some (Dat.bl (r.any fun y => eqvD y (.int n))) else none)
  rw [l_eqb, show decide (m = n) = decide (n = m) from decide_eq_decide.mpr eq_comm]
  cases r.all isFlat <;> rfl
theorem in_ts {n m : Str} {r : List Dat} : inD false (.str n) (.tup (.str m :: r)) = orO (m == n) (inD false (.str n) (.tup r)) := by
  show (if (isFlat (.str n) && (isFlat (.str m) && r.all isFlat)) = true then some (Dat.bl ((m == n) || r.any fun y => eqvD y (.str n))) else none) = orO _ (if (isFlat (.str n) && r.all isFlat) = true then some (Dat.bl (r.any fun y => eqvD y (.str n))) else none)
  cases r.all isFlat <;> rfl
theorem in_li {n m : Int} {r : List Dat} : inD false (.int n) (.lst (.int m :: r)) = orO (decide (n = m)) (inD false (.int n) (.lst r)) := by
  show (if (true && (true && r.all (shp 7))) = true then some (Dat.bl ((m == n) || r.any fun y => eqvD y (.int n))) else none) = orO _ (if (true && r.all (shp 7)) = true then some (Dat.bl (r.any fun y => eqvD y (.int n))) else none)
  rw [l_eqb, show decide (m = n) = decide (n = m) from decide_eq_decide.mpr eq_comm]
  cases r.all (shp 7) <;> rfl
theorem in_ls {n m : Str} {r : List Dat} (h : okS m = true) : inD false (.str n) (.lst (.str m :: r)) = orO (m == n) (inD false (.str n) (.lst r)) := by
  show (if (okS n && (okS m && r.all (shp 7))) = true then some (Dat.bl ((m == n) || r.any fun y => eqvD y (.str n))) else none) = orO _ (if (okS n && r.all (shp 7)) = true then some (Dat.bl (r.any fun y => eqvD y (.str n))) else none)
  rw [h]
  cases okS n <;> cases r.all (shp 7) <;> rfl
theorem in_t0 {n : Int} : inD false (.int n) (.tup []) = some (.bl false) := rfl
theorem in_l0 {n : Int} : inD false (.int n) (.lst []) = some (.bl false) := rfl
theorem in_t0s {n : Str} : inD false (.str n) (.tup []) = some (.bl false) := rfl
theorem in_l0s {n : Str} (h : okS n = true) : inD false (.str n) (.lst []) = some (.bl false) := by
  show (if (okS n && true) = true then some (Dat.bl false) else none) = _
  rw [h]
  rfl
theorem in_lst {x : Dat} {l : List Dat} (h : shp 8 x = true) (h2 : shp 8 (.lst l) = true) : inD false x (.lst l) = some (.bl (l.any fun y => eqvD y x)) := by
  cases x <;> first | (cases h; done) | (show (if (shp 8 _ && shp 8 (.lst l)) = true then some (Dat.bl (l.any _)) else none) = _; rw [h, h2]; rfl)
theorem in_neg {x y : Dat} : inD true x y = notO (inD false x y) := by
  unfold inD
  split
  · split <;> rfl
  · split <;> rfl
  · rename_i x z
    cases oneIn x z <;> rfl
  · rfl
theorem any_eqI {n : Int} {l : List Int} : ((l.map Dat.int).any fun y => eqvD y (.int n)) = decide (n ∈ l) := by
  induction l with
  | nil => rfl
  | cons m r ih =>
    rw [List.map_cons, List.any_cons, ih]
    show ((m == n) || decide (n ∈ r)) = _
    rw [l_eqb]
    rw [show decide (m = n) = decide (n = m) from decide_eq_decide.mpr eq_comm]
    by_cases h : n = m <;> by_cases h2 : n ∈ r <;> simp [h, h2]
theorem in_tm {n : Int} {l : List Int} : inD false (.int n) (.tup (l.map .int)) = some (.bl (decide (n ∈ l))) := by
  show (if (true && (l.map Dat.int).all isFlat) = true then some (Dat.bl ((l.map Dat.int).any fun y => eqvD y (.int n))) else none) = _
  rw [any_eqI, if_pos]
  rw [Bool.true_and, List.all_map]
  exact List.all_eq_true.mpr fun _ _ => rfl
theorem in_lm {n : Int} {l : List Int} : inD false (.int n) (.lst (l.map .int)) = some (.bl (decide (n ∈ l))) := by
  show (if (true && (l.map Dat.int).all (shp 7)) = true then some (Dat.bl ((l.map Dat.int).any fun y => eqvD y (.int n))) else none) = _
  rw [any_eqI, if_pos]
  rw [Bool.true_and, List.all_map]
  exact List.all_eq_true.mpr fun _ _ => rfl
theorem notO_ok {b : Bool} : notO (some (.bl b)) = some (.bl (!b)) := (rfl)
theorem k_at {α : Type} {e : α → Dat} {l : List α} {k : Int} (z : α) (h0 : 0 ≤ k) (h : k < l.length) : atI (l.map e) k = some (e (l.getD k.toNat z)) := by
  unfold atI ixN
  rw [if_pos h0, if_pos (by rw [List.length_map]; exact h)]
  show (l.map e)[k.toNat]? = _
  rw [List.getElem?_map, List.getElem?_eq_getElem (by omega), List.getD_eq_getElem?_getD, List.getElem?_eq_getElem (by omega)]
  rfl
theorem k_ati {l : List Int} {k : Int} (h0 : 0 ≤ k) (h : k < l.length) : ixD (.tup (l.map .int)) (.int k) = some (.int (l.getD k.toNat 0)) := k_at 0 h0 h
theorem k_atl {l : List Int} {k : Int} (h0 : 0 ≤ k) (h : k < l.length) : ixD (.lst (l.map .int)) (.int k) = some (.int (l.getD k.toNat 0)) := k_at 0 h0 h
theorem k_neg {α : Type} {e : α → Dat} {l : List α} {k : Int} (z : α) (h0 : k < 0) (h : 0 ≤ k + l.length) : atI (l.map e) k = some (e (l.getD (k + l.length).toNat z)) := by
  unfold atI ixN
  rw [if_neg (by omega), if_pos (by rw [List.length_map]; omega)]
  show (l.map e)[(k + ((l.map e).length : Nat)).toNat]? = _
  rw [List.length_map, List.getElem?_map, List.getElem?_eq_getElem (by omega), List.getD_eq_getElem?_getD, List.getElem?_eq_getElem (by omega)]
  rfl
theorem k_negi {l : List Int} {k : Int} (h0 : k < 0) (h : 0 ≤ k + l.length) : ixD (.tup (l.map .int)) (.int k) = some (.int (l.getD (k + l.length).toNat 0)) := k_neg 0 h0 h
theorem k_negl {l : List Int} {k : Int} (h0 : k < 0) (h : 0 ≤ k + l.length) : ixD (.lst (l.map .int)) (.int k) = some (.int (l.getD (k + l.length).toNat 0)) := k_neg 0 h0 h
theorem cut_to' {α : Type} {l : List α} {j : Int} (h1 : 0 ≤ j) : Dl.cutD l none (some j) = l.take j.toNat := by
  by_cases h : j ≤ l.length
  · exact cut_to l h1 h
  · unfold Dl.cutD HT.sIx
    show (l.drop 0).take ((if j < 0 then _ else min j.toNat l.length) - 0) = _
    rw [if_neg (by omega), List.drop_zero, List.take_of_length_le (by omega), List.take_of_length_le (by omega)]
theorem cut_off' {α : Type} {l : List α} {i : Int} (h1 : 0 ≤ i) : Dl.cutD l (some i) none = l.drop i.toNat := by
  by_cases h : i ≤ l.length
  · exact cut_off l h1 h
  · unfold Dl.cutD HT.sIx
    show (l.drop (if i < 0 then _ else min i.toNat l.length)).take _ = _
    rw [if_neg (by omega), Nat.min_eq_right (by omega), List.drop_of_length_le (Nat.le_refl _), List.drop_of_length_le (by omega), List.take_nil]
theorem cut_mid' {α : Type} {l : List α} {i j : Int} (h0 : 0 ≤ i) (h1 : 0 ≤ j) : Dl.cutD l (some i) (some j) = (l.take j.toNat).drop i.toNat := by
  unfold Dl.cutD HT.sIx
  show (l.drop (if i < 0 then _ else min i.toNat l.length)).take ((if j < 0 then _ else min j.toNat l.length) - (if i < 0 then _ else min i.toNat l.length)) = _
  rw [if_neg (by omega), if_neg (by omega), List.drop_take]
  by_cases h : i.toNat ≤ l.length
  · rw [Nat.min_eq_left h]
    by_cases h2 : j.toNat ≤ l.length
    · rw [Nat.min_eq_left h2]
    · rw [Nat.min_eq_right (by omega), List.take_of_length_le (by rw [List.length_drop]; omega), List.take_of_length_le (by rw [List.length_drop]; omega)]
  · rw [show min i.toNat l.length = l.length from Nat.min_eq_right (by omega), List.drop_of_length_le (Nat.le_refl _), List.drop_of_length_le (by omega), List.take_nil, List.take_nil]
theorem cut_lst {α : Type} {l : List α} : Dl.cutD l none (some (-1)) = l.take (l.length - 1) := by
  show (l.drop 0).take ((if (-1 : Int) < 0 then ((-1 : Int) + (l.length : Int)).toNat else min (-1 : Int).toNat l.length) - 0) = _
  rw [if_pos (by decide), List.drop_zero, show ((-1 : Int) + (l.length : Int)).toNat - 0 = l.length - 1 by omega]
theorem cut_ofn {α : Type} {l : List α} {i : Int} (h : i < 0) : Dl.cutD l (some i) none = l.drop (i + l.length).toNat := by
  show (l.drop (if i < 0 then (i + (l.length : Int)).toNat else min i.toNat l.length)).take (l.length - (if i < 0 then (i + (l.length : Int)).toNat else min i.toNat l.length)) = _
  rw [if_pos h, List.take_of_length_le (by rw [List.length_drop]; exact Nat.le_refl _)]
theorem cut_ton {α : Type} {l : List α} {j : Int} (h : j < 0) : Dl.cutD l none (some j) = l.take (j + l.length).toNat := by
  show (l.drop 0).take ((if j < 0 then (j + (l.length : Int)).toNat else min j.toNat l.length) - 0) = _
  rw [if_pos h, List.drop_zero, Nat.sub_zero]
theorem k_sum {l : List Int} : sumTD [.tup (l.map .int)] = some (.int l.sum) := by
  show (intsD (l.map .int)).map _ = _
  rw [intsP]
  rfl
theorem k_suml {l : List Int} : sumTD [.lst (l.map .int)] = some (.int l.sum) := k_sum
theorem map_tk {α β : Type} {f : α → β} {l : List α} {n : Nat} : (l.map f).take n = (l.take n).map f := List.map_take.symm
theorem map_dr {α β : Type} {f : α → β} {l : List α} {n : Nat} : (l.map f).drop n = (l.drop n).map f := List.map_drop.symm
theorem map_ap {α β : Type} {f : α → β} {l m : List α} : l.map f ++ m.map f = (l ++ m).map f := List.map_append.symm
theorem map_rv {α β : Type} {f : α → β} {l : List α} : (l.map f).reverse = l.reverse.map f := List.map_reverse.symm
theorem all_rng {a : List Int} {p : Int → Bool} {i j : Nat} (h : j ≤ a.length) : ((a.take j).drop i).all p = (List.range (j - i)).all fun k => p (a.getD (i + k) 0) := by
  have e : (a.take j).drop i = (List.range (j - i)).map fun k => a.getD (i + k) 0 := by
    refine List.ext_getElem ?_ fun n h1 h2 => ?_
    · rw [List.length_drop, List.length_take, List.length_map, List.length_range, Nat.min_eq_left h]
    · rw [List.getElem_drop, List.getElem_take, List.getElem_map, List.getElem_range, List.getD_eq_getElem?_getD, List.getElem?_eq_getElem (by simp at h1; omega)]
      rfl
  rw [e, List.all_map]
  rfl
theorem all_rngI {a : List Int} {p : Int → Bool} {i j : Int} (h0 : 0 ≤ i) (h : j ≤ a.length) : ((a.take j.toNat).drop i.toNat).all p = (List.range (j - i).toNat).all fun k => p (a.getD (i + (k : Nat)).toNat 0) := by
  rw [all_rng (by omega), show j.toNat - i.toNat = (j - i).toNat by omega]
  congr 1
  funext k
  rw [show i.toNat + k = (i + (k : Nat)).toNat by omega]
theorem half_cast {n : Nat} : ((n : Int) + 1) / 2 = (((n + 1) / 2 : Nat) : Int) := by omega
theorem not_any {α : Type} {p : α → Bool} {l : List α} : (!l.any fun a => !p a) = l.all p := by
  induction l with
  | nil => rfl
  | cons x r ih => rw [List.any_cons, List.all_cons, ← ih]; cases p x <;> rfl
theorem not_all {α : Type} {p : α → Bool} {l : List α} : (!l.all fun a => !p a) = l.any p := by
  induction l with
  | nil => rfl
  | cons x r ih => rw [List.any_cons, List.all_cons, ← ih]; cases p x <;> rfl
theorem all_tr {α : Type} {l : List α} : (l.all fun _ => true) = true := List.all_eq_true.mpr fun _ _ => rfl
theorem any_fl {α : Type} {l : List α} : (l.any fun _ => false) = false := by induction l with | nil => rfl | cons a r ih => rw [List.any_cons, ih]; rfl
theorem rep_one {d : Dat} : ∀ n : Nat, (List.replicate n [d]).flatten = List.replicate n d
  | 0 => rfl
  | n + 1 => by rw [List.replicate_succ, List.flatten_cons, rep_one n]; rfl
theorem l_mulX {i j : Int} (h : j < 18446744073709551616) (h2 : -18446744073709551616 < j) : mulXD (.int i) (.int j) = some (.int (i * j)) := l_mul h h2
theorem l_mulX2 {i j : Int} (h : i < 18446744073709551616) (h2 : -18446744073709551616 < i) : mulXD (.int i) (.int j) = some (.int (i * j)) := l_mul2 h h2
theorem l_rep {d : Dat} {k : Int} (h : 2 ≤ k) (h2 : k ≤ 1000) : mulD (.tup [d]) (.int k) = some (.tup (List.replicate k.toNat d)) := by
  show (if 2 ≤ k ∧ k ≤ 1000 ∧ [d].length ≤ 1000 ∧ [d].isEmpty = false then some (Dat.tup (List.replicate k.toNat [d]).flatten) else none) = _
  rw [if_pos ⟨h, h2, (show 1 ≤ 1000 by decide), rfl⟩, rep_one]
theorem l_repX {d : Dat} {k : Int} (h : 1 ≤ k) (h2 : k ≤ 1000) : mulXD (.tup [d]) (.int k) = some (.tup (List.replicate k.toNat d)) := by
  show (if k = 1 then some (Dat.tup [d]) else mulD (.tup [d]) (.int k)) = _
  by_cases z : k = 1
  · rw [if_pos z, z]; rfl
  · rw [if_neg z, l_rep (by omega) h2]
theorem l_repL {d : Dat} {k : Int} (h : -100000 ≤ k) (h2 : k ≤ 100000) : mulD (.lst [d]) (.int k) = some (.lst (List.replicate k.toNat d)) := by
  show (if k ≤ 100000 ∧ -100000 ≤ k ∧ [d].length ≤ 100 then some (Dat.lst (List.replicate k.toNat [d]).flatten) else none) = _
  rw [if_pos ⟨h2, h, (show 1 ≤ 100 by decide)⟩, rep_one]
theorem l_repLX {d : Dat} {k : Int} (h : -100000 ≤ k) (h2 : k ≤ 100000) : mulXD (.lst [d]) (.int k) = some (.lst (List.replicate k.toNat d)) := l_repL h h2
theorem at_mem {l : List Dat} {j : Int} (h0 : 0 ≤ j) (h1 : j < l.length) : ∃ b ∈ l, ixD (.lst l) (.int j) = some b := by
  have hj : j.toNat < l.length := by omega
  refine ⟨l[j.toNat], List.getElem_mem hj, ?_⟩
  show atI l j = _
  unfold atI ixN
  rw [if_pos h0, if_pos h1]
  show l[j.toNat]? = _
  rw [List.getElem?_eq_getElem hj]
theorem at_memT {l : List Dat} {j : Int} (h0 : 0 ≤ j) (h1 : j < l.length) : ∃ b ∈ l, ixD (.tup l) (.int j) = some b := at_mem h0 h1
theorem forL_or {asg : Dat → DEnv → Option DEnv} {F : DEnv → DFlow} (P : Nat → DEnv → Prop) (G : Dat → Prop) : ∀ {l : List Dat} {ρ : DEnv} (k0 : Nat), P k0 ρ → (∀ k d ρ, l[k]? = some d → P (k0 + k) ρ → ∃ ρ1, asg d ρ = some ρ1 ∧ ((∃ x, F ρ1 = .rt x ∧ G x) ∨ ∃ ρ2, (F ρ1 = .nx ρ2 ∨ F ρ1 = .ct ρ2) ∧ P (k0 + k + 1) ρ2)) → (∃ x, forL asg F l ρ = .rt x ∧ G x) ∨ ∃ ρ', forL asg F l ρ = .nx ρ' ∧ P (k0 + l.length) ρ'
  | [], ρ, k0, h0, _ => .inr ⟨ρ, rfl, h0⟩
  | d :: r, ρ, k0, h0, hs => by
    obtain ⟨ρ1, e1, h⟩ := hs 0 d ρ rfl h0
    rw [u_for, e1]
    show (∃ x, fsK asg F r (F ρ1) = .rt x ∧ G x) ∨ _
    rcases h with ⟨x, e2, g⟩ | ⟨ρ2, e2, p⟩
    · exact .inl ⟨x, by rw [e2]; rfl, g⟩
    · have ih := forL_or (asg := asg) (F := F) P G (l := r) (ρ := ρ2) (k0 + 1) p fun k d ρ hk hp => by
        have := hs (k + 1) d ρ (by rw [List.getElem?_cons_succ]; exact hk) (by rw [show k0 + (k + 1) = k0 + 1 + k by omega]; exact hp)
        rw [show k0 + (k + 1) = k0 + 1 + k by omega] at this
        exact this
      have e3 : fsK asg F r (F ρ1) = forL asg F r ρ2 := by rcases e2 with e2 | e2 <;> rw [e2] <;> rfl
      show (∃ x, fsK asg F r (F ρ1) = .rt x ∧ G x) ∨ ∃ ρ', fsK asg F r (F ρ1) = .nx ρ' ∧ _
      rw [e3, List.length_cons, show k0 + (r.length + 1) = k0 + 1 + r.length by omega]
      exact ih
theorem forL_or' {asg : Dat → DEnv → Option DEnv} {F : DEnv → DFlow} {l : List Dat} {ρ : DEnv} {r : DFlow} (hF : forL asg F l ρ = r) (P : Nat → DEnv → Prop) (G : Dat → Prop) (h0 : P 0 ρ) (hs : ∀ k d ρ, l[k]? = some d → P k ρ → ∃ ρ1, asg d ρ = some ρ1 ∧ ((∃ x, F ρ1 = .rt x ∧ G x) ∨ ∃ ρ2, (F ρ1 = .nx ρ2 ∨ F ρ1 = .ct ρ2) ∧ P (k + 1) ρ2)) : (∃ x, r = .rt x ∧ G x) ∨ ∃ ρ', r = .nx ρ' ∧ P l.length ρ' := by
  have := forL_or (asg := asg) (F := F) P G (l := l) (ρ := ρ) 0 h0 fun k d ρ hk hp => by
    rw [Nat.zero_add] at hp ⊢
    exact hs k d ρ hk hp
  rw [hF, Nat.zero_add] at this
  exact this
/-- how a turn goes on -/
def contP (P : DEnv → Prop) (G : Dat → Prop) : DFlow → Prop
  | .nx ρ => P ρ
  | .ct ρ => P ρ
  | .rt d => G d
  | _ => False
theorem forL_P {asg : Dat → DEnv → Option DEnv} {F : DEnv → DFlow} {l : List Dat} {ρ : DEnv} {r : DFlow} (hF : forL asg F l ρ = r) (P : Nat → DEnv → Prop) (h0 : P 0 ρ) (hs : ∀ k d ρ, l[k]? = some d → P k ρ → ∃ ρ1, asg d ρ = some ρ1 ∧ contP (P (k + 1)) (fun _ => False) (F ρ1)) : ∃ ρ', r = .nx ρ' ∧ P l.length ρ' :=
  forL_inv' hF P h0 fun k d ρ hk hp => by
    obtain ⟨ρ1, h1, h2⟩ := hs k d ρ hk hp
    cases q : F ρ1 with
    | nx ρ2 => rw [q] at h2; exact ⟨ρ1, ρ2, h1, .inl q, h2⟩
    | ct ρ2 => rw [q] at h2; exact ⟨ρ1, ρ2, h1, .inr q, h2⟩
    | rt x => rw [q] at h2; exact h2.elim
    | bk x => rw [q] at h2; exact h2.elim
    | ex c x => rw [q] at h2; exact h2.elim
    | stuck => rw [q] at h2; exact h2.elim
theorem forL_G {asg : Dat → DEnv → Option DEnv} {F : DEnv → DFlow} {l : List Dat} {ρ : DEnv} {r : DFlow} (hF : forL asg F l ρ = r) (P : Nat → DEnv → Prop) (G : Dat → Prop) (h0 : P 0 ρ) (hs : ∀ k d ρ, l[k]? = some d → P k ρ → ∃ ρ1, asg d ρ = some ρ1 ∧ contP (P (k + 1)) G (F ρ1)) : (∃ x, r = .rt x ∧ G x) ∨ ∃ ρ', r = .nx ρ' ∧ P l.length ρ' :=
  forL_or' hF P G h0 fun k d ρ hk hp => by
    obtain ⟨ρ1, h1, h2⟩ := hs k d ρ hk hp
    refine ⟨ρ1, h1, ?_⟩
    cases q : F ρ1 with
    | nx ρ2 => rw [q] at h2; exact .inr ⟨ρ2, .inl rfl, h2⟩
    | ct ρ2 => rw [q] at h2; exact .inr ⟨ρ2, .inr rfl, h2⟩
    | rt x => rw [q] at h2; exact .inl ⟨x, rfl, h2⟩
    | bk x => rw [q] at h2; exact h2.elim
    | ex c x => rw [q] at h2; exact h2.elim
    | stuck => rw [q] at h2; exact h2.elim
theorem lc_fid {i : Nat} {t : DEnv → Res Bool} {f : DEnv → Res Dat} {ρ : DEnv} {l : List Dat} : lcL (aName i) t f ρ l = filR l (fun a _ => oneT t (aName i a ρ)) fun a _ => oneK f (aName i a ρ) := by
  have h := lc_filN (i := i) (t := t) (f := f) (ρ := ρ) (e := fun d : Dat => d) (l := l)
  rw [List.map_id'] at h
  exact h
theorem shp_le {n m : Nat} {d : Dat} (h : shp n d = true) (hm : n ≤ m) : shp m d = true := by
  induction m with
  | zero => rw [show n = 0 by omega] at h; exact h
  | succ m ih =>
    by_cases z : n = m + 1
    · rw [z] at h; exact h
    · exact shp_up _ _ (ih (by omega))
theorem rng_succ {lo : Int} {n : Nat} : rng lo (n + 1) = .int lo :: rng (lo + 1) n := by
  unfold rng
  rw [List.range_succ_eq_map, List.map_cons, List.map_map]
  congr 1
  · show Dat.int (lo + ((0 : Nat) : Int)) = _
    rw [show lo + ((0 : Nat) : Int) = lo by omega]
  · refine List.map_congr_left fun i _ => ?_
    show Dat.int (lo + ((i + 1 : Nat) : Int)) = Dat.int (lo + 1 + (i : Nat))
    congr 1
    omega
theorem rng_mem {lo : Int} {n : Nat} {d : Dat} (h : d ∈ rng lo n) : ∃ i : Int, d = .int i ∧ lo ≤ i ∧ i < lo + n := by
  unfold rng at h
  obtain ⟨k, hk, rfl⟩ := List.mem_map.mp h
  rw [List.mem_range] at hk
  exact ⟨_, rfl, by omega, by omega⟩
theorem at_pre {pre l : List Dat} {s : Dat} {k : Nat} (h : pre.length = k) : ixD (.tup (pre ++ s :: l)) (.int (k : Nat)) = some s := by
  show atI (pre ++ s :: l) ((k : Nat) : Int) = _
  unfold atI ixN
  rw [if_pos (by omega), if_pos (by rw [List.length_append, List.length_cons]; omega)]
  show (pre ++ s :: l)[((k : Nat) : Int).toNat]? = _
  rw [show ((k : Nat) : Int).toNat = pre.length by omega, List.getElem?_append_right (Nat.le_refl _), Nat.sub_self]
  rfl
theorem whileL_end {t : DEnv → Res Bool} {F : DEnv → DFlow} (P : Nat → DEnv → Prop) : ∀ (e : Nat) {ρ : DEnv} (k0 : Nat), P k0 ρ → (∀ k ρ, k0 ≤ k → k < k0 + e → P k ρ → t ρ = .ok true ∧ ∃ ρ', (F ρ = .nx ρ' ∨ F ρ = .ct ρ') ∧ P (k + 1) ρ') → (∀ ρ, P (k0 + e) ρ → t ρ = .ok false) → ∀ n, e < n → ∃ ρ', whileL t F n ρ = .nx ρ' ∧ P (k0 + e) ρ'
  | 0, ρ, k0, h0, hs, he, n + 1, _ => by
    refine ⟨ρ, ?_, h0⟩
    rw [u_whl, he ρ h0]
    rfl
  | e + 1, ρ, k0, h0, hs, he, n + 1, hn => by
    obtain ⟨ht, ρ', hf, hp⟩ := hs k0 ρ (Nat.le_refl _) (by omega) h0
    obtain ⟨r, h1, h2⟩ := whileL_end P e (k0 + 1) hp (fun k ρ a b c => hs k ρ (by omega) (by omega) c) (fun ρ c => he ρ (by rw [show k0 + (e + 1) = k0 + 1 + e by omega]; exact c)) n (by omega)
    refine ⟨r, ?_, by rw [show k0 + (e + 1) = k0 + 1 + e by omega]; exact h2⟩
    rw [u_whl, ht]
    show wsK t F n (F ρ) = _
    rcases hf with hf | hf <;> rw [hf] <;> exact h1
theorem whileL_rt {t : DEnv → Res Bool} {F : DEnv → DFlow} {d : Dat} (P : Nat → DEnv → Prop) : ∀ (e : Nat) {ρ : DEnv} (k0 : Nat), P k0 ρ → (∀ k ρ, k0 ≤ k → k < k0 + e → P k ρ → t ρ = .ok true ∧ ∃ ρ', (F ρ = .nx ρ' ∨ F ρ = .ct ρ') ∧ P (k + 1) ρ') → (∀ ρ, P (k0 + e) ρ → t ρ = .ok true ∧ F ρ = .rt d) → ∀ n, e < n → whileL t F n ρ = .rt d
  | 0, ρ, k0, h0, hs, he, n + 1, _ => by
    obtain ⟨h1, h2⟩ := he ρ h0
    rw [u_whl, h1]
    show wsK t F n (F ρ) = _
    rw [h2]
    rfl
  | e + 1, ρ, k0, h0, hs, he, n + 1, hn => by
    obtain ⟨ht, ρ', hf, hp⟩ := hs k0 ρ (Nat.le_refl _) (by omega) h0
    have h1 := whileL_rt P e (k0 + 1) hp (fun k ρ a b c => hs k ρ (by omega) (by omega) c) (fun ρ c => he ρ (by rw [show k0 + (e + 1) = k0 + 1 + e by omega]; exact c)) n (by omega)
    rw [u_whl, ht]
    show wsK t F n (F ρ) = _
    rcases hf with hf | hf <;> rw [hf] <;> exact h1
theorem first_some {flt : Nat → Option Dat} : ∀ {n s : Nat} {d : Dat}, firstF flt s n = some d → ∃ k, s ≤ k ∧ k < s + n ∧ flt k = some d ∧ ∀ j, s ≤ j → j < k → flt j = none
  | 0, s, d, h => by cases h
  | n + 1, s, d, h => by
    unfold firstF at h
    cases q : flt s with
    | some x =>
      rw [q] at h
      cases h
      exact ⟨s, Nat.le_refl _, by omega, q, fun j a b => by omega⟩
    | none =>
      rw [q] at h
      obtain ⟨k, h1, h2, h3, h4⟩ := first_some (s := s + 1) h
      refine ⟨k, by omega, by omega, h3, fun j a b => ?_⟩
      by_cases z : j = s
      · rw [z]; exact q
      · exact h4 j (by omega) b
theorem first_none {flt : Nat → Option Dat} : ∀ {n s : Nat}, firstF flt s n = none → ∀ j, s ≤ j → j < s + n → flt j = none
  | 0, s, h, j, a, b => by omega
  | n + 1, s, h, j, a, b => by
    unfold firstF at h
    cases q : flt s with
    | some x => rw [q] at h; cases h
    | none =>
      rw [q] at h
      by_cases z : j = s
      · rw [z]; exact q
      · exact first_none (s := s + 1) h j (by omega) (by omega)
theorem rng_get0 {n k : Nat} {d : Dat} (h : (rng 0 n)[k]? = some d) : k < n ∧ d = .int (k : Nat) := by
  obtain ⟨h1, h2⟩ := rng_get h
  exact ⟨h1, by rw [h2, Int.zero_add]⟩
theorem rng_getN {lo n k : Nat} {d : Dat} (h : (rng (lo : Int) n)[k]? = some d) : k < n ∧ d = .int ((lo + k : Nat) : Int) := by
  obtain ⟨h1, h2⟩ := rng_get h
  exact ⟨h1, by rw [h2]; congr 1⟩
theorem set_self' {ρ : DEnv} {i : Nat} : ∃ x, ρ.set i x = ρ := by
  by_cases h : i < ρ.length
  · exact ⟨ρ[i], List.set_getElem_self h⟩
  · exact ⟨none, List.set_eq_of_length_le (by omega)⟩
def fcbK (g : List Dat → Option (List Dat)) : Res (List Dat) → Res (List Dat) := fun x => x.bind fun l => ofO (g l)
def fopK (g : Dat → Dat → Option (List Dat)) : Res Dat → (DEnv → Res Dat) → DEnv → Res (List Dat) := fun x f ρ => x.bind fun x => (f ρ).bind fun y => ofO (g x y)
def fopK2 (g : Dat → Dat → Option (List Dat)) (x : Dat) : Res Dat → Res (List Dat) := fun y => y.bind fun y => ofO (g x y)
def frK : Res Dat → Res (List Dat) := fun x => x.bind rg1K
def fslK (x : Res Dat) (l h : Res (Option Int)) : Res (List Dat) := fSl (fun _ => x) (fun _ => l) (fun _ => h) []
def p2OK (i j : Nat) (ρ : DEnv) : Res Dat → (DEnv → Res (List Dat)) → DFlow := fun x g => rBind x ρ fun d => rBind (g ρ) ρ fun e => .nx ((ρ.set i (some d)).set j (some (.lst e)))
def p2OK2 (i j : Nat) (ρ : DEnv) (d : Dat) : Res (List Dat) → DFlow := fun x => rBind x ρ fun e => .nx ((ρ.set i (some d)).set j (some (.lst e)))
theorem e_fcb {g : List Dat → Option (List Dat)} {fs : DEnv → Res (List Dat)} {ρ : DEnv} : fCB g fs ρ = fcbK g (fs ρ) := (rfl)
theorem e_fcb1 {g : List Dat → Option (List Dat)} {l : List Dat} : fcbK g (.ok l) = ofO (g l) := (rfl)
theorem e_fop {g : Dat → Dat → Option (List Dat)} {fa fb : DEnv → Res Dat} {ρ : DEnv} : fOp g fa fb ρ = fopK g (fa ρ) fb ρ := (rfl)
theorem e_fop1 {g : Dat → Dat → Option (List Dat)} {x : Dat} {fb : DEnv → Res Dat} {ρ : DEnv} : fopK g (.ok x) fb ρ = fopK2 g x (fb ρ) := (rfl)
theorem e_fop2 {g : Dat → Dat → Option (List Dat)} {x y : Dat} : fopK2 g x (.ok y) = ofO (g x y) := (rfl)
theorem e_fr {f : DEnv → Res Dat} {ρ : DEnv} : fRg1 f ρ = frK (f ρ) := (rfl)
theorem e_fr1 {j : Int} (h : j ≤ 16777216) (h2 : -16777216 ≤ j) : frK (.ok (.int j)) = .ok (rng 0 j.toNat) := by show (if (big62 0 && big62 j && decide ((j - 0).toNat ≤ 2 ^ 24)) = true then Res.ok (rng 0 (j - 0).toNat) else .stuck) = _; rw [Int.sub_zero, if_pos]; unfold big62; rw [decide_eq_true (show -2 ^ 62 ≤ j by omega), decide_eq_true (show j < 2 ^ 62 by omega), decide_eq_true (show j.toNat ≤ 2 ^ 24 by omega)]; rfl
theorem e_fsl {fa : DEnv → Res Dat} {fl fh : DEnv → Res (Option Int)} {ρ : DEnv} : fSl fa fl fh ρ = fslK (fa ρ) (fl ρ) (fh ρ) := (rfl)
theorem e_fsl1 {x : List Dat} {l h : Option Int} : fslK (.ok (.lst x)) (.ok l) (.ok h) = .ok (cutD x l h) := (rfl)
theorem e_p2O {i j : Nat} {f : DEnv → Res Dat} {g : DEnv → Res (List Dat)} {ρ : DEnv} : sPar2O i j f g ρ = p2OK i j ρ (f ρ) g := (rfl)
theorem e_p2O1 {i j : Nat} {g : DEnv → Res (List Dat)} {ρ : DEnv} {d : Dat} : p2OK i j ρ (.ok d) g = p2OK2 i j ρ d (g ρ) := (rfl)
def p3OK (i j l : Nat) (ρ : DEnv) : Res Dat → (DEnv → Res Dat) → (DEnv → Res (List Dat)) → DFlow := fun x f2 g => rBind x ρ fun d => rBind (f2 ρ) ρ fun d2 => rBind (g ρ) ρ fun e => .nx (((ρ.set i (some d)).set j (some d2)).set l (some (.lst e)))
def p3OK2 (i j l : Nat) (ρ : DEnv) (d : Dat) : Res Dat → (DEnv → Res (List Dat)) → DFlow := fun x g => rBind x ρ fun d2 => rBind (g ρ) ρ fun e => .nx (((ρ.set i (some d)).set j (some d2)).set l (some (.lst e)))
def p3OK3 (i j l : Nat) (ρ : DEnv) (d d2 : Dat) : Res (List Dat) → DFlow := fun x => rBind x ρ fun e => .nx (((ρ.set i (some d)).set j (some d2)).set l (some (.lst e)))
theorem e_p3O {i j l : Nat} {f f2 : DEnv → Res Dat} {g : DEnv → Res (List Dat)} {ρ : DEnv} : sPar3O i j l f f2 g ρ = p3OK i j l ρ (f ρ) f2 g := (rfl)
theorem e_p3O1 {i j l : Nat} {f2 : DEnv → Res Dat} {g : DEnv → Res (List Dat)} {ρ : DEnv} {d : Dat} : p3OK i j l ρ (.ok d) f2 g = p3OK2 i j l ρ d (f2 ρ) g := (rfl)
theorem e_p3O2 {i j l : Nat} {g : DEnv → Res (List Dat)} {ρ : DEnv} {d d2 : Dat} : p3OK2 i j l ρ d (.ok d2) g = p3OK3 i j l ρ d d2 (g ρ) := (rfl)
theorem e_p3O3 {i j l : Nat} {ρ : DEnv} {d d2 : Dat} {e : List Dat} : p3OK3 i j l ρ d d2 (.ok e) = .nx (((ρ.set i (some d)).set j (some d2)).set l (some (.lst e))) := (rfl)
def geAK : Res Dat → Res (List Dat) := fun x => x.bind enumAK
theorem e_geA {f : DEnv → Res Dat} {ρ : DEnv} : gEnumA f ρ = geAK (f ρ) := (rfl)
theorem e_geA1 {l : List Dat} : geAK (.ok (.tup l)) = .ok (numD l) := (rfl)
theorem e_geA2 {l : List Dat} : geAK (.ok (.lst l)) = .ok (numD l) := (rfl)
def pO3K (i j l : Nat) (ρ : DEnv) : Res (List Dat) → (DEnv → Res Dat) → (DEnv → Res Dat) → DFlow := fun x f f2 => rBind x ρ fun e => rBind (f ρ) ρ fun d => rBind (f2 ρ) ρ fun d2 => .nx (((ρ.set i (some (.lst e))).set j (some d)).set l (some d2))
def pO3K2 (i j l : Nat) (ρ : DEnv) (e : List Dat) : Res Dat → (DEnv → Res Dat) → DFlow := fun x f2 => rBind x ρ fun d => rBind (f2 ρ) ρ fun d2 => .nx (((ρ.set i (some (.lst e))).set j (some d)).set l (some d2))
def pO3K3 (i j l : Nat) (ρ : DEnv) (e : List Dat) (d : Dat) : Res Dat → DFlow := fun x => rBind x ρ fun d2 => .nx (((ρ.set i (some (.lst e))).set j (some d)).set l (some d2))
theorem e_pO3 {i j l : Nat} {g : DEnv → Res (List Dat)} {f f2 : DEnv → Res Dat} {ρ : DEnv} : sParO3 i j l g f f2 ρ = pO3K i j l ρ (g ρ) f f2 := (rfl)
theorem e_pO31 {i j l : Nat} {e : List Dat} {f f2 : DEnv → Res Dat} {ρ : DEnv} : pO3K i j l ρ (.ok e) f f2 = pO3K2 i j l ρ e (f ρ) f2 := (rfl)
theorem e_pO32 {i j l : Nat} {e : List Dat} {d : Dat} {f2 : DEnv → Res Dat} {ρ : DEnv} : pO3K2 i j l ρ e (.ok d) f2 = pO3K3 i j l ρ e d (f2 ρ) := (rfl)
theorem e_pO33 {i j l : Nat} {e : List Dat} {d d2 : Dat} {ρ : DEnv} : pO3K3 i j l ρ e d (.ok d2) = .nx (((ρ.set i (some (.lst e))).set j (some d)).set l (some d2)) := (rfl)
def csR (t : Res Bool) (x : Res Dat) (y : Res (List Dat)) : Res (List Dat) := t.bind fun b => if b = true then consR x y else y
theorem csT {x : Res Dat} {y : Res (List Dat)} : csR (.ok true) x y = consR x y := (rfl)
theorem csF {x : Res Dat} {y : Res (List Dat)} : csR (.ok false) x y = y := (rfl)
theorem lc_consN {i : Nat} {t : DEnv → Res Bool} {f : DEnv → Res Dat} {ρ : DEnv} {d : Dat} {r : List Dat} : lcL (aName i) t f ρ (d :: r) = csR (oneT t (aName i d ρ)) (oneK f (aName i d ρ)) (lcL (aName i) t f ρ r) := (rfl)
theorem ffP {asg : Dat → DEnv → Option DEnv} {F : DEnv → DFlow} {l : List Dat} {ρ : DEnv} {r : DFlow} (hF : forL asg F l ρ = r) (flt : Nat → Option Dat) (P : Nat → DEnv → Prop) (h0 : P 0 ρ)
    (hs : ∀ k d ρ, l[k]? = some d → P k ρ → ∃ ρ1, asg d ρ = some ρ1 ∧ ((∃ r, flt k = some r ∧ F ρ1 = .rt r) ∨ (flt k = none ∧ ∃ ρ2, (F ρ1 = .nx ρ2 ∨ F ρ1 = .ct ρ2) ∧ P (k + 1) ρ2))) :
    (∃ d, firstF flt 0 l.length = some d ∧ r = .rt d) ∨ (firstF flt 0 l.length = none ∧ ∃ ρ', r = .nx ρ' ∧ P l.length ρ') := by
  have := forL_first (asg := asg) (F := F) flt (l := l) (ρ := ρ) 0 P h0 fun k d ρ hk hp => by rw [Nat.zero_add] at *; exact hs k d ρ hk hp
  rw [hF, Nat.zero_add] at this
  exact this
theorem e_p2O2 {i j : Nat} {ρ : DEnv} {d : Dat} {e : List Dat} : p2OK2 i j ρ d (.ok e) = .nx ((ρ.set i (some d)).set j (some (.lst e))) := (rfl)
theorem seqF_l {l : List Dat} : seqF [.lst l] = some l := (rfl)
theorem seqF_t {l : List Dat} : seqF [.tup l] = some l := (rfl)
theorem seqF_f {l : List Dat} : seqF [.frz l] = some l := (rfl)
theorem mulF_1 {d : Dat} {k : Int} (h : -100000 ≤ k) (h2 : k ≤ 100000) : mulF (.lst [d]) (.int k) = some (List.replicate k.toNat d) := by
  show (if k ≤ 100000 ∧ -100000 ≤ k ∧ [d].length ≤ 100 then some (List.replicate k.toNat [d]).flatten else none) = _
  rw [if_pos ⟨h2, h, (show 1 ≤ 100 by decide)⟩]
  congr 1
  generalize k.toNat = n
  induction n with
  | zero => rfl
  | succ n ih => rw [List.replicate_succ, List.flatten_cons, ih]; rfl
theorem addF_l {a b : List Dat} (h : a.length + b.length ≤ 100000) : addF (.lst a) (.lst b) = some (a ++ b) := if_pos (Nat.le_trans h (by decide))
theorem okS_int {ns : List Int} (h : ns.length ≤ 100000) : okSort (ns.map .int) = true := by
  have a : ∀ x ∈ ns.map Dat.int, ∃ i, x = .int i := fun x hx => by
    obtain ⟨i, _, rfl⟩ := List.mem_map.mp hx
    exact ⟨i, rfl⟩
  unfold okSort
  rw [List.length_map, decide_eq_true (show ns.length ≤ sizeLine from Nat.le_trans h (by decide)), Bool.and_true, Bool.and_eq_true, Bool.and_eq_true, Bool.or_eq_true, List.all_eq_true, List.all_eq_true, List.all_eq_true, List.all_eq_true]
  refine ⟨⟨fun x hx => ?_, fun x hx => ?_⟩, .inr fun x hx => ?_⟩
  · obtain ⟨i, rfl⟩ := a x hx; rfl
  · obtain ⟨i, rfl⟩ := a x hx
    rw [List.all_eq_true]
    intro y hy
    obtain ⟨j, rfl⟩ := a y hy
    simp [toPy, PySem.W.alike]
  · obtain ⟨i, rfl⟩ := a x hx; rfl
def leI (a b : Int) : Bool := decide (a ≤ b)
theorem leDD_int (a b : Int) : leDD (.int a) (.int b) = leI a b := by
  show PySem.W.dataLe false toPy (.int a) (.int b) = decide (a ≤ b)
  exact congrFun (congrFun (PySem.W.dataLe_int (fun i : Int => i)) a) b
theorem sort_int {ns : List Int} (h : ns.length ≤ 100000) : sortF [.lst (ns.map .int)] = some ((ns.mergeSort leI).map .int) := by
  show (if okSort (ns.map .int) = true then some ((ns.map Dat.int).mergeSort leDD) else none) = _
  rw [if_pos (okS_int h), List.map_mergeSort (r := leI) (s := leDD) (f := Dat.int) (fun a _ b _ => (leDD_int a b).symm)]
theorem sort_intT {ns : List Int} (h : ns.length ≤ 100000) : sortF [.tup (ns.map .int)] = some ((ns.mergeSort leI).map .int) := sort_int h
def s2K (i : Nat) (ρ : DEnv) (x : Res Dat) (fb fi fj : DEnv → Res Dat) : DFlow := rBind x ρ fun d => rBind (fb ρ) ρ fun e => match ρ[i]? with
  | some (some (.lst l)) => rBind (fi ρ) ρ (putK i l ρ d (sPut i fj e))
  | _ => .stuck
def s2K2 (i : Nat) (ρ : DEnv) (d : Dat) (x : Res Dat) (fi fj : DEnv → Res Dat) : DFlow := rBind x ρ fun e => match ρ[i]? with
  | some (some (.lst l)) => rBind (fi ρ) ρ (putK i l ρ d (sPut i fj e))
  | _ => .stuck
def s2K3 (i : Nat) (ρ : DEnv) (d e : Dat) (x : Res Dat) (fi fj : DEnv → Res Dat) : DFlow := match x with
  | .ok (.lst l) => rBind (fi ρ) ρ (putK i l ρ d (sPut i fj e))
  | _ => .stuck
def s2K4 (i : Nat) (ρ : DEnv) (l : List Dat) (d e : Dat) (x : Res Dat) (fj : DEnv → Res Dat) : DFlow := rBind x ρ (putK i l ρ d (sPut i fj e))
def s2K5 (i : Nat) (ρ : DEnv) (l : List Dat) (d e : Dat) (x : Option Nat) (fj : DEnv → Res Dat) : DFlow := match x with
  | some j => sPut i fj e (ρ.set i (some (.lst (l.set j d))))
  | none => .stuck
def spK (i : Nat) (ρ : DEnv) (e : Dat) (x : Res Dat) (fj : DEnv → Res Dat) : DFlow := match x with
  | .ok (.lst l) => rBind (fj ρ) ρ (putK i l ρ e .nx)
  | _ => .stuck
def spK2 (i : Nat) (ρ : DEnv) (e : Dat) (l : List Dat) (x : Res Dat) : DFlow := rBind x ρ (putK i l ρ e .nx)
theorem e_s2 {i : Nat} {fi fj fa fb : DEnv → Res Dat} {ρ : DEnv} : sSetI2 i fi fj fa fb ρ = s2K i ρ (fa ρ) fb fi fj := (rfl)
theorem e_s21 {i : Nat} {fi fj fb : DEnv → Res Dat} {ρ : DEnv} {d : Dat} : s2K i ρ (.ok d) fb fi fj = s2K2 i ρ d (fb ρ) fi fj := (rfl)
theorem e_s22 {i : Nat} {fi fj : DEnv → Res Dat} {ρ : DEnv} {d e : Dat} : s2K2 i ρ d (.ok e) fi fj = s2K3 i ρ d e (vVar i ρ) fi fj := by show (match ρ[i]? with | some (some (.lst l)) => _ | _ => DFlow.stuck) = _; rw [vVar_eq]; rcases ρ[i]? with _ | _ | d <;> first | rfl | (cases d <;> rfl)
theorem e_s23 {i : Nat} {fi fj : DEnv → Res Dat} {ρ : DEnv} {d e : Dat} {l : List Dat} : s2K3 i ρ d e (.ok (.lst l)) fi fj = s2K4 i ρ l d e (fi ρ) fj := (rfl)
theorem e_s24 {i : Nat} {fj : DEnv → Res Dat} {ρ : DEnv} {d e : Dat} {l : List Dat} {n : Int} : s2K4 i ρ l d e (.ok (.int n)) fj = s2K5 i ρ l d e (ixN l.length n) fj := by show (match ixN l.length n with | some j => _ | none => DFlow.stuck) = _; cases ixN l.length n <;> rfl
theorem e_s25 {i j : Nat} {fj : DEnv → Res Dat} {ρ : DEnv} {d e : Dat} {l : List Dat} : s2K5 i ρ l d e (some j) fj = sPut i fj e (ρ.set i (some (.lst (l.set j d)))) := (rfl)
theorem e_sp {i : Nat} {fj : DEnv → Res Dat} {ρ : DEnv} {e : Dat} : sPut i fj e ρ = spK i ρ e (vVar i ρ) fj := by unfold sPut; rw [vVar_eq]; rcases ρ[i]? with _ | _ | d <;> first | rfl | (cases d <;> rfl)
theorem e_sp1 {i : Nat} {fj : DEnv → Res Dat} {ρ : DEnv} {e : Dat} {l : List Dat} : spK i ρ e (.ok (.lst l)) fj = spK2 i ρ e l (fj ρ) := (rfl)
theorem e_sp2 {i : Nat} {ρ : DEnv} {e : Dat} {l : List Dat} {n : Int} : spK2 i ρ e l (.ok (.int n)) = siK2 i ρ e l (ixN l.length n) := by show (match ixN l.length n with | some j => DFlow.nx (ρ.set i (some (.lst (l.set j e)))) | none => .stuck) = _; cases ixN l.length n <;> rfl
theorem ixN_p {l : Nat} {n : Int} (h0 : 0 ≤ n) (h : n < l) : ixN l n = some n.toNat := by unfold ixN; rw [if_pos h0, if_pos h]
theorem ixN_n {l : Nat} {n : Int} (h0 : n < 0) (h : 0 ≤ n + l) : ixN l n = some (n + l).toNat := by unfold ixN; rw [if_neg (by omega), if_pos (by omega)]
theorem l_abs {i : Int} : absD [.int i] = some (.int (if i < 0 then -i else i)) := (rfl)
theorem e_Ub {i : Bool} : uK (.ok (.bl i)) = .ok (.bl i) := (rfl)
theorem e_Us {i : Str} : uK (.ok (.str i)) = .ok (.str i) := (rfl)
theorem map_st {l : List Int} {j : Nat} {x : Int} : (l.map Dat.int).set j (.int x) = (l.set j x).map Dat.int := List.map_set.symm
theorem map_iN {l : List Nat} {g : Nat → Int} : l.map (fun a => Dat.int (g a)) = (l.map g).map Dat.int := by rw [List.map_map]; rfl
theorem forL_brk {asg : Dat → DEnv → Option DEnv} {F : DEnv → DFlow} (P : DEnv → Prop) : ∀ {l : List Dat} {ρ : DEnv}, P ρ → (∀ d ∈ l, ∀ ρ, P ρ → ∃ ρ1 ρ2, asg d ρ = some ρ1 ∧ (F ρ1 = .nx ρ2 ∨ F ρ1 = .bk ρ2) ∧ P ρ2) → ∃ ρ', forL asg F l ρ = .nx ρ' ∧ P ρ'
  | [], ρ, h0, _ => ⟨ρ, rfl, h0⟩
  | d :: r, ρ, h0, hs => by
    obtain ⟨ρ1, ρ2, e1, e2, p⟩ := hs d List.mem_cons_self ρ h0
    rw [u_for, e1, e_ft]
    rcases e2 with e2 | e2
    · rw [e2, e_fsn]
      exact forL_brk P p fun d hd => hs d (List.mem_cons_of_mem _ hd)
    · rw [e2, e_fsb]
      exact ⟨ρ2, rfl, p⟩
theorem fk1 (i0 : Nat) (I : Nat → Option Dat → Prop) {asg : Dat → DEnv → Option DEnv} {F : DEnv → DFlow} {l : List Dat} {ρ : DEnv} {r : DFlow} (hF : forL asg F l ρ = r) (h0 : ∀ x, (ρ.set i0 x) = ρ → I 0 x) (hs : ∀ k d x, l[k]? = some d → I k x → ∃ ρ1, asg d (ρ.set i0 x) = some ρ1 ∧ ∃ x', (F ρ1 = .nx (ρ.set i0 x') ∨ F ρ1 = .ct (ρ.set i0 x')) ∧ I (k + 1) x') : ∃ x, r = .nx (ρ.set i0 x) ∧ I l.length x := by
  obtain ⟨x0, hx⟩ := set_self' (ρ := ρ) (i := i0)
  have e0 : (ρ.set i0 x0) = ρ := by rw [hx]
  obtain ⟨ρ', e1, x, e2, e3⟩ := forL_inv' hF (fun k ρ' => ∃ x, ρ' = (ρ.set i0 x) ∧ I k x) ⟨x0, e0.symm, h0 x0 e0⟩ fun k d ρ' hk hp => by
    obtain ⟨x, rfl, hi⟩ := hp
    obtain ⟨ρ1, a1, x', a2, a3⟩ := hs k d x hk hi
    exact ⟨ρ1, _, a1, a2, x', rfl, a3⟩
  exact ⟨x, by rw [e1, e2], e3⟩
theorem fb1 (i0 : Nat) (I : Option Dat → Prop) {asg : Dat → DEnv → Option DEnv} {F : DEnv → DFlow} {l : List Dat} {ρ : DEnv} {r : DFlow} (hF : forL asg F l ρ = r) (h0 : ∀ x, (ρ.set i0 x) = ρ → I x) (hs : ∀ d x, d ∈ l → I x → ∃ ρ1, asg d (ρ.set i0 x) = some ρ1 ∧ ∃ x', (F ρ1 = .nx (ρ.set i0 x') ∨ F ρ1 = .bk (ρ.set i0 x')) ∧ I x') : ∃ x, r = .nx (ρ.set i0 x) ∧ I x := by
  obtain ⟨x0, hx⟩ := set_self' (ρ := ρ) (i := i0)
  have e0 : (ρ.set i0 x0) = ρ := by rw [hx]
  obtain ⟨ρ', e1, x, e2, e3⟩ := forL_brk (asg := asg) (F := F) (fun ρ' => ∃ x, ρ' = (ρ.set i0 x) ∧ I x) (l := l) (ρ := ρ) ⟨x0, e0.symm, h0 x0 e0⟩ fun d hd ρ' hp => by
    obtain ⟨x, rfl, hi⟩ := hp
    obtain ⟨ρ1, a1, x', a2, a3⟩ := hs d x hd hi
    exact ⟨ρ1, _, a1, a2, x', rfl, a3⟩
  exact ⟨x, by rw [← hF, e1, e2], e3⟩
theorem ff1 (i0 : Nat) (flt : Nat → Option Dat) {asg : Dat → DEnv → Option DEnv} {F : DEnv → DFlow} {l : List Dat} {ρ : DEnv} {r : DFlow} (hF : forL asg F l ρ = r) (hs : ∀ k d x, l[k]? = some d → ∃ ρ1, asg d (ρ.set i0 x) = some ρ1 ∧ ((∃ d', flt k = some d' ∧ F ρ1 = .rt d') ∨ (flt k = none ∧ ∃ x', (F ρ1 = .nx (ρ.set i0 x') ∨ F ρ1 = .ct (ρ.set i0 x'))))) : (∃ d, firstF flt 0 l.length = some d ∧ r = .rt d) ∨ (firstF flt 0 l.length = none ∧ ∃ x, r = .nx (ρ.set i0 x)) := by
  obtain ⟨x0, hx⟩ := set_self' (ρ := ρ) (i := i0)
  have e0 : (ρ.set i0 x0) = ρ := by rw [hx]
  have := forL_first (asg := asg) (F := F) flt (l := l) (ρ := ρ) 0 (fun _ ρ' => ∃ x, ρ' = (ρ.set i0 x)) ⟨x0, e0.symm⟩ fun k d ρ' hk hp => by
    obtain ⟨x, rfl⟩ := hp
    obtain ⟨ρ1, a1, a2⟩ := hs k d x hk
    rw [Nat.zero_add]
    refine ⟨ρ1, a1, ?_⟩
    rcases a2 with a2 | ⟨a2, x', a3⟩
    · exact .inl a2
    · exact .inr ⟨a2, _, a3, x', rfl⟩
  rw [hF] at this
  rcases this with h | ⟨h1, ρ', h2, x, rfl⟩
  · exact .inl h
  · exact .inr ⟨h1, x, h2⟩
theorem fk2 (i0 i1 : Nat) (I : Nat → Option Dat → Option Dat → Prop) {asg : Dat → DEnv → Option DEnv} {F : DEnv → DFlow} {l : List Dat} {ρ : DEnv} {r : DFlow} (hF : forL asg F l ρ = r) (h0 : ∀ x y, ((ρ.set i0 x).set i1 y) = ρ → I 0 x y) (hs : ∀ k d x y, l[k]? = some d → I k x y → ∃ ρ1, asg d ((ρ.set i0 x).set i1 y) = some ρ1 ∧ ∃ x' y', (F ρ1 = .nx ((ρ.set i0 x').set i1 y') ∨ F ρ1 = .ct ((ρ.set i0 x').set i1 y')) ∧ I (k + 1) x' y') : ∃ x y, r = .nx ((ρ.set i0 x).set i1 y) ∧ I l.length x y := by
  obtain ⟨x0, hx⟩ := set_self' (ρ := ρ) (i := i0)
  obtain ⟨y0, hy⟩ := set_self' (ρ := ρ) (i := i1)
  have e0 : ((ρ.set i0 x0).set i1 y0) = ρ := by rw [hx, hy]
  obtain ⟨ρ', e1, x, y, e2, e3⟩ := forL_inv' hF (fun k ρ' => ∃ x y, ρ' = ((ρ.set i0 x).set i1 y) ∧ I k x y) ⟨x0, y0, e0.symm, h0 x0 y0 e0⟩ fun k d ρ' hk hp => by
    obtain ⟨x, y, rfl, hi⟩ := hp
    obtain ⟨ρ1, a1, x', y', a2, a3⟩ := hs k d x y hk hi
    exact ⟨ρ1, _, a1, a2, x', y', rfl, a3⟩
  exact ⟨x, y, by rw [e1, e2], e3⟩
theorem fb2 (i0 i1 : Nat) (I : Option Dat → Option Dat → Prop) {asg : Dat → DEnv → Option DEnv} {F : DEnv → DFlow} {l : List Dat} {ρ : DEnv} {r : DFlow} (hF : forL asg F l ρ = r) (h0 : ∀ x y, ((ρ.set i0 x).set i1 y) = ρ → I x y) (hs : ∀ d x y, d ∈ l → I x y → ∃ ρ1, asg d ((ρ.set i0 x).set i1 y) = some ρ1 ∧ ∃ x' y', (F ρ1 = .nx ((ρ.set i0 x').set i1 y') ∨ F ρ1 = .bk ((ρ.set i0 x').set i1 y')) ∧ I x' y') : ∃ x y, r = .nx ((ρ.set i0 x).set i1 y) ∧ I x y := by
  obtain ⟨x0, hx⟩ := set_self' (ρ := ρ) (i := i0)
  obtain ⟨y0, hy⟩ := set_self' (ρ := ρ) (i := i1)
  have e0 : ((ρ.set i0 x0).set i1 y0) = ρ := by rw [hx, hy]
  obtain ⟨ρ', e1, x, y, e2, e3⟩ := forL_brk (asg := asg) (F := F) (fun ρ' => ∃ x y, ρ' = ((ρ.set i0 x).set i1 y) ∧ I x y) (l := l) (ρ := ρ) ⟨x0, y0, e0.symm, h0 x0 y0 e0⟩ fun d hd ρ' hp => by
    obtain ⟨x, y, rfl, hi⟩ := hp
    obtain ⟨ρ1, a1, x', y', a2, a3⟩ := hs d x y hd hi
    exact ⟨ρ1, _, a1, a2, x', y', rfl, a3⟩
  exact ⟨x, y, by rw [← hF, e1, e2], e3⟩
theorem ff2 (i0 i1 : Nat) (flt : Nat → Option Dat) {asg : Dat → DEnv → Option DEnv} {F : DEnv → DFlow} {l : List Dat} {ρ : DEnv} {r : DFlow} (hF : forL asg F l ρ = r) (hs : ∀ k d x y, l[k]? = some d → ∃ ρ1, asg d ((ρ.set i0 x).set i1 y) = some ρ1 ∧ ((∃ d', flt k = some d' ∧ F ρ1 = .rt d') ∨ (flt k = none ∧ ∃ x' y', (F ρ1 = .nx ((ρ.set i0 x').set i1 y') ∨ F ρ1 = .ct ((ρ.set i0 x').set i1 y'))))) : (∃ d, firstF flt 0 l.length = some d ∧ r = .rt d) ∨ (firstF flt 0 l.length = none ∧ ∃ x y, r = .nx ((ρ.set i0 x).set i1 y)) := by
  obtain ⟨x0, hx⟩ := set_self' (ρ := ρ) (i := i0)
  obtain ⟨y0, hy⟩ := set_self' (ρ := ρ) (i := i1)
  have e0 : ((ρ.set i0 x0).set i1 y0) = ρ := by rw [hx, hy]
  have := forL_first (asg := asg) (F := F) flt (l := l) (ρ := ρ) 0 (fun _ ρ' => ∃ x y, ρ' = ((ρ.set i0 x).set i1 y)) ⟨x0, y0, e0.symm⟩ fun k d ρ' hk hp => by
    obtain ⟨x, y, rfl⟩ := hp
    obtain ⟨ρ1, a1, a2⟩ := hs k d x y hk
    rw [Nat.zero_add]
    refine ⟨ρ1, a1, ?_⟩
    rcases a2 with a2 | ⟨a2, x', y', a3⟩
    · exact .inl a2
    · exact .inr ⟨a2, _, a3, x', y', rfl⟩
  rw [hF] at this
  rcases this with h | ⟨h1, ρ', h2, x, y, rfl⟩
  · exact .inl h
  · exact .inr ⟨h1, x, y, h2⟩
theorem fk3 (i0 i1 i2 : Nat) (I : Nat → Option Dat → Option Dat → Option Dat → Prop) {asg : Dat → DEnv → Option DEnv} {F : DEnv → DFlow} {l : List Dat} {ρ : DEnv} {r : DFlow} (hF : forL asg F l ρ = r) (h0 : ∀ x y z, (((ρ.set i0 x).set i1 y).set i2 z) = ρ → I 0 x y z) (hs : ∀ k d x y z, l[k]? = some d → I k x y z → ∃ ρ1, asg d (((ρ.set i0 x).set i1 y).set i2 z) = some ρ1 ∧ ∃ x' y' z', (F ρ1 = .nx (((ρ.set i0 x').set i1 y').set i2 z') ∨ F ρ1 = .ct (((ρ.set i0 x').set i1 y').set i2 z')) ∧ I (k + 1) x' y' z') : ∃ x y z, r = .nx (((ρ.set i0 x).set i1 y).set i2 z) ∧ I l.length x y z := by
  obtain ⟨x0, hx⟩ := set_self' (ρ := ρ) (i := i0)
  obtain ⟨y0, hy⟩ := set_self' (ρ := ρ) (i := i1)
  obtain ⟨z0, hz⟩ := set_self' (ρ := ρ) (i := i2)
  have e0 : (((ρ.set i0 x0).set i1 y0).set i2 z0) = ρ := by rw [hx, hy, hz]
  obtain ⟨ρ', e1, x, y, z, e2, e3⟩ := forL_inv' hF (fun k ρ' => ∃ x y z, ρ' = (((ρ.set i0 x).set i1 y).set i2 z) ∧ I k x y z) ⟨x0, y0, z0, e0.symm, h0 x0 y0 z0 e0⟩ fun k d ρ' hk hp => by
    obtain ⟨x, y, z, rfl, hi⟩ := hp
    obtain ⟨ρ1, a1, x', y', z', a2, a3⟩ := hs k d x y z hk hi
    exact ⟨ρ1, _, a1, a2, x', y', z', rfl, a3⟩
  exact ⟨x, y, z, by rw [e1, e2], e3⟩
theorem fb3 (i0 i1 i2 : Nat) (I : Option Dat → Option Dat → Option Dat → Prop) {asg : Dat → DEnv → Option DEnv} {F : DEnv → DFlow} {l : List Dat} {ρ : DEnv} {r : DFlow} (hF : forL asg F l ρ = r) (h0 : ∀ x y z, (((ρ.set i0 x).set i1 y).set i2 z) = ρ → I x y z) (hs : ∀ d x y z, d ∈ l → I x y z → ∃ ρ1, asg d (((ρ.set i0 x).set i1 y).set i2 z) = some ρ1 ∧ ∃ x' y' z', (F ρ1 = .nx (((ρ.set i0 x').set i1 y').set i2 z') ∨ F ρ1 = .bk (((ρ.set i0 x').set i1 y').set i2 z')) ∧ I x' y' z') : ∃ x y z, r = .nx (((ρ.set i0 x).set i1 y).set i2 z) ∧ I x y z := by
  obtain ⟨x0, hx⟩ := set_self' (ρ := ρ) (i := i0)
  obtain ⟨y0, hy⟩ := set_self' (ρ := ρ) (i := i1)
  obtain ⟨z0, hz⟩ := set_self' (ρ := ρ) (i := i2)
  have e0 : (((ρ.set i0 x0).set i1 y0).set i2 z0) = ρ := by rw [hx, hy, hz]
  obtain ⟨ρ', e1, x, y, z, e2, e3⟩ := forL_brk (asg := asg) (F := F) (fun ρ' => ∃ x y z, ρ' = (((ρ.set i0 x).set i1 y).set i2 z) ∧ I x y z) (l := l) (ρ := ρ) ⟨x0, y0, z0, e0.symm, h0 x0 y0 z0 e0⟩ fun d hd ρ' hp => by
    obtain ⟨x, y, z, rfl, hi⟩ := hp
    obtain ⟨ρ1, a1, x', y', z', a2, a3⟩ := hs d x y z hd hi
    exact ⟨ρ1, _, a1, a2, x', y', z', rfl, a3⟩
  exact ⟨x, y, z, by rw [← hF, e1, e2], e3⟩
theorem ff3 (i0 i1 i2 : Nat) (flt : Nat → Option Dat) {asg : Dat → DEnv → Option DEnv} {F : DEnv → DFlow} {l : List Dat} {ρ : DEnv} {r : DFlow} (hF : forL asg F l ρ = r) (hs : ∀ k d x y z, l[k]? = some d → ∃ ρ1, asg d (((ρ.set i0 x).set i1 y).set i2 z) = some ρ1 ∧ ((∃ d', flt k = some d' ∧ F ρ1 = .rt d') ∨ (flt k = none ∧ ∃ x' y' z', (F ρ1 = .nx (((ρ.set i0 x').set i1 y').set i2 z') ∨ F ρ1 = .ct (((ρ.set i0 x').set i1 y').set i2 z'))))) : (∃ d, firstF flt 0 l.length = some d ∧ r = .rt d) ∨ (firstF flt 0 l.length = none ∧ ∃ x y z, r = .nx (((ρ.set i0 x).set i1 y).set i2 z)) := by
  obtain ⟨x0, hx⟩ := set_self' (ρ := ρ) (i := i0)
  obtain ⟨y0, hy⟩ := set_self' (ρ := ρ) (i := i1)
  obtain ⟨z0, hz⟩ := set_self' (ρ := ρ) (i := i2)
  have e0 : (((ρ.set i0 x0).set i1 y0).set i2 z0) = ρ := by rw [hx, hy, hz]
  have := forL_first (asg := asg) (F := F) flt (l := l) (ρ := ρ) 0 (fun _ ρ' => ∃ x y z, ρ' = (((ρ.set i0 x).set i1 y).set i2 z)) ⟨x0, y0, z0, e0.symm⟩ fun k d ρ' hk hp => by
    obtain ⟨x, y, z, rfl⟩ := hp
    obtain ⟨ρ1, a1, a2⟩ := hs k d x y z hk
    rw [Nat.zero_add]
    refine ⟨ρ1, a1, ?_⟩
    rcases a2 with a2 | ⟨a2, x', y', z', a3⟩
    · exact .inl a2
    · exact .inr ⟨a2, _, a3, x', y', z', rfl⟩
  rw [hF] at this
  rcases this with h | ⟨h1, ρ', h2, x, y, z, rfl⟩
  · exact .inl h
  · exact .inr ⟨h1, x, y, z, h2⟩
theorem fk4 (i0 i1 i2 i3 : Nat) (I : Nat → Option Dat → Option Dat → Option Dat → Option Dat → Prop) {asg : Dat → DEnv → Option DEnv} {F : DEnv → DFlow} {l : List Dat} {ρ : DEnv} {r : DFlow} (hF : forL asg F l ρ = r) (h0 : ∀ x y z u, ((((ρ.set i0 x).set i1 y).set i2 z).set i3 u) = ρ → I 0 x y z u) (hs : ∀ k d x y z u, l[k]? = some d → I k x y z u → ∃ ρ1, asg d ((((ρ.set i0 x).set i1 y).set i2 z).set i3 u) = some ρ1 ∧ ∃ x' y' z' u', (F ρ1 = .nx ((((ρ.set i0 x').set i1 y').set i2 z').set i3 u') ∨ F ρ1 = .ct ((((ρ.set i0 x').set i1 y').set i2 z').set i3 u')) ∧ I (k + 1) x' y' z' u') : ∃ x y z u, r = .nx ((((ρ.set i0 x).set i1 y).set i2 z).set i3 u) ∧ I l.length x y z u := by
  obtain ⟨x0, hx⟩ := set_self' (ρ := ρ) (i := i0)
  obtain ⟨y0, hy⟩ := set_self' (ρ := ρ) (i := i1)
  obtain ⟨z0, hz⟩ := set_self' (ρ := ρ) (i := i2)
  obtain ⟨u0, hu⟩ := set_self' (ρ := ρ) (i := i3)
  have e0 : ((((ρ.set i0 x0).set i1 y0).set i2 z0).set i3 u0) = ρ := by rw [hx, hy, hz, hu]
  obtain ⟨ρ', e1, x, y, z, u, e2, e3⟩ := forL_inv' hF (fun k ρ' => ∃ x y z u, ρ' = ((((ρ.set i0 x).set i1 y).set i2 z).set i3 u) ∧ I k x y z u) ⟨x0, y0, z0, u0, e0.symm, h0 x0 y0 z0 u0 e0⟩ fun k d ρ' hk hp => by
    obtain ⟨x, y, z, u, rfl, hi⟩ := hp
    obtain ⟨ρ1, a1, x', y', z', u', a2, a3⟩ := hs k d x y z u hk hi
    exact ⟨ρ1, _, a1, a2, x', y', z', u', rfl, a3⟩
  exact ⟨x, y, z, u, by rw [e1, e2], e3⟩
theorem fb4 (i0 i1 i2 i3 : Nat) (I : Option Dat → Option Dat → Option Dat → Option Dat → Prop) {asg : Dat → DEnv → Option DEnv} {F : DEnv → DFlow} {l : List Dat} {ρ : DEnv} {r : DFlow} (hF : forL asg F l ρ = r) (h0 : ∀ x y z u, ((((ρ.set i0 x).set i1 y).set i2 z).set i3 u) = ρ → I x y z u) (hs : ∀ d x y z u, d ∈ l → I x y z u → ∃ ρ1, asg d ((((ρ.set i0 x).set i1 y).set i2 z).set i3 u) = some ρ1 ∧ ∃ x' y' z' u', (F ρ1 = .nx ((((ρ.set i0 x').set i1 y').set i2 z').set i3 u') ∨ F ρ1 = .bk ((((ρ.set i0 x').set i1 y').set i2 z').set i3 u')) ∧ I x' y' z' u') : ∃ x y z u, r = .nx ((((ρ.set i0 x).set i1 y).set i2 z).set i3 u) ∧ I x y z u := by
  obtain ⟨x0, hx⟩ := set_self' (ρ := ρ) (i := i0)
  obtain ⟨y0, hy⟩ := set_self' (ρ := ρ) (i := i1)
  obtain ⟨z0, hz⟩ := set_self' (ρ := ρ) (i := i2)
  obtain ⟨u0, hu⟩ := set_self' (ρ := ρ) (i := i3)
  have e0 : ((((ρ.set i0 x0).set i1 y0).set i2 z0).set i3 u0) = ρ := by rw [hx, hy, hz, hu]
  obtain ⟨ρ', e1, x, y, z, u, e2, e3⟩ := forL_brk (asg := asg) (F := F) (fun ρ' => ∃ x y z u, ρ' = ((((ρ.set i0 x).set i1 y).set i2 z).set i3 u) ∧ I x y z u) (l := l) (ρ := ρ) ⟨x0, y0, z0, u0, e0.symm, h0 x0 y0 z0 u0 e0⟩ fun d hd ρ' hp => by
    obtain ⟨x, y, z, u, rfl, hi⟩ := hp
    obtain ⟨ρ1, a1, x', y', z', u', a2, a3⟩ := hs d x y z u hd hi
    exact ⟨ρ1, _, a1, a2, x', y', z', u', rfl, a3⟩
  exact ⟨x, y, z, u, by rw [← hF, e1, e2], e3⟩
theorem ff4 (i0 i1 i2 i3 : Nat) (flt : Nat → Option Dat) {asg : Dat → DEnv → Option DEnv} {F : DEnv → DFlow} {l : List Dat} {ρ : DEnv} {r : DFlow} (hF : forL asg F l ρ = r) (hs : ∀ k d x y z u, l[k]? = some d → ∃ ρ1, asg d ((((ρ.set i0 x).set i1 y).set i2 z).set i3 u) = some ρ1 ∧ ((∃ d', flt k = some d' ∧ F ρ1 = .rt d') ∨ (flt k = none ∧ ∃ x' y' z' u', (F ρ1 = .nx ((((ρ.set i0 x').set i1 y').set i2 z').set i3 u') ∨ F ρ1 = .ct ((((ρ.set i0 x').set i1 y').set i2 z').set i3 u'))))) : (∃ d, firstF flt 0 l.length = some d ∧ r = .rt d) ∨ (firstF flt 0 l.length = none ∧ ∃ x y z u, r = .nx ((((ρ.set i0 x).set i1 y).set i2 z).set i3 u)) := by
  obtain ⟨x0, hx⟩ := set_self' (ρ := ρ) (i := i0)
  obtain ⟨y0, hy⟩ := set_self' (ρ := ρ) (i := i1)
  obtain ⟨z0, hz⟩ := set_self' (ρ := ρ) (i := i2)
  obtain ⟨u0, hu⟩ := set_self' (ρ := ρ) (i := i3)
  have e0 : ((((ρ.set i0 x0).set i1 y0).set i2 z0).set i3 u0) = ρ := by rw [hx, hy, hz, hu]
  have := forL_first (asg := asg) (F := F) flt (l := l) (ρ := ρ) 0 (fun _ ρ' => ∃ x y z u, ρ' = ((((ρ.set i0 x).set i1 y).set i2 z).set i3 u)) ⟨x0, y0, z0, u0, e0.symm⟩ fun k d ρ' hk hp => by
    obtain ⟨x, y, z, u, rfl⟩ := hp
    obtain ⟨ρ1, a1, a2⟩ := hs k d x y z u hk
    rw [Nat.zero_add]
    refine ⟨ρ1, a1, ?_⟩
    rcases a2 with a2 | ⟨a2, x', y', z', u', a3⟩
    · exact .inl a2
    · exact .inr ⟨a2, _, a3, x', y', z', u', rfl⟩
  rw [hF] at this
  rcases this with h | ⟨h1, ρ', h2, x, y, z, u, rfl⟩
  · exact .inl h
  · exact .inr ⟨h1, x, y, z, u, h2⟩
theorem fk5 (i0 i1 i2 i3 i4 : Nat) (I : Nat → Option Dat → Option Dat → Option Dat → Option Dat → Option Dat → Prop) {asg : Dat → DEnv → Option DEnv} {F : DEnv → DFlow} {l : List Dat} {ρ : DEnv} {r : DFlow} (hF : forL asg F l ρ = r) (h0 : ∀ x y z u v, (((((ρ.set i0 x).set i1 y).set i2 z).set i3 u).set i4 v) = ρ → I 0 x y z u v) (hs : ∀ k d x y z u v, l[k]? = some d → I k x y z u v → ∃ ρ1, asg d (((((ρ.set i0 x).set i1 y).set i2 z).set i3 u).set i4 v) = some ρ1 ∧ ∃ x' y' z' u' v', (F ρ1 = .nx (((((ρ.set i0 x').set i1 y').set i2 z').set i3 u').set i4 v') ∨ F ρ1 = .ct (((((ρ.set i0 x').set i1 y').set i2 z').set i3 u').set i4 v')) ∧ I (k + 1) x' y' z' u' v') : ∃ x y z u v, r = .nx (((((ρ.set i0 x).set i1 y).set i2 z).set i3 u).set i4 v) ∧ I l.length x y z u v := by
  obtain ⟨x0, hx⟩ := set_self' (ρ := ρ) (i := i0)
  obtain ⟨y0, hy⟩ := set_self' (ρ := ρ) (i := i1)
  obtain ⟨z0, hz⟩ := set_self' (ρ := ρ) (i := i2)
  obtain ⟨u0, hu⟩ := set_self' (ρ := ρ) (i := i3)
  obtain ⟨v0, hv⟩ := set_self' (ρ := ρ) (i := i4)
  have e0 : (((((ρ.set i0 x0).set i1 y0).set i2 z0).set i3 u0).set i4 v0) = ρ := by rw [hx, hy, hz, hu, hv]
  obtain ⟨ρ', e1, x, y, z, u, v, e2, e3⟩ := forL_inv' hF (fun k ρ' => ∃ x y z u v, ρ' = (((((ρ.set i0 x).set i1 y).set i2 z).set i3 u).set i4 v) ∧ I k x y z u v) ⟨x0, y0, z0, u0, v0, e0.symm, h0 x0 y0 z0 u0 v0 e0⟩ fun k d ρ' hk hp => by
    obtain ⟨x, y, z, u, v, rfl, hi⟩ := hp
    obtain ⟨ρ1, a1, x', y', z', u', v', a2, a3⟩ := hs k d x y z u v hk hi
    exact ⟨ρ1, _, a1, a2, x', y', z', u', v', rfl, a3⟩
  exact ⟨x, y, z, u, v, by rw [e1, e2], e3⟩
theorem fb5 (i0 i1 i2 i3 i4 : Nat) (I : Option Dat → Option Dat → Option Dat → Option Dat → Option Dat → Prop) {asg : Dat → DEnv → Option DEnv} {F : DEnv → DFlow} {l : List Dat} {ρ : DEnv} {r : DFlow} (hF : forL asg F l ρ = r) (h0 : ∀ x y z u v, (((((ρ.set i0 x).set i1 y).set i2 z).set i3 u).set i4 v) = ρ → I x y z u v) (hs : ∀ d x y z u v, d ∈ l → I x y z u v → ∃ ρ1, asg d (((((ρ.set i0 x).set i1 y).set i2 z).set i3 u).set i4 v) = some ρ1 ∧ ∃ x' y' z' u' v', (F ρ1 = .nx (((((ρ.set i0 x').set i1 y').set i2 z').set i3 u').set i4 v') ∨ F ρ1 = .bk (((((ρ.set i0 x').set i1 y').set i2 z').set i3 u').set i4 v')) ∧ I x' y' z' u' v') : ∃ x y z u v, r = .nx (((((ρ.set i0 x).set i1 y).set i2 z).set i3 u).set i4 v) ∧ I x y z u v := by
  obtain ⟨x0, hx⟩ := set_self' (ρ := ρ) (i := i0)
  obtain ⟨y0, hy⟩ := set_self' (ρ := ρ) (i := i1)
  obtain ⟨z0, hz⟩ := set_self' (ρ := ρ) (i := i2)
  obtain ⟨u0, hu⟩ := set_self' (ρ := ρ) (i := i3)
  obtain ⟨v0, hv⟩ := set_self' (ρ := ρ) (i := i4)
  have e0 : (((((ρ.set i0 x0).set i1 y0).set i2 z0).set i3 u0).set i4 v0) = ρ := by rw [hx, hy, hz, hu, hv]
  obtain ⟨ρ', e1, x, y, z, u, v, e2, e3⟩ := forL_brk (asg := asg) (F := F) (fun ρ' => ∃ x y z u v, ρ' = (((((ρ.set i0 x).set i1 y).set i2 z).set i3 u).set i4 v) ∧ I x y z u v) (l := l) (ρ := ρ) ⟨x0, y0, z0, u0, v0, e0.symm, h0 x0 y0 z0 u0 v0 e0⟩ fun d hd ρ' hp => by
    obtain ⟨x, y, z, u, v, rfl, hi⟩ := hp
    obtain ⟨ρ1, a1, x', y', z', u', v', a2, a3⟩ := hs d x y z u v hd hi
    exact ⟨ρ1, _, a1, a2, x', y', z', u', v', rfl, a3⟩
  exact ⟨x, y, z, u, v, by rw [← hF, e1, e2], e3⟩
theorem ff5 (i0 i1 i2 i3 i4 : Nat) (flt : Nat → Option Dat) {asg : Dat → DEnv → Option DEnv} {F : DEnv → DFlow} {l : List Dat} {ρ : DEnv} {r : DFlow} (hF : forL asg F l ρ = r) (hs : ∀ k d x y z u v, l[k]? = some d → ∃ ρ1, asg d (((((ρ.set i0 x).set i1 y).set i2 z).set i3 u).set i4 v) = some ρ1 ∧ ((∃ d', flt k = some d' ∧ F ρ1 = .rt d') ∨ (flt k = none ∧ ∃ x' y' z' u' v', (F ρ1 = .nx (((((ρ.set i0 x').set i1 y').set i2 z').set i3 u').set i4 v') ∨ F ρ1 = .ct (((((ρ.set i0 x').set i1 y').set i2 z').set i3 u').set i4 v'))))) : (∃ d, firstF flt 0 l.length = some d ∧ r = .rt d) ∨ (firstF flt 0 l.length = none ∧ ∃ x y z u v, r = .nx (((((ρ.set i0 x).set i1 y).set i2 z).set i3 u).set i4 v)) := by
  obtain ⟨x0, hx⟩ := set_self' (ρ := ρ) (i := i0)
  obtain ⟨y0, hy⟩ := set_self' (ρ := ρ) (i := i1)
  obtain ⟨z0, hz⟩ := set_self' (ρ := ρ) (i := i2)
  obtain ⟨u0, hu⟩ := set_self' (ρ := ρ) (i := i3)
  obtain ⟨v0, hv⟩ := set_self' (ρ := ρ) (i := i4)
  have e0 : (((((ρ.set i0 x0).set i1 y0).set i2 z0).set i3 u0).set i4 v0) = ρ := by rw [hx, hy, hz, hu, hv]
  have := forL_first (asg := asg) (F := F) flt (l := l) (ρ := ρ) 0 (fun _ ρ' => ∃ x y z u v, ρ' = (((((ρ.set i0 x).set i1 y).set i2 z).set i3 u).set i4 v)) ⟨x0, y0, z0, u0, v0, e0.symm⟩ fun k d ρ' hk hp => by
    obtain ⟨x, y, z, u, v, rfl⟩ := hp
    obtain ⟨ρ1, a1, a2⟩ := hs k d x y z u v hk
    rw [Nat.zero_add]
    refine ⟨ρ1, a1, ?_⟩
    rcases a2 with a2 | ⟨a2, x', y', z', u', v', a3⟩
    · exact .inl a2
    · exact .inr ⟨a2, _, a3, x', y', z', u', v', rfl⟩
  rw [hF] at this
  rcases this with h | ⟨h1, ρ', h2, x, y, z, u, v, rfl⟩
  · exact .inl h
  · exact .inr ⟨h1, x, y, z, u, v, h2⟩
theorem fk6 (i0 i1 i2 i3 i4 i5 : Nat) (I : Nat → Option Dat → Option Dat → Option Dat → Option Dat → Option Dat → Option Dat → Prop) {asg : Dat → DEnv → Option DEnv} {F : DEnv → DFlow} {l : List Dat} {ρ : DEnv} {r : DFlow} (hF : forL asg F l ρ = r) (h0 : ∀ x y z u v w, ((((((ρ.set i0 x).set i1 y).set i2 z).set i3 u).set i4 v).set i5 w) = ρ → I 0 x y z u v w) (hs : ∀ k d x y z u v w, l[k]? = some d → I k x y z u v w → ∃ ρ1, asg d ((((((ρ.set i0 x).set i1 y).set i2 z).set i3 u).set i4 v).set i5 w) = some ρ1 ∧ ∃ x' y' z' u' v' w', (F ρ1 = .nx ((((((ρ.set i0 x').set i1 y').set i2 z').set i3 u').set i4 v').set i5 w') ∨ F ρ1 = .ct ((((((ρ.set i0 x').set i1 y').set i2 z').set i3 u').set i4 v').set i5 w')) ∧ I (k + 1) x' y' z' u' v' w') : ∃ x y z u v w, r = .nx ((((((ρ.set i0 x).set i1 y).set i2 z).set i3 u).set i4 v).set i5 w) ∧ I l.length x y z u v w := by
  obtain ⟨x0, hx⟩ := set_self' (ρ := ρ) (i := i0)
  obtain ⟨y0, hy⟩ := set_self' (ρ := ρ) (i := i1)
  obtain ⟨z0, hz⟩ := set_self' (ρ := ρ) (i := i2)
  obtain ⟨u0, hu⟩ := set_self' (ρ := ρ) (i := i3)
  obtain ⟨v0, hv⟩ := set_self' (ρ := ρ) (i := i4)
  obtain ⟨w0, hw⟩ := set_self' (ρ := ρ) (i := i5)
  have e0 : ((((((ρ.set i0 x0).set i1 y0).set i2 z0).set i3 u0).set i4 v0).set i5 w0) = ρ := by rw [hx, hy, hz, hu, hv, hw]
  obtain ⟨ρ', e1, x, y, z, u, v, w, e2, e3⟩ := forL_inv' hF (fun k ρ' => ∃ x y z u v w, ρ' = ((((((ρ.set i0 x).set i1 y).set i2 z).set i3 u).set i4 v).set i5 w) ∧ I k x y z u v w) ⟨x0, y0, z0, u0, v0, w0, e0.symm, h0 x0 y0 z0 u0 v0 w0 e0⟩ fun k d ρ' hk hp => by
    obtain ⟨x, y, z, u, v, w, rfl, hi⟩ := hp
    obtain ⟨ρ1, a1, x', y', z', u', v', w', a2, a3⟩ := hs k d x y z u v w hk hi
    exact ⟨ρ1, _, a1, a2, x', y', z', u', v', w', rfl, a3⟩
  exact ⟨x, y, z, u, v, w, by rw [e1, e2], e3⟩
theorem fb6 (i0 i1 i2 i3 i4 i5 : Nat) (I : Option Dat → Option Dat → Option Dat → Option Dat → Option Dat → Option Dat → Prop) {asg : Dat → DEnv → Option DEnv} {F : DEnv → DFlow} {l : List Dat} {ρ : DEnv} {r : DFlow} (hF : forL asg F l ρ = r) (h0 : ∀ x y z u v w, ((((((ρ.set i0 x).set i1 y).set i2 z).set i3 u).set i4 v).set i5 w) = ρ → I x y z u v w) (hs : ∀ d x y z u v w, d ∈ l → I x y z u v w → ∃ ρ1, asg d ((((((ρ.set i0 x).set i1 y).set i2 z).set i3 u).set i4 v).set i5 w) = some ρ1 ∧ ∃ x' y' z' u' v' w', (F ρ1 = .nx ((((((ρ.set i0 x').set i1 y').set i2 z').set i3 u').set i4 v').set i5 w') ∨ F ρ1 = .bk ((((((ρ.set i0 x').set i1 y').set i2 z').set i3 u').set i4 v').set i5 w')) ∧ I x' y' z' u' v' w') : ∃ x y z u v w, r = .nx ((((((ρ.set i0 x).set i1 y).set i2 z).set i3 u).set i4 v).set i5 w) ∧ I x y z u v w := by
  obtain ⟨x0, hx⟩ := set_self' (ρ := ρ) (i := i0)
  obtain ⟨y0, hy⟩ := set_self' (ρ := ρ) (i := i1)
  obtain ⟨z0, hz⟩ := set_self' (ρ := ρ) (i := i2)
  obtain ⟨u0, hu⟩ := set_self' (ρ := ρ) (i := i3)
  obtain ⟨v0, hv⟩ := set_self' (ρ := ρ) (i := i4)
  obtain ⟨w0, hw⟩ := set_self' (ρ := ρ) (i := i5)
  have e0 : ((((((ρ.set i0 x0).set i1 y0).set i2 z0).set i3 u0).set i4 v0).set i5 w0) = ρ := by rw [hx, hy, hz, hu, hv, hw]
  obtain ⟨ρ', e1, x, y, z, u, v, w, e2, e3⟩ := forL_brk (asg := asg) (F := F) (fun ρ' => ∃ x y z u v w, ρ' = ((((((ρ.set i0 x).set i1 y).set i2 z).set i3 u).set i4 v).set i5 w) ∧ I x y z u v w) (l := l) (ρ := ρ) ⟨x0, y0, z0, u0, v0, w0, e0.symm, h0 x0 y0 z0 u0 v0 w0 e0⟩ fun d hd ρ' hp => by
    obtain ⟨x, y, z, u, v, w, rfl, hi⟩ := hp
    obtain ⟨ρ1, a1, x', y', z', u', v', w', a2, a3⟩ := hs d x y z u v w hd hi
    exact ⟨ρ1, _, a1, a2, x', y', z', u', v', w', rfl, a3⟩
  exact ⟨x, y, z, u, v, w, by rw [← hF, e1, e2], e3⟩
theorem ff6 (i0 i1 i2 i3 i4 i5 : Nat) (flt : Nat → Option Dat) {asg : Dat → DEnv → Option DEnv} {F : DEnv → DFlow} {l : List Dat} {ρ : DEnv} {r : DFlow} (hF : forL asg F l ρ = r) (hs : ∀ k d x y z u v w, l[k]? = some d → ∃ ρ1, asg d ((((((ρ.set i0 x).set i1 y).set i2 z).set i3 u).set i4 v).set i5 w) = some ρ1 ∧ ((∃ d', flt k = some d' ∧ F ρ1 = .rt d') ∨ (flt k = none ∧ ∃ x' y' z' u' v' w', (F ρ1 = .nx ((((((ρ.set i0 x').set i1 y').set i2 z').set i3 u').set i4 v').set i5 w') ∨ F ρ1 = .ct ((((((ρ.set i0 x').set i1 y').set i2 z').set i3 u').set i4 v').set i5 w'))))) : (∃ d, firstF flt 0 l.length = some d ∧ r = .rt d) ∨ (firstF flt 0 l.length = none ∧ ∃ x y z u v w, r = .nx ((((((ρ.set i0 x).set i1 y).set i2 z).set i3 u).set i4 v).set i5 w)) := by
  obtain ⟨x0, hx⟩ := set_self' (ρ := ρ) (i := i0)
  obtain ⟨y0, hy⟩ := set_self' (ρ := ρ) (i := i1)
  obtain ⟨z0, hz⟩ := set_self' (ρ := ρ) (i := i2)
  obtain ⟨u0, hu⟩ := set_self' (ρ := ρ) (i := i3)
  obtain ⟨v0, hv⟩ := set_self' (ρ := ρ) (i := i4)
  obtain ⟨w0, hw⟩ := set_self' (ρ := ρ) (i := i5)
  have e0 : ((((((ρ.set i0 x0).set i1 y0).set i2 z0).set i3 u0).set i4 v0).set i5 w0) = ρ := by rw [hx, hy, hz, hu, hv, hw]
  have := forL_first (asg := asg) (F := F) flt (l := l) (ρ := ρ) 0 (fun _ ρ' => ∃ x y z u v w, ρ' = ((((((ρ.set i0 x).set i1 y).set i2 z).set i3 u).set i4 v).set i5 w)) ⟨x0, y0, z0, u0, v0, w0, e0.symm⟩ fun k d ρ' hk hp => by
    obtain ⟨x, y, z, u, v, w, rfl⟩ := hp
    obtain ⟨ρ1, a1, a2⟩ := hs k d x y z u v w hk
    rw [Nat.zero_add]
    refine ⟨ρ1, a1, ?_⟩
    rcases a2 with a2 | ⟨a2, x', y', z', u', v', w', a3⟩
    · exact .inl a2
    · exact .inr ⟨a2, _, a3, x', y', z', u', v', w', rfl⟩
  rw [hF] at this
  rcases this with h | ⟨h1, ρ', h2, x, y, z, u, v, w, rfl⟩
  · exact .inl h
  · exact .inr ⟨h1, x, y, z, u, v, w, h2⟩
theorem fk7 (i0 i1 i2 i3 i4 i5 i6 : Nat) (I : Nat → Option Dat → Option Dat → Option Dat → Option Dat → Option Dat → Option Dat → Option Dat → Prop) {asg : Dat → DEnv → Option DEnv} {F : DEnv → DFlow} {l : List Dat} {ρ : DEnv} {r : DFlow} (hF : forL asg F l ρ = r) (h0 : ∀ x y z u v w p, (((((((ρ.set i0 x).set i1 y).set i2 z).set i3 u).set i4 v).set i5 w).set i6 p) = ρ → I 0 x y z u v w p) (hs : ∀ k d x y z u v w p, l[k]? = some d → I k x y z u v w p → ∃ ρ1, asg d (((((((ρ.set i0 x).set i1 y).set i2 z).set i3 u).set i4 v).set i5 w).set i6 p) = some ρ1 ∧ ∃ x' y' z' u' v' w' p', (F ρ1 = .nx (((((((ρ.set i0 x').set i1 y').set i2 z').set i3 u').set i4 v').set i5 w').set i6 p') ∨ F ρ1 = .ct (((((((ρ.set i0 x').set i1 y').set i2 z').set i3 u').set i4 v').set i5 w').set i6 p')) ∧ I (k + 1) x' y' z' u' v' w' p') : ∃ x y z u v w p, r = .nx (((((((ρ.set i0 x).set i1 y).set i2 z).set i3 u).set i4 v).set i5 w).set i6 p) ∧ I l.length x y z u v w p := by
  obtain ⟨x0, hx⟩ := set_self' (ρ := ρ) (i := i0)
  obtain ⟨y0, hy⟩ := set_self' (ρ := ρ) (i := i1)
  obtain ⟨z0, hz⟩ := set_self' (ρ := ρ) (i := i2)
  obtain ⟨u0, hu⟩ := set_self' (ρ := ρ) (i := i3)
  obtain ⟨v0, hv⟩ := set_self' (ρ := ρ) (i := i4)
  obtain ⟨w0, hw⟩ := set_self' (ρ := ρ) (i := i5)
  obtain ⟨p0, hp⟩ := set_self' (ρ := ρ) (i := i6)
  have e0 : (((((((ρ.set i0 x0).set i1 y0).set i2 z0).set i3 u0).set i4 v0).set i5 w0).set i6 p0) = ρ := by rw [hx, hy, hz, hu, hv, hw, hp]
  obtain ⟨ρ', e1, x, y, z, u, v, w, p, e2, e3⟩ := forL_inv' hF (fun k ρ' => ∃ x y z u v w p, ρ' = (((((((ρ.set i0 x).set i1 y).set i2 z).set i3 u).set i4 v).set i5 w).set i6 p) ∧ I k x y z u v w p) ⟨x0, y0, z0, u0, v0, w0, p0, e0.symm, h0 x0 y0 z0 u0 v0 w0 p0 e0⟩ fun k d ρ' hk hp => by
    obtain ⟨x, y, z, u, v, w, p, rfl, hi⟩ := hp
    obtain ⟨ρ1, a1, x', y', z', u', v', w', p', a2, a3⟩ := hs k d x y z u v w p hk hi
    exact ⟨ρ1, _, a1, a2, x', y', z', u', v', w', p', rfl, a3⟩
  exact ⟨x, y, z, u, v, w, p, by rw [e1, e2], e3⟩
theorem fb7 (i0 i1 i2 i3 i4 i5 i6 : Nat) (I : Option Dat → Option Dat → Option Dat → Option Dat → Option Dat → Option Dat → Option Dat → Prop) {asg : Dat → DEnv → Option DEnv} {F : DEnv → DFlow} {l : List Dat} {ρ : DEnv} {r : DFlow} (hF : forL asg F l ρ = r) (h0 : ∀ x y z u v w p, (((((((ρ.set i0 x).set i1 y).set i2 z).set i3 u).set i4 v).set i5 w).set i6 p) = ρ → I x y z u v w p) (hs : ∀ d x y z u v w p, d ∈ l → I x y z u v w p → ∃ ρ1, asg d (((((((ρ.set i0 x).set i1 y).set i2 z).set i3 u).set i4 v).set i5 w).set i6 p) = some ρ1 ∧ ∃ x' y' z' u' v' w' p', (F ρ1 = .nx (((((((ρ.set i0 x').set i1 y').set i2 z').set i3 u').set i4 v').set i5 w').set i6 p') ∨ F ρ1 = .bk (((((((ρ.set i0 x').set i1 y').set i2 z').set i3 u').set i4 v').set i5 w').set i6 p')) ∧ I x' y' z' u' v' w' p') : ∃ x y z u v w p, r = .nx (((((((ρ.set i0 x).set i1 y).set i2 z).set i3 u).set i4 v).set i5 w).set i6 p) ∧ I x y z u v w p := by
  obtain ⟨x0, hx⟩ := set_self' (ρ := ρ) (i := i0)
  obtain ⟨y0, hy⟩ := set_self' (ρ := ρ) (i := i1)
  obtain ⟨z0, hz⟩ := set_self' (ρ := ρ) (i := i2)
  obtain ⟨u0, hu⟩ := set_self' (ρ := ρ) (i := i3)
  obtain ⟨v0, hv⟩ := set_self' (ρ := ρ) (i := i4)
  obtain ⟨w0, hw⟩ := set_self' (ρ := ρ) (i := i5)
  obtain ⟨p0, hp⟩ := set_self' (ρ := ρ) (i := i6)
  have e0 : (((((((ρ.set i0 x0).set i1 y0).set i2 z0).set i3 u0).set i4 v0).set i5 w0).set i6 p0) = ρ := by rw [hx, hy, hz, hu, hv, hw, hp]
  obtain ⟨ρ', e1, x, y, z, u, v, w, p, e2, e3⟩ := forL_brk (asg := asg) (F := F) (fun ρ' => ∃ x y z u v w p, ρ' = (((((((ρ.set i0 x).set i1 y).set i2 z).set i3 u).set i4 v).set i5 w).set i6 p) ∧ I x y z u v w p) (l := l) (ρ := ρ) ⟨x0, y0, z0, u0, v0, w0, p0, e0.symm, h0 x0 y0 z0 u0 v0 w0 p0 e0⟩ fun d hd ρ' hp => by
    obtain ⟨x, y, z, u, v, w, p, rfl, hi⟩ := hp
    obtain ⟨ρ1, a1, x', y', z', u', v', w', p', a2, a3⟩ := hs d x y z u v w p hd hi
    exact ⟨ρ1, _, a1, a2, x', y', z', u', v', w', p', rfl, a3⟩
  exact ⟨x, y, z, u, v, w, p, by rw [← hF, e1, e2], e3⟩
theorem ff7 (i0 i1 i2 i3 i4 i5 i6 : Nat) (flt : Nat → Option Dat) {asg : Dat → DEnv → Option DEnv} {F : DEnv → DFlow} {l : List Dat} {ρ : DEnv} {r : DFlow} (hF : forL asg F l ρ = r) (hs : ∀ k d x y z u v w p, l[k]? = some d → ∃ ρ1, asg d (((((((ρ.set i0 x).set i1 y).set i2 z).set i3 u).set i4 v).set i5 w).set i6 p) = some ρ1 ∧ ((∃ d', flt k = some d' ∧ F ρ1 = .rt d') ∨ (flt k = none ∧ ∃ x' y' z' u' v' w' p', (F ρ1 = .nx (((((((ρ.set i0 x').set i1 y').set i2 z').set i3 u').set i4 v').set i5 w').set i6 p') ∨ F ρ1 = .ct (((((((ρ.set i0 x').set i1 y').set i2 z').set i3 u').set i4 v').set i5 w').set i6 p'))))) : (∃ d, firstF flt 0 l.length = some d ∧ r = .rt d) ∨ (firstF flt 0 l.length = none ∧ ∃ x y z u v w p, r = .nx (((((((ρ.set i0 x).set i1 y).set i2 z).set i3 u).set i4 v).set i5 w).set i6 p)) := by
  obtain ⟨x0, hx⟩ := set_self' (ρ := ρ) (i := i0)
  obtain ⟨y0, hy⟩ := set_self' (ρ := ρ) (i := i1)
  obtain ⟨z0, hz⟩ := set_self' (ρ := ρ) (i := i2)
  obtain ⟨u0, hu⟩ := set_self' (ρ := ρ) (i := i3)
  obtain ⟨v0, hv⟩ := set_self' (ρ := ρ) (i := i4)
  obtain ⟨w0, hw⟩ := set_self' (ρ := ρ) (i := i5)
  obtain ⟨p0, hp⟩ := set_self' (ρ := ρ) (i := i6)
  have e0 : (((((((ρ.set i0 x0).set i1 y0).set i2 z0).set i3 u0).set i4 v0).set i5 w0).set i6 p0) = ρ := by rw [hx, hy, hz, hu, hv, hw, hp]
  have := forL_first (asg := asg) (F := F) flt (l := l) (ρ := ρ) 0 (fun _ ρ' => ∃ x y z u v w p, ρ' = (((((((ρ.set i0 x).set i1 y).set i2 z).set i3 u).set i4 v).set i5 w).set i6 p)) ⟨x0, y0, z0, u0, v0, w0, p0, e0.symm⟩ fun k d ρ' hk hp => by
    obtain ⟨x, y, z, u, v, w, p, rfl⟩ := hp
    obtain ⟨ρ1, a1, a2⟩ := hs k d x y z u v w p hk
    rw [Nat.zero_add]
    refine ⟨ρ1, a1, ?_⟩
    rcases a2 with a2 | ⟨a2, x', y', z', u', v', w', p', a3⟩
    · exact .inl a2
    · exact .inr ⟨a2, _, a3, x', y', z', u', v', w', p', rfl⟩
  rw [hF] at this
  rcases this with h | ⟨h1, ρ', h2, x, y, z, u, v, w, p, rfl⟩
  · exact .inl h
  · exact .inr ⟨h1, x, y, z, u, v, w, p, h2⟩
theorem cp_n {P : DEnv → Prop} {G : Dat → Prop} {ρ : DEnv} : contP P G (.nx ρ) = P ρ := (rfl)
theorem cp_c {P : DEnv → Prop} {G : Dat → Prop} {ρ : DEnv} : contP P G (.ct ρ) = P ρ := (rfl)
theorem cp_r {P : DEnv → Prop} {G : Dat → Prop} {d : Dat} : contP P G (.rt d) = G d := (rfl)
theorem eqvs_self : ∀ {l : List Dat}, (∀ d ∈ l, eqvD d d = true) → eqvDs l l = true
  | [], _ => rfl
  | d :: r, h => by
    show (eqvD d d && eqvDs r r) = true
    rw [h d List.mem_cons_self, eqvs_self fun e he => h e (List.mem_cons_of_mem _ he)]
    rfl
theorem eqv_self : ∀ (n : Nat) (d : Dat), shp n d = true → eqvD d d = true
  | _, .non, _ => rfl
  | _, .bl b, _ => by show (b == b) = true; exact beq_self_eq_true b
  | _, .int i, _ => by show (i == i) = true; exact beq_self_eq_true i
  | _, .str s, _ => by show (s == s) = true; exact beq_self_eq_true s
  | 0, .tup l, h => by cases h
  | 0, .lst l, h => by cases h
  | n + 1, .tup l, h => eqvs_self fun d hd => eqv_self n d (List.all_eq_true.mp (show l.all (shp n) = true from h) d hd)
  | n + 1, .lst l, h => eqvs_self fun d hd => eqv_self n d (List.all_eq_true.mp (show l.all (shp n) = true from h) d hd)
  | 0, .frz l, h => by cases h
  | n + 1, .frz l, h => by cases h
  | 0, .obj c l, h => by cases h
  | n + 1, .obj c l, h => by cases h
  | 0, .dct ks l, h => by cases h
  | n + 1, .dct ks l, h => by cases h
  | 0, .rng i c m, h => by cases h
  | n + 1, .rng i c m, h => by cases h
theorem ne_refl {d : Dat} (h : shp 8 d = true) : neD d d = some (.bl false) := by
  unfold neD
  rw [h, eqv_self 8 d h]
  rfl
theorem eq_refl {d : Dat} (h : shp 8 d = true) : eqD d d = some (.bl true) := by
  unfold eqD
  rw [h, eqv_self 8 d h]
  rfl
theorem eqvs_int : ∀ (a b : List Int), eqvDs (a.map .int) (b.map .int) = decide (a = b)
  | [], [] => rfl
  | [], _ :: _ => rfl
  | _ :: _, [] => rfl
  | x :: a, y :: b => by
    show ((x == y) && eqvDs (a.map .int) (b.map .int)) = _
    rw [eqvs_int a b, l_eqb]
    by_cases h1 : x = y <;> by_cases h2 : a = b <;> simp [h1, h2]
theorem shps_int (n : Nat) (a : List Int) : (a.map Dat.int).all (shp n) = true := List.all_eq_true.mpr fun d hd => by
  obtain ⟨x, _, rfl⟩ := List.mem_map.mp hd
  cases n <;> rfl
theorem eq_ints {a b : List Int} : eqD (.tup (a.map .int)) (.tup (b.map .int)) = some (.bl (decide (a = b))) := by
  unfold eqD
  rw [show shp 8 (.tup (a.map .int)) = true from shps_int 7 a, show shp 8 (.tup (b.map .int)) = true from shps_int 7 b]
  show some (Dat.bl (eqvDs (a.map .int) (b.map .int))) = _
  rw [eqvs_int]
theorem eq_intsl {a b : List Int} : eqD (.lst (a.map .int)) (.lst (b.map .int)) = some (.bl (decide (a = b))) := by
  unfold eqD
  rw [show shp 8 (.lst (a.map .int)) = true from shps_int 7 a, show shp 8 (.lst (b.map .int)) = true from shps_int 7 b]
  show some (Dat.bl (eqvDs (a.map .int) (b.map .int))) = _
  rw [eqvs_int]
theorem ne_ints {a b : List Int} : neD (.tup (a.map .int)) (.tup (b.map .int)) = some (.bl (!decide (a = b))) := by
  unfold neD
  rw [show shp 8 (.tup (a.map .int)) = true from shps_int 7 a, show shp 8 (.tup (b.map .int)) = true from shps_int 7 b]
  show some (Dat.bl (!eqvDs (a.map .int) (b.map .int))) = _
  rw [eqvs_int]
theorem ne_intsl {a b : List Int} : neD (.lst (a.map .int)) (.lst (b.map .int)) = some (.bl (!decide (a = b))) := by
  unfold neD
  rw [show shp 8 (.lst (a.map .int)) = true from shps_int 7 a, show shp 8 (.lst (b.map .int)) = true from shps_int 7 b]
  show some (Dat.bl (!eqvDs (a.map .int) (b.map .int))) = _
  rw [eqvs_int]
end Dl
namespace Lw
open PySem PySem.Spec PyProof.Rows L2 Dl
def top (i : Nat) : Stmt := PySem.Challenge.pw_creasewrit_k16_arches_counted.main.body.getD i (.Pass ⟨0, 0, 0, 0⟩)
abbrev s_is_whole : Stmt := top 5
abbrev N_is_whole : List Str := ["value", "least", "most"]
def F_is_whole : DEnv → DFlow := sRet (vAnd (v1 (isiD "int") (vVar 0)) (vAnd (v1 notD (v1 (isiD "bool") (vVar 0))) (vChain leD leD (vVar 1) (vVar 0) (vVar 2))))
def D_is_whole : List Dat → Res Dat := runD 3 F_is_whole
abbrev s_arches_fault : Stmt := top 9
abbrev N_arches_fault : List Str := ["value", "point", "other", "between", "one"]
def F_arches_fault : DEnv → DFlow := sSeq (sIf (vOrT (vNotT (vTru (v1 (isxD "tuple") (vVar 0)))) (vTest (vOp gtD (vCB lenD (aCons (vVar 0) (aNil))) (vC (.int 20))))) (sRet (vTup (aCons (vC (.str "form")) (aNil)))) (sNop)) (sSeq (sIf (vNotT (vTru (vCB allD (aCons (vL (vLc (gSeq (vVar 0)) (aName 4) [4] (tYesD) (vCall 3 D_is_whole (aCons (vVar 4) (aCons (vC (.int 0)) (aCons (vOp subD (vCB lenD (aCons (vVar 0) (aNil))) (vC (.int 1))) (aNil))))))) (aNil))))) (sRet (vTup (aCons (vC (.str "form")) (aNil)))) (sNop)) (sSeq (sFor (gEnumA (vVar 0)) (aTup (asCons (aName 1) (asCons (aName 2) (asNil)))) (sIf (vTest (vOp neD (vOp ixD (vVar 0) (vVar 2)) (vVar 1))) (sRet (vTup (aCons (vC (.str "pair")) (aCons (vVar 1) (aNil))))) (sNop))) (sSeq (sFor (gEnumA (vVar 0)) (aTup (asCons (aName 1) (asCons (aName 2) (asNil)))) (sFor (gA range2D (aCons (vOp addD (vVar 1) (vC (.int 1))) (aCons (vVar 2) (aNil)))) (aName 3) (sIf (vTest (vOp gtD (vOp ixD (vVar 0) (vVar 3)) (vVar 2))) (sRet (vTup (aCons (vC (.str "crossing")) (aCons (vVar 1) (aCons (vVar 3) (aNil)))))) (sNop)))) (sRet (vC .non)))))
def D_arches_fault : List Dat → Res Dat := runD 5 F_arches_fault
abbrev s_is_full : Stmt := top 10
abbrev N_is_full : List Str := ["value", "point", "other"]
def F_is_full : DEnv → DFlow := sRet (vAnd (vOp isND (vCall 1 D_arches_fault (aCons (vVar 0) (aNil))) (vC .non)) (v1 notD (vCB anyD (aCons (vL (vLc (gEnumA (vVar 0)) (aTup (asCons (aName 1) (asCons (aName 2) (asNil)))) [1, 2] (tYesD) (vOp eqD (vVar 1) (vVar 2)))) (aNil)))))
def D_is_full : List Dat → Res Dat := runD 3 F_is_full
abbrev s__counts : Stmt := top 11
abbrev N__counts : List Str := ["found", "half", "inside"]
def F__counts : DEnv → DFlow := sSeq (sAsgO 0 (fLst (aCons (vC (.int 1)) (aNil)))) (sSeq (sFor (gA range2D (aCons (vC (.int 1)) (aCons (vOp addD (vOp fdivD (vC (.int 20)) (vC (.int 2))) (vC (.int 1))) (aNil)))) (aName 1) (sApp 0 (vU (vCB sumTD (aCons (vL (vLc (gA range1D (aCons (vVar 1) (aNil))) (aName 2) [2] (tYesD) (vOp mulXD (vOp ixD (vVar 0) (vVar 2)) (vOp ixD (vVar 0) (vOp subD (vOp subD (vVar 1) (vC (.int 1))) (vVar 2)))))) (aNil)))))) (sRet (vVar 0)))
def D__counts : List Dat → Res Dat := runD 3 F__counts
abbrev s__check_many : Stmt := top 12
abbrev N__check_many : List Str := ["many", "most"]
def F__check_many : DEnv → DFlow := sIf (vOrT (vNotT (vTru (vCall 3 D_is_whole (aCons (vVar 0) (aCons (vC (.int 0)) (aCons (vVar 1) (aNil))))))) (vTest (vOp eqD (vOp modD (vVar 0) (vC (.int 2))) (vC (.int 1))))) (sRaise 2) (sNop)
def D__check_many : List Dat → Res Dat := runD 2 F__check_many
abbrev s_arches_count : Stmt := top 13
abbrev N_arches_count : List Str := ["many"]
def F_arches_count : DEnv → DFlow := sSeq (sDrop (vCall 2 D__check_many (aCons (vVar 0) (aCons (vC (.int 20)) (aNil))))) (sRet (vOp ixD (vCall 0 D__counts aNil) (vOp fdivD (vVar 0) (vC (.int 2)))))
def D_arches_count : List Dat → Res Dat := runD 1 F_arches_count
abbrev s__made : Stmt := top 14
abbrev N__made : List Str := ["many", "number", "first", "counts", "inside", "behind", "ways", "end", "within"]
def F__made (rec : List Dat → Res Dat) : DEnv → DFlow := sSeq (sIf (vTest (vOp eqD (vVar 0) (vC (.int 0)))) (sRet (vL (fLst (aNil)))) (sNop)) (sSeq (sAsg 4 (vC (.int 0))) (sSeq (sWhile 1000000 (vTru (vC (.bl true))) (sSeq (sAsg 5 (vOp subD (vOp subD (vOp fdivD (vVar 0) (vC (.int 2))) (vC (.int 1))) (vVar 4))) (sSeq (sAsg 6 (vOp mulXD (vOp ixD (vVar 3) (vVar 4)) (vOp ixD (vVar 3) (vVar 5)))) (sSeq (sIf (vTest (vOp ltD (vVar 1) (vVar 6))) (sBreak) (sNop)) (sSeq (sAsg 1 (vOp subD (vVar 1) (vVar 6))) (sAug 4 iaddD (vC (.int 1)))))))) (sSeq (sAsg 7 (vOp addD (vOp addD (vVar 2) (vOp mulXD (vC (.int 2)) (vVar 4))) (vC (.int 1)))) (sSeq (sAsg 8 (vCall 4 rec (aCons (vOp mulXD (vC (.int 2)) (vVar 4)) (aCons (vOp fdivXD (vVar 1) (vOp ixD (vVar 3) (vVar 5))) (aCons (vOp addD (vVar 2) (vC (.int 1))) (aCons (vVar 3) (aNil))))))) (sRet (vOp addD (vOp addD (vL (fLst (aCons (vTup (aCons (vVar 2) (aCons (vVar 7) (aNil)))) (aNil)))) (vVar 8)) (vCall 4 rec (aCons (vOp mulXD (vC (.int 2)) (vVar 5)) (aCons (vOp modD (vVar 1) (vOp ixD (vVar 3) (vVar 5))) (aCons (vOp addD (vVar 7) (vC (.int 1))) (aCons (vVar 3) (aNil))))))))))))
def R__made : Nat → List Dat → Res Dat
  | 0 => fun _ => .stuck
  | k + 1 => runD 9 (F__made (R__made k))
def D__made : List Dat → Res Dat := R__made 40
abbrev s__of_pairs : Stmt := top 15
abbrev N__of_pairs : List Str := ["many", "pairs", "found", "first", "second"]
def F__of_pairs : DEnv → DFlow := sSeq (sAsgO 2 (fRg1 (vVar 0))) (sSeq (sFor (gSeq (vVar 1)) (aTup (asCons (aName 3) (asCons (aName 4) (asNil)))) (sSeq (sSetI 2 (vVar 3) (vVar 4)) (sSetI 2 (vVar 4) (vVar 3)))) (sRet (vCB tupleD (aCons (vVar 2) (aNil)))))
def D__of_pairs : List Dat → Res Dat := runD 5 F__of_pairs
abbrev s_arches_at : Stmt := top 16
abbrev N_arches_at : List Str := ["many", "number", "counts"]
def F_arches_at : DEnv → DFlow := sSeq (sDrop (vCall 2 D__check_many (aCons (vVar 0) (aCons (vC (.int 20)) (aNil))))) (sSeq (sAsg 2 (vCall 0 D__counts aNil)) (sSeq (sIf (vNotT (vTru (vCall 3 D_is_whole (aCons (vVar 1) (aCons (vC (.int 0)) (aCons (vOp subD (vOp ixD (vVar 2) (vOp fdivD (vVar 0) (vC (.int 2)))) (vC (.int 1))) (aNil))))))) (sRaise 1) (sNop)) (sRet (vCall 2 D__of_pairs (aCons (vVar 0) (aCons (vCall 4 D__made (aCons (vVar 0) (aCons (vVar 1) (aCons (vC (.int 0)) (aCons (vVar 2) (aNil)))))) (aNil)))))))
def D_arches_at : List Dat → Res Dat := runD 3 F_arches_at
abbrev s__number : Stmt := top 17
abbrev N__number : List Str := ["arches", "first", "end", "counts", "other", "inside", "behind", "found", "fewer"]
def F__number (rec : List Dat → Res Dat) : DEnv → DFlow := sSeq (sIf (vTest (vOp eqD (vVar 1) (vVar 2))) (sRet (vC (.int 0))) (sNop)) (sSeq (sAsg 4 (vOp ixD (vVar 0) (vVar 1))) (sSeq (sAsg 5 (vOp fdivD (vOp subD (vOp subD (vVar 4) (vVar 1)) (vC (.int 1))) (vC (.int 2)))) (sSeq (sAsg 6 (vOp fdivD (vOp subD (vOp subD (vVar 2) (vVar 4)) (vC (.int 1))) (vC (.int 2)))) (sSeq (sAsg 7 (vCB sumTD (aCons (vL (vLc (gA range1D (aCons (vVar 5) (aNil))) (aName 8) [8] (tYesD) (vOp mulXD (vOp ixD (vVar 3) (vVar 8)) (vOp ixD (vVar 3) (vOp subD (vOp addD (vVar 5) (vVar 6)) (vVar 8)))))) (aNil)))) (sSeq (sAug 7 iaddD (vOp mulXD (vCall 4 rec (aCons (vVar 0) (aCons (vOp addD (vVar 1) (vC (.int 1))) (aCons (vVar 4) (aCons (vVar 3) (aNil)))))) (vOp ixD (vVar 3) (vVar 6)))) (sRet (vOp addD (vVar 7) (vCall 4 rec (aCons (vVar 0) (aCons (vOp addD (vVar 4) (vC (.int 1))) (aCons (vVar 2) (aCons (vVar 3) (aNil)))))))))))))
def R__number : Nat → List Dat → Res Dat
  | 0 => fun _ => .stuck
  | k + 1 => runD 9 (F__number (R__number k))
def D__number : List Dat → Res Dat := R__number 40
abbrev s_arches_number : Stmt := top 18
abbrev N_arches_number : List Str := ["arches"]
def F_arches_number : DEnv → DFlow := sSeq (sIf (vNotT (vTru (vCall 1 D_is_full (aCons (vVar 0) (aNil))))) (sRet (vC .non)) (sNop)) (sRet (vCall 4 D__number (aCons (vVar 0) (aCons (vC (.int 0)) (aCons (vCB lenD (aCons (vVar 0) (aNil))) (aCons (vCall 0 D__counts aNil) (aNil)))))))
def D_arches_number : List Dat → Res Dat := runD 1 F_arches_number
abbrev s_all_arches : Stmt := top 19
abbrev N_all_arches : List Str := ["many", "counts", "number"]
def F_all_arches : DEnv → DFlow := sSeq (sDrop (vCall 2 D__check_many (aCons (vVar 0) (aCons (vC (.int 12)) (aNil))))) (sSeq (sAsg 1 (vCall 0 D__counts aNil)) (sRet (vL (vLc (gA range1D (aCons (vOp ixD (vVar 1) (vOp fdivD (vVar 0) (vC (.int 2)))) (aNil))) (aName 2) [2] (tYesD) (vCall 2 D__of_pairs (aCons (vVar 0) (aCons (vCall 4 D__made (aCons (vVar 0) (aCons (vVar 2) (aCons (vC (.int 0)) (aCons (vVar 1) (aNil)))))) (aNil))))))))
def D_all_arches : List Dat → Res Dat := runD 3 F_all_arches
abbrev s__law_draws : Stmt := top 21
abbrev N__law_draws : List Str := ["script", "many", "draws", "seed", "cell", "number", "k"]
def F__law_draws : DEnv → DFlow := sSeq (sAsgO 2 (fLst (aNil))) (sSeq (sAsg 3 (vC (.int 7))) (sSeq (sFor (gSeq (vSl (vVar 0) (oNone) (oSome (vC (.int 63))))) (aName 4) (sSeq (sAsg 5 (vCB absD (aCons (vVar 4) (aNil)))) (sSeq (sAsg 3 (vOp modD (vCB intD (aCons (vOp addD (vOp addD (vOp mulD (vVar 3) (vC (.int 48271))) (vVar 5)) (vC (.int 11))) (aNil))) (vC (.int 2147483647)))) (sIf (vTest (vOp geD (vVar 5) (vOp powD (vC (.int 10)) (vC (.int 18))))) (sFor (gA range1D (aCons (vC (.int 60)) (aNil))) (aName 6) (sIf (vTest (vOp gtD (vVar 5) (vC (.int 0)))) (sSeq (sApp 2 (vOp modD (vCB intD (aCons (vVar 5) (aNil))) (vC (.int 1009)))) (sAsg 5 (vOp fdivD (vVar 5) (vC (.int 1009))))) (sNop))) (sApp 2 (vOp modD (vOp fdivD (vCB intD (aCons (vOp addD (vOp mulD (vVar 3) (vC (.int 16807))) (vC (.int 5))) (aNil))) (vC (.int 3))) (vC (.int 65521)))))))) (sSeq (sFor (gA range1D (aCons (vVar 1) (aNil))) (aName 6) (sIf (vTest (vOp ltD (vCB lenD (aCons (vVar 2) (aNil))) (vVar 1))) (sSeq (sAsg 3 (vOp modD (vCB intD (aCons (vOp addD (vOp addD (vOp mulD (vVar 3) (vC (.int 69621))) (vVar 6)) (vC (.int 1))) (aNil))) (vC (.int 2147483647)))) (sApp 2 (vOp modD (vOp fdivD (vCB intD (aCons (vVar 3) (aNil))) (vC (.int 7))) (vC (.int 65521))))) (sNop))) (sRet (vSl (vVar 2) (oNone) (oSome (vVar 1)))))))
def D__law_draws : List Dat → Res Dat := runD 7 F__law_draws
abbrev s__law_ways : Stmt := top 22
abbrev N__law_ways : List Str := ["many", "ways", "half", "k"]
def F__law_ways : DEnv → DFlow := sSeq (sAsgO 1 (fLst (aCons (vC (.int 1)) (aNil)))) (sSeq (sFor (gA range2D (aCons (vC (.int 1)) (aCons (vOp addD (vOp fdivD (vVar 0) (vC (.int 2))) (vC (.int 1))) (aNil)))) (aName 2) (sApp 1 (vU (vCB sumTD (aCons (vL (vLc (gA range1D (aCons (vVar 2) (aNil))) (aName 3) [3] (tYesD) (vOp mulXD (vOp ixD (vVar 1) (vVar 3)) (vOp ixD (vVar 1) (vOp subD (vOp subD (vVar 2) (vC (.int 1))) (vVar 3)))))) (aNil)))))) (sRet (vOp ixD (vVar 1) (vOp fdivD (vVar 0) (vC (.int 2))))))
def D__law_ways : List Dat → Res Dat := runD 4 F__law_ways
abbrev s__law_every : Stmt := top 23
abbrev N__law_every : List Str := ["many", "found", "other", "one", "inside", "two", "k"]
def F__law_every (rec : List Dat → Res Dat) : DEnv → DFlow := sSeq (sIf (vTest (vOp eqD (vVar 0) (vC (.int 0)))) (sRet (vL (fLst (aCons (vTup (aNil)) (aNil))))) (sNop)) (sSeq (sAsg 1 (vL (fLst (aNil)))) (sSeq (sFor (gA range3D (aCons (vC (.int 1)) (aCons (vVar 0) (aCons (vC (.int 2)) (aNil))))) (aName 2) (sFor (gSeq (vCall 1 rec (aCons (vOp subD (vVar 2) (vC (.int 1))) (aNil)))) (aName 3) (sSeq (sAsg 4 (vOp addD (vOp addD (vTup (aCons (vVar 2) (aNil))) (vCB tupleD (aCons (vL (vLc (gSeq (vVar 3)) (aName 6) [6] (tYesD) (vOp addD (vVar 6) (vC (.int 1))))) (aNil)))) (vTup (aCons (vC (.int 0)) (aNil))))) (sAsg 1 (vOp addD (vVar 1) (vL (vLc (gSeq (vCall 1 rec (aCons (vOp subD (vOp subD (vVar 0) (vVar 2)) (vC (.int 1))) (aNil)))) (aName 5) [5] (tYesD) (vOp addD (vVar 4) (vCB tupleD (aCons (vL (vLc (gSeq (vVar 5)) (aName 6) [6] (tYesD) (vOp addD (vOp addD (vVar 6) (vVar 2)) (vC (.int 1))))) (aNil))))))))))) (sRet (vVar 1))))
def R__law_every : Nat → List Dat → Res Dat
  | 0 => fun _ => .stuck
  | k + 1 => runD 7 (F__law_every (R__law_every k))
def D__law_every : List Dat → Res Dat := R__law_every 40
abbrev s__law_drawn : Stmt := top 24
abbrev N__law_drawn : List Str := ["draws", "at", "many", "found", "open_ones", "k", "left", "other"]
def F__law_drawn : DEnv → DFlow := sSeq (sParOO 3 4 (fOp mulF (vL (fLst (aCons (vC (.int 0)) (aNil)))) (vVar 2)) (fLst (aNil))) (sSeq (sFor (gA range1D (aCons (vVar 2) (aNil))) (aName 5) (sSeq (sAsg 6 (vOp subD (vVar 2) (vVar 5))) (sIf (vAndT (vTest (vOp gtD (vCB lenD (aCons (vVar 4) (aNil))) (vC (.int 0)))) (vOrT (vTest (vOp eqD (vCB lenD (aCons (vVar 4) (aNil))) (vVar 6))) (vTest (vOp eqD (vOp modD (vCB intD (aCons (vOp ixD (vVar 0) (vOp addD (vVar 1) (vVar 5))) (aNil))) (vC (.int 2))) (vC (.int 0)))))) (sSeq (sPopT 4 (aName 7)) (sSetI2 3 (vVar 5) (vVar 7) (vVar 7) (vVar 5))) (sApp 4 (vVar 5))))) (sRet (vCB tupleD (aCons (vVar 3) (aNil)))))
def D__law_drawn : List Dat → Res Dat := runD 8 F__law_drawn
abbrev s__law_ahead : Stmt := top 25
abbrev N__law_ahead : List Str := ["arches", "many", "found", "other", "fewer", "inside", "behind", "one"]
def F__law_ahead (rec : List Dat → Res Dat) : DEnv → DFlow := sSeq (sPar 1 2 (vCB lenD (aCons (vVar 0) (aNil))) (vC (.int 0))) (sSeq (sIf (vTest (vOp eqD (vVar 1) (vC (.int 0)))) (sRet (vC (.int 0))) (sNop)) (sSeq (sAsg 3 (vOp ixD (vVar 0) (vC (.int 0)))) (sSeq (sFor (gA range3D (aCons (vC (.int 1)) (aCons (vVar 3) (aCons (vC (.int 2)) (aNil))))) (aName 4) (sAsg 2 (vOp addD (vVar 2) (vOp mulXD (vCall 1 D__law_ways (aCons (vOp subD (vVar 4) (vC (.int 1))) (aNil))) (vCall 1 D__law_ways (aCons (vOp subD (vOp subD (vVar 1) (vVar 4)) (vC (.int 1))) (aNil))))))) (sSeq (sAsg 5 (vCB tupleD (aCons (vL (vLc (gSeq (vSl (vVar 0) (oSome (vC (.int 1))) (oSome (vVar 3)))) (aName 7) [7] (tYesD) (vOp subD (vVar 7) (vC (.int 1))))) (aNil)))) (sSeq (sAsg 6 (vCB tupleD (aCons (vL (vLc (gSeq (vSl (vVar 0) (oSome (vOp addD (vVar 3) (vC (.int 1)))) (oNone))) (aName 7) [7] (tYesD) (vOp subD (vOp subD (vVar 7) (vVar 3)) (vC (.int 1))))) (aNil)))) (sRet (vOp addD (vOp addD (vVar 2) (vOp mulXD (vCall 1 rec (aCons (vVar 5) (aNil))) (vCall 1 D__law_ways (aCons (vOp subD (vOp subD (vVar 1) (vVar 3)) (vC (.int 1))) (aNil))))) (vCall 1 rec (aCons (vVar 6) (aNil))))))))))
def R__law_ahead : Nat → List Dat → Res Dat
  | 0 => fun _ => .stuck
  | k + 1 => runD 8 (F__law_ahead (R__law_ahead k))
def D__law_ahead : List Dat → Res Dat := R__law_ahead 40
abbrev s__law_fault : Stmt := top 26
abbrev N__law_fault : List Str := ["value", "k", "j", "one"]
def F__law_fault : DEnv → DFlow := sSeq (sIf (vOrT (vNotT (vTru (v1 (isiD "tuple") (vVar 0)))) (vOrT (vTest (vOp gtD (vCB lenD (aCons (vVar 0) (aNil))) (vC (.int 20)))) (vNotT (vTru (vCB allD (aCons (vL (vLc (gSeq (vVar 0)) (aName 3) [3] (tYesD) (vAnd (v1 (isiD "int") (vVar 3)) (v1 notD (v1 (isiD "bool") (vVar 3)))))) (aNil))))))) (sRet (vTup (aCons (vC (.str "form")) (aNil)))) (sNop)) (sSeq (sIf (vTru (vCB anyD (aCons (vL (vLc (gSeq (vVar 0)) (aName 3) [3] (tYesD) (vOr (vOp ltD (vVar 3) (vC (.int 0))) (vOp geD (vVar 3) (vCB lenD (aCons (vVar 0) (aNil))))))) (aNil)))) (sRet (vTup (aCons (vC (.str "form")) (aNil)))) (sNop)) (sSeq (sFor (gA range1D (aCons (vCB lenD (aCons (vVar 0) (aNil))) (aNil))) (aName 1) (sIf (vTest (vOp neD (vOp ixD (vVar 0) (vOp ixD (vVar 0) (vVar 1))) (vVar 1))) (sRet (vTup (aCons (vC (.str "pair")) (aCons (vVar 1) (aNil))))) (sNop))) (sSeq (sFor (gA range1D (aCons (vCB lenD (aCons (vVar 0) (aNil))) (aNil))) (aName 1) (sFor (gA range2D (aCons (vOp addD (vVar 1) (vC (.int 1))) (aCons (vCB lenD (aCons (vVar 0) (aNil))) (aNil)))) (aName 2) (sIf (vAndT (vTest (vOp gtD (vOp ixD (vVar 0) (vVar 1)) (vVar 2))) (vTest (vOp gtD (vOp ixD (vVar 0) (vVar 2)) (vOp ixD (vVar 0) (vVar 1))))) (sRet (vTup (aCons (vC (.str "crossing")) (aCons (vVar 1) (aCons (vVar 2) (aNil)))))) (sNop)))) (sRet (vC .non)))))
def D__law_fault : List Dat → Res Dat := runD 4 F__law_fault
abbrev s__law_bent : Stmt := top 27
abbrev N__law_bent : List Str := ["value", "draws", "at", "rows", "many", "turn", "k", "j", "way", "other", "one", "two"]
def F__law_bent : DEnv → DFlow := sSeq (sParO 3 4 (fCB seqF (aCons (vVar 0) (aNil))) (vCB lenD (aCons (vVar 0) (aNil)))) (sSeq (sFor (gA range1D (aCons (vOp addD (vC (.int 1)) (vOp modD (vCB intD (aCons (vOp ixD (vVar 1) (vVar 2)) (aNil))) (vC (.int 3)))) (aNil))) (aName 5) (sIf (vTest (vOp gtD (vVar 4) (vC (.int 1)))) (sSeq (sPar3 6 7 8 (vOp modD (vCB intD (aCons (vOp ixD (vVar 1) (vOp addD (vOp addD (vVar 2) (vC (.int 1))) (vVar 5))) (aNil))) (vVar 4)) (vOp modD (vCB intD (aCons (vOp ixD (vVar 1) (vOp addD (vOp addD (vVar 2) (vC (.int 4))) (vVar 5))) (aNil))) (vVar 4)) (vOp modD (vCB intD (aCons (vOp ixD (vVar 1) (vOp addD (vOp addD (vVar 2) (vC (.int 7))) (vVar 5))) (aNil))) (vC (.int 5)))) (sIf (vTest (vOp eqD (vVar 8) (vC (.int 0)))) (sSeq (sAsg 9 (vU (vOp ixD (vVar 3) (vVar 6)))) (sSetI2 3 (vVar 6) (vVar 9) (vVar 6) (vVar 9))) (sIf (vAndT (vTest (vOp eqD (vVar 8) (vC (.int 1)))) (vAndT (vTest (vOp neD (vOp ixD (vVar 3) (vVar 6)) (vVar 6))) (vAndT (vTest (vOp neD (vOp ixD (vVar 3) (vVar 7)) (vVar 7))) (vTest (vOp eqD (vCB lsetD (aCons (vL (fLst (aCons (vVar 6) (aCons (vVar 7) (aCons (vOp ixD (vVar 3) (vVar 6)) (aCons (vOp ixD (vVar 3) (vVar 7)) (aNil))))))) (aNil))) (vC (.int 4))))))) (sSeq (sPar 10 11 (vU (vOp ixD (vVar 3) (vVar 6))) (vU (vOp ixD (vVar 3) (vVar 7)))) (sSetI4 3 (vVar 6) (vVar 11) (vVar 7) (vVar 10) (vVar 11) (vVar 6) (vVar 10) (vVar 7))) (sIf (vTest (vOp eqD (vVar 8) (vC (.int 2)))) (sSetI 3 (vVar 6) (vVar 7)) (sIf (vTest (vOp eqD (vVar 8) (vC (.int 3)))) (sSeq (sSetI 3 (vVar 6) (vOp ixD (vL (fLst (aCons (vVar 4) (aCons (v1 negD (vC (.int 1))) (aCons (vC (.bl true)) (aCons (vC .non) (aCons (vC (.str "0")) (aCons (vTup (aCons (vC (.int 0)) (aNil))) (aNil))))))))) (vOp modD (vOp fdivD (vCB intD (aCons (vOp ixD (vVar 1) (vVar 2)) (aNil))) (vC (.int 3))) (vC (.int 6))))) (sRet (vCB tupleD (aCons (vVar 3) (aNil))))) (sNop)))))) (sNop))) (sRet (vCB tupleD (aCons (vVar 3) (aNil)))))
def D__law_bent : List Dat → Res Dat := runD 12 F__law_bent
abbrev s__law_same : Stmt := top 28
abbrev N__law_same : List Str := ["told", "due", "one"]
def F__law_same : DEnv → DFlow := sSeq (sIf (vTest (vOp isND (vVar 1) (vC .non))) (sRet (vOp isND (vVar 0) (vC .non))) (sNop)) (sRet (vAnd (v1 (isiD "tuple") (vVar 0)) (vAnd (vOp eqD (vVar 0) (vVar 1)) (v1 notD (vCB anyD (aCons (vL (vLc (gSeq (vVar 0)) (aName 2) [2] (tYesD) (v1 (isiD "bool") (vVar 2)))) (aNil)))))))
def D__law_same : List Dat → Res Dat := runD 3 F__law_same
abbrev s_law : Stmt := top 29
abbrev N_law : List Str := ["script", "draws", "many", "every", "turn", "value", "number", "k", "bent", "due", "full", "wrong", "one", "j"]
def F_law : DEnv → DFlow := sSeq (sAsg 1 (vCall 2 D__law_draws (aCons (vVar 0) (aCons (vC (.int 130)) (aNil))))) (sSeq (sAsg 2 (vOp mulXD (vC (.int 2)) (vOp modD (vCB intD (aCons (vOp ixD (vVar 1) (vC (.int 0))) (aNil))) (vC (.int 5))))) (sSeq (sAsg 3 (vCall 1 D_all_arches (aCons (vVar 2) (aNil)))) (sSeq (sIf (vOrT (vNotT (vTru (v1 (isiD "list") (vVar 3)))) (vOrT (vTest (vOp neD (vVar 3) (vCall 1 D__law_every (aCons (vVar 2) (aNil))))) (vTest (vOp neD (vCall 1 D_arches_count (aCons (vVar 2) (aNil))) (vCB lenD (aCons (vVar 3) (aNil))))))) (sRet (vC (.bl false))) (sNop)) (sSeq (sIf (vNotT (vTru (vCB allD (aCons (vL (vLc (gA range1D (aCons (vCB lenD (aCons (vVar 3) (aNil))) (aNil))) (aName 7) [7] (tYesD) (vAnd (vOp eqD (vCall 1 D_arches_number (aCons (vOp ixD (vVar 3) (vVar 7)) (aNil))) (vVar 7)) (vOp eqD (vCall 2 D_arches_at (aCons (vVar 2) (aCons (vVar 7) (aNil)))) (vOp ixD (vVar 3) (vVar 7)))))) (aNil))))) (sRet (vC (.bl false))) (sNop)) (sSeq (sFor (gA range1D (aCons (vC (.int 3)) (aNil))) (aName 4) (sSeq (sAsg 2 (vOp mulXD (vC (.int 2)) (vOp modD (vCB intD (aCons (vOp ixD (vVar 1) (vOp addD (vC (.int 1)) (vVar 4))) (aNil))) (vC (.int 11))))) (sSeq (sAsg 5 (vCall 3 D__law_drawn (aCons (vVar 1) (aCons (vOp addD (vC (.int 10)) (vOp mulXD (vC (.int 20)) (vVar 4))) (aCons (vVar 2) (aNil)))))) (sSeq (sAsg 6 (vCall 1 D__law_ahead (aCons (vVar 5) (aNil)))) (sSeq (sIf (vOrT (vTest (vOp notND (vCall 1 D_arches_fault (aCons (vVar 5) (aNil))) (vC .non))) (vOrT (vTest (vOp neD (vCall 1 D_arches_count (aCons (vVar 2) (aNil))) (vCall 1 D__law_ways (aCons (vVar 2) (aNil))))) (vOrT (vTest (vOp neD (vCall 1 D_arches_number (aCons (vVar 5) (aNil))) (vVar 6))) (vTest (vOp neD (vCall 2 D_arches_at (aCons (vVar 2) (aCons (vVar 6) (aNil)))) (vVar 5)))))) (sRet (vC (.bl false))) (sNop)) (sSeq (sIf (vOrT (vTru (v1 (isiD "bool") (vCall 1 D_arches_number (aCons (vVar 5) (aNil))))) (vNotT (vTest (vChain leD ltD (vC (.int 0)) (vVar 6) (vCall 1 D__law_ways (aCons (vVar 2) (aNil))))))) (sRet (vC (.bl false))) (sNop)) (sFor (gA range1D (aCons (vC (.int 5)) (aNil))) (aName 7) (sSeq (sAsg 8 (vCall 3 D__law_bent (aCons (vVar 5) (aCons (vVar 1) (aCons (vOp addD (vOp addD (vC (.int 70)) (vOp mulXD (vC (.int 10)) (vVar 7))) (vVar 4)) (aNil)))))) (sSeq (sAsg 9 (vCall 1 D__law_fault (aCons (vVar 8) (aNil)))) (sSeq (sIf (vNotT (vTru (vCall 2 D__law_same (aCons (vCall 1 D_arches_fault (aCons (vVar 8) (aNil))) (aCons (vVar 9) (aNil)))))) (sRet (vC (.bl false))) (sNop)) (sSeq (sAsg 10 (vAnd (vOp isND (vVar 9) (vC .non)) (vCB allD (aCons (vL (vLc (gA range1D (aCons (vCB lenD (aCons (vVar 8) (aNil))) (aNil))) (aName 13) [13] (tYesD) (vOp neD (vOp ixD (vVar 8) (vVar 13)) (vVar 13)))) (aNil))))) (sIf (vOrT (vAndT (vTru (vVar 10)) (vTest (vOp neD (vCall 1 D_arches_number (aCons (vVar 8) (aNil))) (vCall 1 D__law_ahead (aCons (vVar 8) (aNil)))))) (vAndT (vNotT (vTru (vVar 10))) (vTest (vOp notND (vCall 1 D_arches_number (aCons (vVar 8) (aNil))) (vC .non))))) (sRet (vC (.bl false))) (sNop))))))))))))) (sSeq (sAsg 11 (vL (fLst (aCons (vCB listD (aCons (vOp ixD (vVar 3) (vC (.int 0))) (aNil))) (aCons (vC .non) (aCons (vC (.int 3)) (aCons (vC (.str "10")) (aCons (vTup (aCons (vTup (aCons (vC (.int 0)) (aNil))) (aNil))) (aCons (vRg1 .tup (vC (.int 21))) (aCons (vC (.dct [Sum.inr "a"] [.int 1])) (aNil))))))))))) (sSeq (sIf (vNotT (vTru (vCB allD (aCons (vL (vLc (gSeq (vVar 11)) (aName 12) [12] (tYesD) (vAnd (vCall 2 D__law_same (aCons (vCall 1 D_arches_fault (aCons (vVar 12) (aNil))) (aCons (vTup (aCons (vC (.str "form")) (aNil))) (aNil)))) (vOp isND (vCall 1 D_arches_number (aCons (vVar 12) (aNil))) (vC .non))))) (aNil))))) (sRet (vC (.bl false))) (sNop)) (sRet (vAnd (vOp isND (vCall 1 D_arches_fault (aCons (vRg1 .tup (vC (.int 20))) (aNil))) (vC .non)) (vAnd (vOp isND (vCall 1 D_arches_fault (aCons (vTup (aNil)) (aNil))) (vC .non)) (vOp eqD (vCall 1 D_arches_number (aCons (vTup (aNil)) (aNil))) (vC (.int 0)))))))))))))
def D_law : List Dat → Res Dat := runD 14 F_law
end Lw
namespace Lw
open PySem PySem.Spec PyProof.Rows L2 Dl
structure Txt (K : PySem.W.Frag) (mg : Str → Option Value) (T : CT) (w : World) : Prop where
  b_abs : mg "abs" = none
  b_all : mg "all" = none
  b_any : mg "any" = none
  b_bool : mg "bool" = none
  b_enumerate : mg "enumerate" = none
  b_int : mg "int" = none
  b_isinstance : mg "isinstance" = none
  b_len : mg "len" = none
  b_list : mg "list" = none
  b_range : mg "range" = none
  b_set : mg "set" = none
  b_sum : mg "sum" = none
  b_tuple : mg "tuple" = none
  g_MOST_POINTS : GC K T mg "MOST_POINTS" (.int 20)
  g_MOST_LISTED : GC K T mg "MOST_LISTED" (.int 12)
  e_BadNumber : ExD K T mg 1 "BadNumber"
  e_BadSize : ExD K T mg 2 "BadSize"
section
variable {P : Program} {w : World} {K : PySem.W.Frag} {mg : Str → Option Value} {base : Heap} {T : CT}
theorem sc_is_whole : FnScope N_is_whole ["value", "least", "most"] (defScope s_is_whole) := ⟨rfl, rfl, rfl, by decide +kernel, rfl, by decide +kernel, by decide +kernel⟩
theorem ok_is_whole (tx : Txt K mg T w) {f : Addr} {fd : FuncData} (Fu : Fun K "is_whole" "is_whole" s_is_whole f fd) : FnOk P w K mg base (L2.CX P w) 1 f fd ["value", "least", "most"] (spD K T 3 D_is_whole) :=
  fn_D (ow' := []) Fu sc_is_whole rfl fun cdv A outer s H E hr => by
    have tk : Takes (cxOf (L2.CX P w) P w K mg base N_is_whole "is_whole" (defScope s_is_whole) f cdv A outer s H E) (fun cls d _ H => E cls d H) := takes_of rfl rfl rfl rfl
    have hpo := passes_of (X := cxOf (L2.CX P w) P w K mg base N_is_whole "is_whole" (defScope s_is_whole) f cdv A outer s H E) rfl
    exact dss_one (ds_ret (de_and (de_isi kit_int tx.b_isinstance tx.b_int (by decide +kernel) (de_var 0)) (de_and (de_not (de_isi kit_bool tx.b_isinstance tx.b_bool (by decide +kernel) (de_var 0))) (de_one (de_chain op_le rd_cmp op_le rd_cmp (de_var 1) (de_var 0) (de_var 2))))))
theorem sc_arches_fault : FnScope N_arches_fault ["value"] (defScope s_arches_fault) := ⟨rfl, rfl, rfl, by decide +kernel, rfl, by decide +kernel, by decide +kernel⟩
theorem ok_arches_fault (tx : Txt K mg T w) (c_is_whole : FnD P w K mg base T 1 "is_whole" 3 D_is_whole) {f : Addr} {fd : FuncData} (Fu : Fun K "arches_fault" "arches_fault" s_arches_fault f fd) : FnOk P w K mg base (L2.CX P w) 2 f fd ["value"] (spD K T 1 D_arches_fault) :=
  fn_D (ow' := []) Fu sc_arches_fault rfl fun cdv A outer s H E hr => by
    have tk : Takes (cxOf (L2.CX P w) P w K mg base N_arches_fault "arches_fault" (defScope s_arches_fault) f cdv A outer s H E) (fun cls d _ H => E cls d H) := takes_of rfl rfl rfl rfl
    have hpo := passes_of (X := cxOf (L2.CX P w) P w K mg base N_arches_fault "arches_fault" (defScope s_arches_fault) f cdv A outer s H E) rfl
    exact dss_cons (ds_if (DW.dt (dw_or (dt_not (dt_truth (de_isx kit_tuple kd_tuple tx.b_isinstance tx.b_tuple (by decide +kernel) (de_var 0)))) (dw_or1 (dt_cmp op_gt rd_cmp (de_callB call_len rc_len tx.b_len (by decide +kernel) (da_cons (de_var 0) (da_nil))) (de_glob tx.g_MOST_POINTS) (nomark _))))) (dss_one (ds_ret (de_tup (da_cons (de_str) (da_nil))))) (dss_nil)) (dss_cons (ds_if (dt_not (dt_truth (de_callB (cr_all rfl) rc_all tx.b_all (by decide +kernel) (da_cons (de_f (df_lc (own := [("one", 4)]) rfl sc_arches_fault.nd (di_seq (de_var 0)) (blkOk_by (own := [("one", 4)]) (N := N_arches_fault) (sc := defScope s_arches_fault) (by decide +kernel)) (by decide) (fun _ _ _ _ _ => dg_name (i := 4) sc_arches_fault.nd) (fun _ _ _ _ _ => dts_nil) (fun _ _ _ _ _ => de_call c_is_whole hr (by decide) passNo (da_cons (de_var 4) (da_cons (de_int) (da_cons (de_op op_sub rd_sub (de_callB call_len rc_len tx.b_len (by decide +kernel) (da_cons (de_var 0) (da_nil))) (de_int)) (da_nil))))))) (da_nil))))) (dss_one (ds_ret (de_tup (da_cons (de_str) (da_nil))))) (dss_nil)) (dss_cons (ds_for hpo rfl (di_enumA tx.b_enumerate (de_var 0)) (dg_tup rfl (dgs_cons (dg_name (i := 1) sc_arches_fault.nd) (dgs_cons (dg_name (i := 2) sc_arches_fault.nd) (dgs_nil))) (asCons_len (asCons_len (fun _ _ _ h => asNil_len h)))) (by decide) (aTup_same (asCons_same (aName_same) (asCons_same (aName_same) (asNil_same)))) (dss_one (ds_if (dt_cmp (op_neD (hu64 hr)) rd_ne (de_ix (de_var 0) (de_var 2)) (de_var 1) (nomark _)) (dss_one (ds_ret (de_tup (da_cons (de_str) (da_cons (de_var 1) (da_nil)))))) (dss_nil)))) (dss_cons (ds_for hpo rfl (di_enumA tx.b_enumerate (de_var 0)) (dg_tup rfl (dgs_cons (dg_name (i := 1) sc_arches_fault.nd) (dgs_cons (dg_name (i := 2) sc_arches_fault.nd) (dgs_nil))) (asCons_len (asCons_len (fun _ _ _ h => asNil_len h)))) (by decide) (aTup_same (asCons_same (aName_same) (asCons_same (aName_same) (asNil_same)))) (dss_one (ds_for hpo rfl (di_range2 tx.b_range (da_cons (de_op op_addAll rd_add (de_var 1) (de_int)) (da_cons (de_var 2) (da_nil)))) (dg_name (i := 3) sc_arches_fault.nd) (by decide) aName_same (dss_one (ds_if (dt_cmp op_gt rd_cmp (de_ix (de_var 0) (de_var 3)) (de_var 2) (nomark _)) (dss_one (ds_ret (de_tup (da_cons (de_str) (da_cons (de_var 1) (da_cons (de_var 3) (da_nil))))))) (dss_nil)))))) (dss_one (ds_ret (de_non))))))
theorem sc_is_full : FnScope N_is_full ["value"] (defScope s_is_full) := ⟨rfl, rfl, rfl, by decide +kernel, rfl, by decide +kernel, by decide +kernel⟩
theorem ok_is_full (tx : Txt K mg T w) (c_arches_fault : FnD P w K mg base T 2 "arches_fault" 1 D_arches_fault) {f : Addr} {fd : FuncData} (Fu : Fun K "is_full" "is_full" s_is_full f fd) : FnOk P w K mg base (L2.CX P w) 3 f fd ["value"] (spD K T 1 D_is_full) :=
  fn_D (ow' := []) Fu sc_is_full rfl fun cdv A outer s H E hr => by
    have tk : Takes (cxOf (L2.CX P w) P w K mg base N_is_full "is_full" (defScope s_is_full) f cdv A outer s H E) (fun cls d _ H => E cls d H) := takes_of rfl rfl rfl rfl
    have hpo := passes_of (X := cxOf (L2.CX P w) P w K mg base N_is_full "is_full" (defScope s_is_full) f cdv A outer s H E) rfl
    exact dss_one (ds_ret (de_and (de_cmp op_isN rd_isN (de_call c_arches_fault hr (by decide) (passAt tk) (da_cons (de_var 0) (da_nil))) (de_non) (nomark _)) (de_one (de_not (de_callB (cr_any rfl) rc_any tx.b_any (by decide +kernel) (da_cons (de_f (df_lc (own := [("point", 1), ("other", 2)]) rfl sc_is_full.nd (di_enumA tx.b_enumerate (de_var 0)) (blkOk_by (own := [("point", 1), ("other", 2)]) (N := N_is_full) (sc := defScope s_is_full) (by decide +kernel)) (by decide) (fun _ _ _ _ _ => dg_tup rfl (dgs_cons (dg_name (i := 1) sc_is_full.nd) (dgs_cons (dg_name (i := 2) sc_is_full.nd) (dgs_nil))) (asCons_len (asCons_len (fun _ _ _ h => asNil_len h)))) (fun _ _ _ _ _ => dts_nil) (fun _ _ _ _ _ => de_cmp (op_eqD (hu64 hr)) rd_eq (de_var 1) (de_var 2) (nomark _)))) (da_nil)))))))
theorem sc__counts : FnScope N__counts [] (defScope s__counts) := ⟨rfl, rfl, rfl, by decide +kernel, rfl, by decide +kernel, by decide +kernel⟩
theorem ok__counts (tx : Txt K mg T w) {f : Addr} {fd : FuncData} (Fu : Fun K "_counts" "_counts" s__counts f fd) : FnOk P w K mg base (L2.CX P w) 1 f fd [] (spD K T 0 D__counts) :=
  fn_D (ow' := []) Fu sc__counts rfl fun cdv A outer s H E hr => by
    have tk : Takes (cxOf (L2.CX P w) P w K mg base N__counts "_counts" (defScope s__counts) f cdv A outer s H E) (fun cls d _ H => E cls d H) := takes_of rfl rfl rfl rfl
    have hpo := passes_of (X := cxOf (L2.CX P w) P w K mg base N__counts "_counts" (defScope s__counts) f cdv A outer s H E) rfl
    exact dss_cons (ds_asgO (i := 0) (ow' := []) sc__counts.nd (df_lst (da_cons (de_int) (da_nil))) (by decide) (by decide)) (dss_cons (ds_for hpo rfl (di_range2 tx.b_range (da_cons (de_int) (da_cons (de_op op_addAll rd_add (de_op op_fdivAll rd_fdiv (de_glob tx.g_MOST_POINTS) (de_int)) (de_int)) (da_nil)))) (dg_name (i := 1) sc__counts.nd) (by decide) aName_same (dss_one (ds_app (i := 0) (de_un (ow' := []) (de_callB (cr_sumT rfl) rc_sumT tx.b_sum (by decide +kernel) (da_cons (de_f (df_lc (own := [("inside", 2)]) rfl sc__counts.nd (di_range1 tx.b_range (da_cons (de_var 1) (da_nil))) (blkOk_by (own := [("inside", 2)]) (N := N__counts) (sc := defScope s__counts) (by decide +kernel)) (by decide) (fun _ _ _ _ _ => dg_name (i := 2) sc__counts.nd) (fun _ _ _ _ _ => dts_nil) (fun _ _ _ _ _ => de_op op_mulX rd_mulX (de_ix (de_var 0) (de_var 2)) (de_ix (de_var 0) (de_op op_sub rd_sub (de_op op_sub rd_sub (de_var 1) (de_int)) (de_var 2)))))) (da_nil))))))) (dss_in (ow' := []) (dss_one (ds_ret (de_var 0))) (by decide)))
theorem sc__check_many : FnScope N__check_many ["many", "most"] (defScope s__check_many) := ⟨rfl, rfl, rfl, by decide +kernel, rfl, by decide +kernel, by decide +kernel⟩
theorem ok__check_many (tx : Txt K mg T w) (c_is_whole : FnD P w K mg base T 1 "is_whole" 3 D_is_whole) {f : Addr} {fd : FuncData} (Fu : Fun K "_check_many" "_check_many" s__check_many f fd) : FnOk P w K mg base (L2.CX P w) 2 f fd ["many", "most"] (spD K T 2 D__check_many) :=
  fn_D (ow' := []) Fu sc__check_many rfl fun cdv A outer s H E hr => by
    have tk : Takes (cxOf (L2.CX P w) P w K mg base N__check_many "_check_many" (defScope s__check_many) f cdv A outer s H E) (fun cls d _ H => E cls d H) := takes_of rfl rfl rfl rfl
    have hpo := passes_of (X := cxOf (L2.CX P w) P w K mg base N__check_many "_check_many" (defScope s__check_many) f cdv A outer s H E) rfl
    exact dss_one (ds_if (DW.dt (dw_or (dt_not (dt_truth (de_call c_is_whole hr (by decide) (passAt tk) (da_cons (de_var 0) (da_cons (de_int) (da_cons (de_var 1) (da_nil))))))) (dw_or1 (dt_cmp (op_eqD (hu64 hr)) rd_eq (de_op op_modAll rd_mod (de_var 0) (de_int)) (de_int) (nomark _))))) (dss_one (ds_raise tx.e_BadSize rfl tk)) (dss_nil))
theorem sc_arches_count : FnScope N_arches_count ["many"] (defScope s_arches_count) := ⟨rfl, rfl, rfl, by decide +kernel, rfl, by decide +kernel, by decide +kernel⟩
theorem ok_arches_count (tx : Txt K mg T w) (c__check_many : FnD P w K mg base T 2 "_check_many" 2 D__check_many) (c__counts : FnD P w K mg base T 1 "_counts" 0 D__counts) {f : Addr} {fd : FuncData} (Fu : Fun K "arches_count" "arches_count" s_arches_count f fd) : FnOk P w K mg base (L2.CX P w) 3 f fd ["many"] (spD K T 1 D_arches_count) :=
  fn_D (ow' := []) Fu sc_arches_count rfl fun cdv A outer s H E hr => by
    have tk : Takes (cxOf (L2.CX P w) P w K mg base N_arches_count "arches_count" (defScope s_arches_count) f cdv A outer s H E) (fun cls d _ H => E cls d H) := takes_of rfl rfl rfl rfl
    have hpo := passes_of (X := cxOf (L2.CX P w) P w K mg base N_arches_count "arches_count" (defScope s_arches_count) f cdv A outer s H E) rfl
    exact dss_cons (ds_drop (de_call c__check_many hr (by decide) (passAt tk) (da_cons (de_var 0) (da_cons (de_glob tx.g_MOST_POINTS) (da_nil))))) (dss_one (ds_ret (de_ix (de_call0 c__counts hr (by decide) (passAt tk)) (de_op op_fdivAll rd_fdiv (de_var 0) (de_int)))))
theorem sc__made : FnScope N__made ["many", "number", "first", "counts"] (defScope s__made) := ⟨rfl, rfl, rfl, by decide +kernel, rfl, by decide +kernel, by decide +kernel⟩
theorem ok__made (tx : Txt K mg T w) (m : Nat) (c__made : FnD P w K mg base T (1 + m) "_made" 4 (R__made m)) {f : Addr} {fd : FuncData} (Fu : Fun K "_made" "_made" s__made f fd) : FnOk P w K mg base (L2.CX P w) (1 + m + 1) f fd ["many", "number", "first", "counts"] (spD K T 4 (R__made (m + 1))) :=
  fn_D (ow' := []) Fu sc__made rfl fun cdv A outer s H E hr => by
    have tk : Takes (cxOf (L2.CX P w) P w K mg base N__made "_made" (defScope s__made) f cdv A outer s H E) (fun cls d _ H => E cls d H) := takes_of rfl rfl rfl rfl
    have hpo := passes_of (X := cxOf (L2.CX P w) P w K mg base N__made "_made" (defScope s__made) f cdv A outer s H E) rfl
    exact dss_cons (ds_if (dt_cmp (op_eqD (hu64 hr)) rd_eq (de_var 0) (de_int) (nomark _)) (dss_one (ds_ret (de_f (df_lst (da_nil))))) (dss_nil)) (dss_cons (ds_asg (i := 4) (ow' := []) sc__made.nd (de_int) (by decide) (by decide)) (dss_cons (ds_while 1000000 hpo (dt_truth (de_bl)) (dss_cons (ds_asg (i := 5) (ow' := []) sc__made.nd (de_op op_sub rd_sub (de_op op_sub rd_sub (de_op op_fdivAll rd_fdiv (de_var 0) (de_int)) (de_int)) (de_var 4)) (by decide) (by decide)) (dss_cons (ds_asg (i := 6) (ow' := []) sc__made.nd (de_op op_mulX rd_mulX (de_ix (de_var 3) (de_var 4)) (de_ix (de_var 3) (de_var 5))) (by decide) (by decide)) (dss_cons (ds_if (dt_cmp op_lt rd_cmp (de_var 1) (de_var 6) (nomark _)) (dss_one (ds_break)) (dss_nil)) (dss_cons (ds_asg (i := 1) (ow' := []) sc__made.nd (de_op op_sub rd_sub (de_var 1) (de_var 6)) (by decide) (by decide)) (dss_one (ds_aug (i := 4) sc__made.nd iop_addAll rd_iadd (de_int)))))))) (dss_cons (ds_asg (i := 7) (ow' := []) sc__made.nd (de_op op_addAll rd_add (de_op op_addAll rd_add (de_var 2) (de_op op_mulX rd_mulX (de_int) (de_var 4))) (de_int)) (by decide) (by decide)) (dss_cons (ds_asg (i := 8) (ow' := []) sc__made.nd (de_call c__made hr (by omega) (passAt tk) (da_cons (de_op op_mulX rd_mulX (de_int) (de_var 4)) (da_cons (de_op op_fdivX rd_fdivX (de_var 1) (de_ix (de_var 3) (de_var 5))) (da_cons (de_op op_addAll rd_add (de_var 2) (de_int)) (da_cons (de_var 3) (da_nil)))))) (by decide) (by decide)) (dss_one (ds_ret (de_op op_addAll rd_add (de_op op_addAll rd_add (de_f (df_lst (da_cons (de_tup (da_cons (de_var 2) (da_cons (de_var 7) (da_nil)))) (da_nil)))) (de_var 8)) (de_call c__made hr (by omega) (passAt tk) (da_cons (de_op op_mulX rd_mulX (de_int) (de_var 5)) (da_cons (de_op op_modAll rd_mod (de_var 1) (de_ix (de_var 3) (de_var 5))) (da_cons (de_op op_addAll rd_add (de_var 7) (de_int)) (da_cons (de_var 3) (da_nil)))))))))))))
theorem sc__of_pairs : FnScope N__of_pairs ["many", "pairs"] (defScope s__of_pairs) := ⟨rfl, rfl, rfl, by decide +kernel, rfl, by decide +kernel, by decide +kernel⟩
theorem ok__of_pairs (tx : Txt K mg T w) {f : Addr} {fd : FuncData} (Fu : Fun K "_of_pairs" "_of_pairs" s__of_pairs f fd) : FnOk P w K mg base (L2.CX P w) 1 f fd ["many", "pairs"] (spD K T 2 D__of_pairs) :=
  fn_D (ow' := []) Fu sc__of_pairs rfl fun cdv A outer s H E hr => by
    have tk : Takes (cxOf (L2.CX P w) P w K mg base N__of_pairs "_of_pairs" (defScope s__of_pairs) f cdv A outer s H E) (fun cls d _ H => E cls d H) := takes_of rfl rfl rfl rfl
    have hpo := passes_of (X := cxOf (L2.CX P w) P w K mg base N__of_pairs "_of_pairs" (defScope s__of_pairs) f cdv A outer s H E) rfl
    exact dss_cons (ds_asgO (i := 2) (ow' := []) sc__of_pairs.nd (df_lstRg1 tx.b_list tx.b_range rfl (de_var 0)) (by decide) (by decide)) (dss_cons (ds_for hpo rfl (di_seq (de_var 1)) (dg_tup rfl (dgs_cons (dg_name (i := 3) sc__of_pairs.nd) (dgs_cons (dg_name (i := 4) sc__of_pairs.nd) (dgs_nil))) (asCons_len (asCons_len (fun _ _ _ h => asNil_len h)))) (by decide) (aTup_same (asCons_same (aName_same) (asCons_same (aName_same) (asNil_same)))) (dss_cons (ds_setI (i := 2) (de_var 4) (de_var 3)) (dss_one (ds_setI (i := 2) (de_var 3) (de_var 4))))) (dss_in (ow' := []) (dss_one (ds_ret (de_callTy call_tuple_ofN rc_tuple tx.b_tuple (by decide +kernel) (da_cons (de_var 2) (da_nil))))) (by decide)))
theorem sc_arches_at : FnScope N_arches_at ["many", "number"] (defScope s_arches_at) := ⟨rfl, rfl, rfl, by decide +kernel, rfl, by decide +kernel, by decide +kernel⟩
theorem ok_arches_at (tx : Txt K mg T w) (c__check_many : FnD P w K mg base T 2 "_check_many" 2 D__check_many) (c__counts : FnD P w K mg base T 1 "_counts" 0 D__counts) (c__made : FnD P w K mg base T 41 "_made" 4 D__made) (c__of_pairs : FnD P w K mg base T 1 "_of_pairs" 2 D__of_pairs) (c_is_whole : FnD P w K mg base T 1 "is_whole" 3 D_is_whole) {f : Addr} {fd : FuncData} (Fu : Fun K "arches_at" "arches_at" s_arches_at f fd) : FnOk P w K mg base (L2.CX P w) 42 f fd ["many", "number"] (spD K T 2 D_arches_at) :=
  fn_D (ow' := []) Fu sc_arches_at rfl fun cdv A outer s H E hr => by
    have tk : Takes (cxOf (L2.CX P w) P w K mg base N_arches_at "arches_at" (defScope s_arches_at) f cdv A outer s H E) (fun cls d _ H => E cls d H) := takes_of rfl rfl rfl rfl
    have hpo := passes_of (X := cxOf (L2.CX P w) P w K mg base N_arches_at "arches_at" (defScope s_arches_at) f cdv A outer s H E) rfl
    exact dss_cons (ds_drop (de_call c__check_many hr (by decide) (passAt tk) (da_cons (de_var 0) (da_cons (de_glob tx.g_MOST_POINTS) (da_nil))))) (dss_cons (ds_asg (i := 2) (ow' := []) sc_arches_at.nd (de_call0 c__counts hr (by decide) (passAt tk)) (by decide) (by decide)) (dss_cons (ds_if (dt_not (dt_truth (de_call c_is_whole hr (by decide) (passAt tk) (da_cons (de_var 1) (da_cons (de_int) (da_cons (de_op op_sub rd_sub (de_ix (de_var 2) (de_op op_fdivAll rd_fdiv (de_var 0) (de_int))) (de_int)) (da_nil))))))) (dss_one (ds_raise tx.e_BadNumber rfl tk)) (dss_nil)) (dss_one (ds_ret (de_call c__of_pairs hr (by decide) (passAt tk) (da_cons (de_var 0) (da_cons (de_call c__made hr (by decide) (passAt tk) (da_cons (de_var 0) (da_cons (de_var 1) (da_cons (de_int) (da_cons (de_var 2) (da_nil)))))) (da_nil))))))))
theorem sc__number : FnScope N__number ["arches", "first", "end", "counts"] (defScope s__number) := ⟨rfl, rfl, rfl, by decide +kernel, rfl, by decide +kernel, by decide +kernel⟩
theorem ok__number (tx : Txt K mg T w) (m : Nat) (c__number : FnD P w K mg base T (1 + m) "_number" 4 (R__number m)) {f : Addr} {fd : FuncData} (Fu : Fun K "_number" "_number" s__number f fd) : FnOk P w K mg base (L2.CX P w) (1 + m + 1) f fd ["arches", "first", "end", "counts"] (spD K T 4 (R__number (m + 1))) :=
  fn_D (ow' := []) Fu sc__number rfl fun cdv A outer s H E hr => by
    have tk : Takes (cxOf (L2.CX P w) P w K mg base N__number "_number" (defScope s__number) f cdv A outer s H E) (fun cls d _ H => E cls d H) := takes_of rfl rfl rfl rfl
    have hpo := passes_of (X := cxOf (L2.CX P w) P w K mg base N__number "_number" (defScope s__number) f cdv A outer s H E) rfl
    exact dss_cons (ds_if (dt_cmp (op_eqD (hu64 hr)) rd_eq (de_var 1) (de_var 2) (nomark _)) (dss_one (ds_ret (de_int))) (dss_nil)) (dss_cons (ds_asg (i := 4) (ow' := []) sc__number.nd (de_ix (de_var 0) (de_var 1)) (by decide) (by decide)) (dss_cons (ds_asg (i := 5) (ow' := []) sc__number.nd (de_op op_fdivAll rd_fdiv (de_op op_sub rd_sub (de_op op_sub rd_sub (de_var 4) (de_var 1)) (de_int)) (de_int)) (by decide) (by decide)) (dss_cons (ds_asg (i := 6) (ow' := []) sc__number.nd (de_op op_fdivAll rd_fdiv (de_op op_sub rd_sub (de_op op_sub rd_sub (de_var 2) (de_var 4)) (de_int)) (de_int)) (by decide) (by decide)) (dss_cons (ds_asg (i := 7) (ow' := []) sc__number.nd (de_callB (cr_sumT rfl) rc_sumT tx.b_sum (by decide +kernel) (da_cons (de_f (df_lc (own := [("fewer", 8)]) rfl sc__number.nd (di_range1 tx.b_range (da_cons (de_var 5) (da_nil))) (blkOk_by (own := [("fewer", 8)]) (N := N__number) (sc := defScope s__number) (by decide +kernel)) (by decide) (fun _ _ _ _ _ => dg_name (i := 8) sc__number.nd) (fun _ _ _ _ _ => dts_nil) (fun _ _ _ _ _ => de_op op_mulX rd_mulX (de_ix (de_var 3) (de_var 8)) (de_ix (de_var 3) (de_op op_sub rd_sub (de_op op_addAll rd_add (de_var 5) (de_var 6)) (de_var 8)))))) (da_nil))) (by decide) (by decide)) (dss_cons (ds_aug (i := 7) sc__number.nd iop_addAll rd_iadd (de_op op_mulX rd_mulX (de_call c__number hr (by omega) (passAt tk) (da_cons (de_var 0) (da_cons (de_op op_addAll rd_add (de_var 1) (de_int)) (da_cons (de_var 4) (da_cons (de_var 3) (da_nil)))))) (de_ix (de_var 3) (de_var 6)))) (dss_one (ds_ret (de_op op_addAll rd_add (de_var 7) (de_call c__number hr (by omega) (passAt tk) (da_cons (de_var 0) (da_cons (de_op op_addAll rd_add (de_var 4) (de_int)) (da_cons (de_var 2) (da_cons (de_var 3) (da_nil))))))))))))))
theorem sc_arches_number : FnScope N_arches_number ["arches"] (defScope s_arches_number) := ⟨rfl, rfl, rfl, by decide +kernel, rfl, by decide +kernel, by decide +kernel⟩
theorem ok_arches_number (tx : Txt K mg T w) (c__counts : FnD P w K mg base T 1 "_counts" 0 D__counts) (c__number : FnD P w K mg base T 41 "_number" 4 D__number) (c_is_full : FnD P w K mg base T 3 "is_full" 1 D_is_full) {f : Addr} {fd : FuncData} (Fu : Fun K "arches_number" "arches_number" s_arches_number f fd) : FnOk P w K mg base (L2.CX P w) 42 f fd ["arches"] (spD K T 1 D_arches_number) :=
  fn_D (ow' := []) Fu sc_arches_number rfl fun cdv A outer s H E hr => by
    have tk : Takes (cxOf (L2.CX P w) P w K mg base N_arches_number "arches_number" (defScope s_arches_number) f cdv A outer s H E) (fun cls d _ H => E cls d H) := takes_of rfl rfl rfl rfl
    have hpo := passes_of (X := cxOf (L2.CX P w) P w K mg base N_arches_number "arches_number" (defScope s_arches_number) f cdv A outer s H E) rfl
    exact dss_cons (ds_if (dt_not (dt_truth (de_call c_is_full hr (by decide) (passAt tk) (da_cons (de_var 0) (da_nil))))) (dss_one (ds_ret (de_non))) (dss_nil)) (dss_one (ds_ret (de_call c__number hr (by decide) (passAt tk) (da_cons (de_var 0) (da_cons (de_int) (da_cons (de_callB call_len rc_len tx.b_len (by decide +kernel) (da_cons (de_var 0) (da_nil))) (da_cons (de_call0 c__counts hr (by decide) (passAt tk)) (da_nil))))))))
theorem sc_all_arches : FnScope N_all_arches ["many"] (defScope s_all_arches) := ⟨rfl, rfl, rfl, by decide +kernel, rfl, by decide +kernel, by decide +kernel⟩
theorem ok_all_arches (tx : Txt K mg T w) (c__check_many : FnD P w K mg base T 2 "_check_many" 2 D__check_many) (c__counts : FnD P w K mg base T 1 "_counts" 0 D__counts) (c__made : FnD P w K mg base T 41 "_made" 4 D__made) (c__of_pairs : FnD P w K mg base T 1 "_of_pairs" 2 D__of_pairs) {f : Addr} {fd : FuncData} (Fu : Fun K "all_arches" "all_arches" s_all_arches f fd) : FnOk P w K mg base (L2.CX P w) 42 f fd ["many"] (spD K T 1 D_all_arches) :=
  fn_D (ow' := []) Fu sc_all_arches rfl fun cdv A outer s H E hr => by
    have tk : Takes (cxOf (L2.CX P w) P w K mg base N_all_arches "all_arches" (defScope s_all_arches) f cdv A outer s H E) (fun cls d _ H => E cls d H) := takes_of rfl rfl rfl rfl
    have hpo := passes_of (X := cxOf (L2.CX P w) P w K mg base N_all_arches "all_arches" (defScope s_all_arches) f cdv A outer s H E) rfl
    exact dss_cons (ds_drop (de_call c__check_many hr (by decide) (passAt tk) (da_cons (de_var 0) (da_cons (de_glob tx.g_MOST_LISTED) (da_nil))))) (dss_cons (ds_asg (i := 1) (ow' := []) sc_all_arches.nd (de_call0 c__counts hr (by decide) (passAt tk)) (by decide) (by decide)) (dss_one (ds_ret (de_f (df_lc (own := [("number", 2)]) rfl sc_all_arches.nd (di_range1 tx.b_range (da_cons (de_ix (de_var 1) (de_op op_fdivAll rd_fdiv (de_var 0) (de_int))) (da_nil))) (blkOk_by (own := [("number", 2)]) (N := N_all_arches) (sc := defScope s_all_arches) (by decide +kernel)) (by decide) (fun _ _ _ _ _ => dg_name (i := 2) sc_all_arches.nd) (fun _ _ _ _ _ => dts_nil) (fun _ _ _ _ _ => de_call c__of_pairs hr (by decide) passNo (da_cons (de_var 0) (da_cons (de_call c__made hr (by decide) passNo (da_cons (de_var 0) (da_cons (de_var 2) (da_cons (de_int) (da_cons (de_var 1) (da_nil)))))) (da_nil)))))))))
theorem sc__law_draws : FnScope N__law_draws ["script", "many"] (defScope s__law_draws) := ⟨rfl, rfl, rfl, by decide +kernel, rfl, by decide +kernel, by decide +kernel⟩
theorem ok__law_draws (tx : Txt K mg T w) {f : Addr} {fd : FuncData} (Fu : Fun K "_law_draws" "_law_draws" s__law_draws f fd) : FnOk P w K mg base (L2.CX P w) 1 f fd ["script", "many"] (spD K T 2 D__law_draws) :=
  fn_D (ow' := []) Fu sc__law_draws rfl fun cdv A outer s H E hr => by
    have tk : Takes (cxOf (L2.CX P w) P w K mg base N__law_draws "_law_draws" (defScope s__law_draws) f cdv A outer s H E) (fun cls d _ H => E cls d H) := takes_of rfl rfl rfl rfl
    have hpo := passes_of (X := cxOf (L2.CX P w) P w K mg base N__law_draws "_law_draws" (defScope s__law_draws) f cdv A outer s H E) rfl
    exact dss_cons (ds_asgO (i := 2) (ow' := []) sc__law_draws.nd (df_lst (da_nil)) (by decide) (by decide)) (dss_cons (ds_asg (i := 3) (ow' := [2]) sc__law_draws.nd (de_int) (by decide) (by decide)) (dss_cons (ds_for hpo rfl (di_seq (de_slice (de_var 0) (do_none) (do_some (de_int)))) (dg_name (i := 4) sc__law_draws.nd) (by decide) aName_same (dss_cons (ds_asg (i := 5) (ow' := [2]) sc__law_draws.nd (de_callB call_abs rc_abs tx.b_abs (by decide +kernel) (da_cons (de_var 4) (da_nil))) (by decide) (by decide)) (dss_cons (ds_asg (i := 3) (ow' := [2]) sc__law_draws.nd (de_op op_modAll rd_mod (de_callTy call_int1 rc_int tx.b_int (by decide +kernel) (da_cons (de_op op_addAll rd_add (de_op op_addAll rd_add (de_op op_mulAll rd_mul (de_var 3) (de_int)) (de_var 5)) (de_int)) (da_nil))) (de_int)) (by decide) (by decide)) (dss_one (ds_if (dt_cmp op_ge rd_cmp (de_var 5) (de_op op_pow rd_pow (de_int) (de_int)) (nomark _)) (dss_one (ds_for hpo rfl (di_range1 tx.b_range (da_cons (de_int) (da_nil))) (dg_name (i := 6) sc__law_draws.nd) (by decide) aName_same (dss_one (ds_if (dt_cmp op_gt rd_cmp (de_var 5) (de_int) (nomark _)) (dss_cons (ds_app (i := 2) (de_op op_modAll rd_mod (de_callTy call_int1 rc_int tx.b_int (by decide +kernel) (da_cons (de_var 5) (da_nil))) (de_int))) (dss_one (ds_asg (i := 5) (ow' := [2]) sc__law_draws.nd (de_op op_fdivAll rd_fdiv (de_var 5) (de_int)) (by decide) (by decide)))) (dss_nil))))) (dss_one (ds_app (i := 2) (de_op op_modAll rd_mod (de_op op_fdivAll rd_fdiv (de_callTy call_int1 rc_int tx.b_int (by decide +kernel) (da_cons (de_op op_addAll rd_add (de_op op_mulAll rd_mul (de_var 3) (de_int)) (de_int)) (da_nil))) (de_int)) (de_int))))))))) (dss_cons (ds_for hpo rfl (di_range1 tx.b_range (da_cons (de_var 1) (da_nil))) (dg_name (i := 6) sc__law_draws.nd) (by decide) aName_same (dss_one (ds_if (dt_un (ow' := []) (dt_cmp op_lt rd_cmp (de_callB call_len rc_len tx.b_len (by decide +kernel) (da_cons (de_var 2) (da_nil))) (de_var 1) (nomark _))) (dss_cons (ds_asg (i := 3) (ow' := [2]) sc__law_draws.nd (de_op op_modAll rd_mod (de_callTy call_int1 rc_int tx.b_int (by decide +kernel) (da_cons (de_op op_addAll rd_add (de_op op_addAll rd_add (de_op op_mulAll rd_mul (de_var 3) (de_int)) (de_var 6)) (de_int)) (da_nil))) (de_int)) (by decide) (by decide)) (dss_one (ds_app (i := 2) (de_op op_modAll rd_mod (de_op op_fdivAll rd_fdiv (de_callTy call_int1 rc_int tx.b_int (by decide +kernel) (da_cons (de_var 3) (da_nil))) (de_int)) (de_int))))) (dss_nil)))) (dss_in (ow' := []) (dss_one (ds_ret (de_slice (de_var 2) (do_none) (do_some (de_var 1))))) (by decide)))))
theorem sc__law_ways : FnScope N__law_ways ["many"] (defScope s__law_ways) := ⟨rfl, rfl, rfl, by decide +kernel, rfl, by decide +kernel, by decide +kernel⟩
theorem ok__law_ways (tx : Txt K mg T w) {f : Addr} {fd : FuncData} (Fu : Fun K "_law_ways" "_law_ways" s__law_ways f fd) : FnOk P w K mg base (L2.CX P w) 1 f fd ["many"] (spD K T 1 D__law_ways) :=
  fn_D (ow' := []) Fu sc__law_ways rfl fun cdv A outer s H E hr => by
    have tk : Takes (cxOf (L2.CX P w) P w K mg base N__law_ways "_law_ways" (defScope s__law_ways) f cdv A outer s H E) (fun cls d _ H => E cls d H) := takes_of rfl rfl rfl rfl
    have hpo := passes_of (X := cxOf (L2.CX P w) P w K mg base N__law_ways "_law_ways" (defScope s__law_ways) f cdv A outer s H E) rfl
    exact dss_cons (ds_asgO (i := 1) (ow' := []) sc__law_ways.nd (df_lst (da_cons (de_int) (da_nil))) (by decide) (by decide)) (dss_cons (ds_for hpo rfl (di_range2 tx.b_range (da_cons (de_int) (da_cons (de_op op_addAll rd_add (de_op op_fdivAll rd_fdiv (de_var 0) (de_int)) (de_int)) (da_nil)))) (dg_name (i := 2) sc__law_ways.nd) (by decide) aName_same (dss_one (ds_app (i := 1) (de_un (ow' := []) (de_callB (cr_sumT rfl) rc_sumT tx.b_sum (by decide +kernel) (da_cons (de_f (df_lc (own := [("k", 3)]) rfl sc__law_ways.nd (di_range1 tx.b_range (da_cons (de_var 2) (da_nil))) (blkOk_by (own := [("k", 3)]) (N := N__law_ways) (sc := defScope s__law_ways) (by decide +kernel)) (by decide) (fun _ _ _ _ _ => dg_name (i := 3) sc__law_ways.nd) (fun _ _ _ _ _ => dts_nil) (fun _ _ _ _ _ => de_op op_mulX rd_mulX (de_ix (de_var 1) (de_var 3)) (de_ix (de_var 1) (de_op op_sub rd_sub (de_op op_sub rd_sub (de_var 2) (de_int)) (de_var 3)))))) (da_nil))))))) (dss_in (ow' := []) (dss_one (ds_ret (de_ix (de_var 1) (de_op op_fdivAll rd_fdiv (de_var 0) (de_int))))) (by decide)))
theorem sc__law_every : FnScope N__law_every ["many"] (defScope s__law_every) := ⟨rfl, rfl, rfl, by decide +kernel, rfl, by decide +kernel, by decide +kernel⟩
theorem ok__law_every (tx : Txt K mg T w) (m : Nat) (c__law_every : FnD P w K mg base T (1 + m) "_law_every" 1 (R__law_every m)) {f : Addr} {fd : FuncData} (Fu : Fun K "_law_every" "_law_every" s__law_every f fd) : FnOk P w K mg base (L2.CX P w) (1 + m + 1) f fd ["many"] (spD K T 1 (R__law_every (m + 1))) :=
  fn_D (ow' := []) Fu sc__law_every rfl fun cdv A outer s H E hr => by
    have tk : Takes (cxOf (L2.CX P w) P w K mg base N__law_every "_law_every" (defScope s__law_every) f cdv A outer s H E) (fun cls d _ H => E cls d H) := takes_of rfl rfl rfl rfl
    have hpo := passes_of (X := cxOf (L2.CX P w) P w K mg base N__law_every "_law_every" (defScope s__law_every) f cdv A outer s H E) rfl
    exact dss_cons (ds_if (dt_cmp (op_eqD (hu64 hr)) rd_eq (de_var 0) (de_int) (nomark _)) (dss_one (ds_ret (de_f (df_lst (da_cons (de_tup (da_nil)) (da_nil)))))) (dss_nil)) (dss_cons (ds_asg (i := 1) (ow' := []) sc__law_every.nd (de_f (df_lst (da_nil))) (by decide) (by decide)) (dss_cons (ds_for hpo rfl (di_range3 tx.b_range (da_cons (de_int) (da_cons (de_var 0) (da_cons (de_int) (da_nil))))) (dg_name (i := 2) sc__law_every.nd) (by decide) aName_same (dss_one (ds_for hpo rfl (di_seq (de_call c__law_every hr (by omega) (passAt tk) (da_cons (de_op op_sub rd_sub (de_var 2) (de_int)) (da_nil)))) (dg_name (i := 3) sc__law_every.nd) (by decide) aName_same (dss_cons (ds_asg (i := 4) (ow' := []) sc__law_every.nd (de_op op_addAll rd_add (de_op op_addAll rd_add (de_tup (da_cons (de_var 2) (da_nil))) (de_callTy call_tuple_ofN rc_tuple tx.b_tuple (by decide +kernel) (da_cons (de_f (df_lc (own := [("k", 6)]) rfl sc__law_every.nd (di_seq (de_var 3)) (blkOk_by (own := [("k", 6)]) (N := N__law_every) (sc := defScope s__law_every) (by decide +kernel)) (by decide) (fun _ _ _ _ _ => dg_name (i := 6) sc__law_every.nd) (fun _ _ _ _ _ => dts_nil) (fun _ _ _ _ _ => de_op op_addAll rd_add (de_var 6) (de_int)))) (da_nil)))) (de_tup (da_cons (de_int) (da_nil)))) (by decide) (by decide)) (dss_one (ds_asg (i := 1) (ow' := []) sc__law_every.nd (de_op op_addAll rd_add (de_var 1) (de_f (df_lc (own := [("two", 5)]) rfl sc__law_every.nd (di_seq (de_call c__law_every hr (by omega) (passAt tk) (da_cons (de_op op_sub rd_sub (de_op op_sub rd_sub (de_var 0) (de_var 2)) (de_int)) (da_nil)))) (blkOk_by (own := [("two", 5)]) (N := N__law_every) (sc := defScope s__law_every) (by decide +kernel)) (by decide) (fun _ _ _ _ _ => dg_name (i := 5) sc__law_every.nd) (fun _ _ _ _ _ => dts_nil) (fun _ _ _ _ _ => de_op op_addAll rd_add (de_var 4) (de_callTy call_tuple_ofN rc_tuple tx.b_tuple (by decide +kernel) (da_cons (de_f (df_lc (own := [("k", 6)]) rfl sc__law_every.nd (di_seq (de_var 5)) (blkOk_by (own := [("k", 6)]) (by kernel_rfl)) (by decide) (fun _ _ _ _ _ => dg_name (i := 6) sc__law_every.nd) (fun _ _ _ _ _ => dts_nil) (fun _ _ _ _ _ => de_op op_addAll rd_add (de_op op_addAll rd_add (de_var 6) (de_var 2)) (de_int)))) (da_nil))))))) (by decide) (by decide))))))) (dss_one (ds_ret (de_var 1)))))
theorem sc__law_drawn : FnScope N__law_drawn ["draws", "at", "many"] (defScope s__law_drawn) := ⟨rfl, rfl, rfl, by decide +kernel, rfl, by decide +kernel, by decide +kernel⟩
theorem ok__law_drawn (tx : Txt K mg T w) {f : Addr} {fd : FuncData} (Fu : Fun K "_law_drawn" "_law_drawn" s__law_drawn f fd) : FnOk P w K mg base (L2.CX P w) 1 f fd ["draws", "at", "many"] (spD K T 3 D__law_drawn) :=
  fn_D (ow' := []) Fu sc__law_drawn rfl fun cdv A outer s H E hr => by
    have tk : Takes (cxOf (L2.CX P w) P w K mg base N__law_drawn "_law_drawn" (defScope s__law_drawn) f cdv A outer s H E) (fun cls d _ H => E cls d H) := takes_of rfl rfl rfl rfl
    have hpo := passes_of (X := cxOf (L2.CX P w) P w K mg base N__law_drawn "_law_drawn" (defScope s__law_drawn) f cdv A outer s H E) rfl
    exact dss_cons (ds_parOO (i := 3) (j := 4) (ow' := []) rfl sc__law_drawn.nd (df_op op_mulAll rd_mulF (de_f (df_lst (da_cons (de_int) (da_nil)))) (de_var 2)) (df_lst (da_nil)) (by decide) (by decide) (by decide) rfl) (dss_cons (ds_for hpo rfl (di_range1 tx.b_range (da_cons (de_var 2) (da_nil))) (dg_name (i := 5) sc__law_drawn.nd) (by decide) aName_same (dss_cons (ds_asg (i := 6) (ow' := [4, 3]) sc__law_drawn.nd (de_op op_sub rd_sub (de_var 2) (de_var 5)) (by decide) (by decide)) (dss_one (ds_if (dt_un (ow' := [3]) (DW.dt (dw_and (dt_cmp op_gt rd_cmp (de_callB call_len rc_len tx.b_len (by decide +kernel) (da_cons (de_var 4) (da_nil))) (de_int) (nomark _)) (dw_and1 (DW.dt (dw_or (dt_cmp (op_eqD (hu64 hr)) rd_eq (de_callB call_len rc_len tx.b_len (by decide +kernel) (da_cons (de_var 4) (da_nil))) (de_var 6) (nomark _)) (dw_or1 (dt_cmp (op_eqD (hu64 hr)) rd_eq (de_op op_modAll rd_mod (de_callTy call_int1 rc_int tx.b_int (by decide +kernel) (da_cons (de_ix (de_var 0) (de_op op_addAll rd_add (de_var 1) (de_var 5))) (da_nil))) (de_int)) (de_int) (nomark _))))))))) (dss_cons (ds_popT (i := 4) (dg_name (i := 7) sc__law_drawn.nd) (by decide) aName_same) (dss_one (ds_setI2 (i := 3) (de_var 7) (de_var 5) (de_var 5) (de_var 7)))) (dss_one (ds_app (i := 4) (de_var 5))))))) (dss_in (ow' := []) (dss_one (ds_ret (de_callTy call_tuple_ofN rc_tuple tx.b_tuple (by decide +kernel) (da_cons (de_var 3) (da_nil))))) (by decide)))
theorem sc__law_ahead : FnScope N__law_ahead ["arches"] (defScope s__law_ahead) := ⟨rfl, rfl, rfl, by decide +kernel, rfl, by decide +kernel, by decide +kernel⟩
theorem ok__law_ahead (tx : Txt K mg T w) (c__law_ways : FnD P w K mg base T 1 "_law_ways" 1 D__law_ways) (m : Nat) (c__law_ahead : FnD P w K mg base T (2 + m) "_law_ahead" 1 (R__law_ahead m)) {f : Addr} {fd : FuncData} (Fu : Fun K "_law_ahead" "_law_ahead" s__law_ahead f fd) : FnOk P w K mg base (L2.CX P w) (2 + m + 1) f fd ["arches"] (spD K T 1 (R__law_ahead (m + 1))) :=
  fn_D (ow' := []) Fu sc__law_ahead rfl fun cdv A outer s H E hr => by
    have tk : Takes (cxOf (L2.CX P w) P w K mg base N__law_ahead "_law_ahead" (defScope s__law_ahead) f cdv A outer s H E) (fun cls d _ H => E cls d H) := takes_of rfl rfl rfl rfl
    have hpo := passes_of (X := cxOf (L2.CX P w) P w K mg base N__law_ahead "_law_ahead" (defScope s__law_ahead) f cdv A outer s H E) rfl
    exact dss_cons (ds_par (i := 1) (j := 2) (ow' := []) rfl sc__law_ahead.nd (de_callB call_len rc_len tx.b_len (by decide +kernel) (da_cons (de_var 0) (da_nil))) (de_int) (by decide) (by decide) (by decide) rfl) (dss_cons (ds_if (dt_cmp (op_eqD (hu64 hr)) rd_eq (de_var 1) (de_int) (nomark _)) (dss_one (ds_ret (de_int))) (dss_nil)) (dss_cons (ds_asg (i := 3) (ow' := []) sc__law_ahead.nd (de_ix (de_var 0) (de_int)) (by decide) (by decide)) (dss_cons (ds_for hpo rfl (di_range3 tx.b_range (da_cons (de_int) (da_cons (de_var 3) (da_cons (de_int) (da_nil))))) (dg_name (i := 4) sc__law_ahead.nd) (by decide) aName_same (dss_one (ds_asg (i := 2) (ow' := []) sc__law_ahead.nd (de_op op_addAll rd_add (de_var 2) (de_op op_mulX rd_mulX (de_call c__law_ways hr (by omega) (passAt tk) (da_cons (de_op op_sub rd_sub (de_var 4) (de_int)) (da_nil))) (de_call c__law_ways hr (by omega) (passAt tk) (da_cons (de_op op_sub rd_sub (de_op op_sub rd_sub (de_var 1) (de_var 4)) (de_int)) (da_nil))))) (by decide) (by decide)))) (dss_cons (ds_asg (i := 5) (ow' := []) sc__law_ahead.nd (de_callTy call_tuple_ofN rc_tuple tx.b_tuple (by decide +kernel) (da_cons (de_f (df_lc (own := [("one", 7)]) rfl sc__law_ahead.nd (di_seq (de_slice (de_var 0) (do_some (de_int)) (do_some (de_var 3)))) (blkOk_by (own := [("one", 7)]) (N := N__law_ahead) (sc := defScope s__law_ahead) (by decide +kernel)) (by decide) (fun _ _ _ _ _ => dg_name (i := 7) sc__law_ahead.nd) (fun _ _ _ _ _ => dts_nil) (fun _ _ _ _ _ => de_op op_sub rd_sub (de_var 7) (de_int)))) (da_nil))) (by decide) (by decide)) (dss_cons (ds_asg (i := 6) (ow' := []) sc__law_ahead.nd (de_callTy call_tuple_ofN rc_tuple tx.b_tuple (by decide +kernel) (da_cons (de_f (df_lc (own := [("one", 7)]) rfl sc__law_ahead.nd (di_seq (de_slice (de_var 0) (do_some (de_op op_addAll rd_add (de_var 3) (de_int))) (do_none))) (blkOk_by (own := [("one", 7)]) (N := N__law_ahead) (sc := defScope s__law_ahead) (by decide +kernel)) (by decide) (fun _ _ _ _ _ => dg_name (i := 7) sc__law_ahead.nd) (fun _ _ _ _ _ => dts_nil) (fun _ _ _ _ _ => de_op op_sub rd_sub (de_op op_sub rd_sub (de_var 7) (de_var 3)) (de_int)))) (da_nil))) (by decide) (by decide)) (dss_one (ds_ret (de_op op_addAll rd_add (de_op op_addAll rd_add (de_var 2) (de_op op_mulX rd_mulX (de_call c__law_ahead hr (by omega) (passAt tk) (da_cons (de_var 5) (da_nil))) (de_call c__law_ways hr (by omega) (passAt tk) (da_cons (de_op op_sub rd_sub (de_op op_sub rd_sub (de_var 1) (de_var 3)) (de_int)) (da_nil))))) (de_call c__law_ahead hr (by omega) (passAt tk) (da_cons (de_var 6) (da_nil)))))))))))
theorem sc__law_fault : FnScope N__law_fault ["value"] (defScope s__law_fault) := ⟨rfl, rfl, rfl, by decide +kernel, rfl, by decide +kernel, by decide +kernel⟩
theorem ok__law_fault (tx : Txt K mg T w) {f : Addr} {fd : FuncData} (Fu : Fun K "_law_fault" "_law_fault" s__law_fault f fd) : FnOk P w K mg base (L2.CX P w) 1 f fd ["value"] (spD K T 1 D__law_fault) :=
  fn_D (ow' := []) Fu sc__law_fault rfl fun cdv A outer s H E hr => by
    have tk : Takes (cxOf (L2.CX P w) P w K mg base N__law_fault "_law_fault" (defScope s__law_fault) f cdv A outer s H E) (fun cls d _ H => E cls d H) := takes_of rfl rfl rfl rfl
    have hpo := passes_of (X := cxOf (L2.CX P w) P w K mg base N__law_fault "_law_fault" (defScope s__law_fault) f cdv A outer s H E) rfl
    exact dss_cons (ds_if (DW.dt (dw_or (dt_not (dt_truth (de_isi kit_tuple tx.b_isinstance tx.b_tuple (by decide +kernel) (de_var 0)))) (dw_or (dt_cmp op_gt rd_cmp (de_callB call_len rc_len tx.b_len (by decide +kernel) (da_cons (de_var 0) (da_nil))) (de_int) (nomark _)) (dw_or1 (dt_not (dt_truth (de_callB (cr_all rfl) rc_all tx.b_all (by decide +kernel) (da_cons (de_f (df_lc (own := [("one", 3)]) rfl sc__law_fault.nd (di_seq (de_var 0)) (blkOk_by (own := [("one", 3)]) (N := N__law_fault) (sc := defScope s__law_fault) (by decide +kernel)) (by decide) (fun _ _ _ _ _ => dg_name (i := 3) sc__law_fault.nd) (fun _ _ _ _ _ => dts_nil) (fun _ _ _ _ _ => de_and (de_isi kit_int tx.b_isinstance tx.b_int (by decide +kernel) (de_var 3)) (de_one (de_not (de_isi kit_bool tx.b_isinstance tx.b_bool (by decide +kernel) (de_var 3))))))) (da_nil))))))))) (dss_one (ds_ret (de_tup (da_cons (de_str) (da_nil))))) (dss_nil)) (dss_cons (ds_if (dt_truth (de_callB (cr_any rfl) rc_any tx.b_any (by decide +kernel) (da_cons (de_f (df_lc (own := [("one", 3)]) rfl sc__law_fault.nd (di_seq (de_var 0)) (blkOk_by (own := [("one", 3)]) (N := N__law_fault) (sc := defScope s__law_fault) (by decide +kernel)) (by decide) (fun _ _ _ _ _ => dg_name (i := 3) sc__law_fault.nd) (fun _ _ _ _ _ => dts_nil) (fun _ _ _ _ _ => de_or (de_cmp op_lt rd_cmp (de_var 3) (de_int) (nomark _)) (de_one (de_cmp op_ge rd_cmp (de_var 3) (de_callB call_len rc_len tx.b_len (by decide +kernel) (da_cons (de_var 0) (da_nil))) (nomark _)))))) (da_nil)))) (dss_one (ds_ret (de_tup (da_cons (de_str) (da_nil))))) (dss_nil)) (dss_cons (ds_for hpo rfl (di_range1 tx.b_range (da_cons (de_callB call_len rc_len tx.b_len (by decide +kernel) (da_cons (de_var 0) (da_nil))) (da_nil))) (dg_name (i := 1) sc__law_fault.nd) (by decide) aName_same (dss_one (ds_if (dt_cmp (op_neD (hu64 hr)) rd_ne (de_ix (de_var 0) (de_ix (de_var 0) (de_var 1))) (de_var 1) (nomark _)) (dss_one (ds_ret (de_tup (da_cons (de_str) (da_cons (de_var 1) (da_nil)))))) (dss_nil)))) (dss_cons (ds_for hpo rfl (di_range1 tx.b_range (da_cons (de_callB call_len rc_len tx.b_len (by decide +kernel) (da_cons (de_var 0) (da_nil))) (da_nil))) (dg_name (i := 1) sc__law_fault.nd) (by decide) aName_same (dss_one (ds_for hpo rfl (di_range2 tx.b_range (da_cons (de_op op_addAll rd_add (de_var 1) (de_int)) (da_cons (de_callB call_len rc_len tx.b_len (by decide +kernel) (da_cons (de_var 0) (da_nil))) (da_nil)))) (dg_name (i := 2) sc__law_fault.nd) (by decide) aName_same (dss_one (ds_if (DW.dt (dw_and (dt_cmp op_gt rd_cmp (de_ix (de_var 0) (de_var 1)) (de_var 2) (nomark _)) (dw_and1 (dt_cmp op_gt rd_cmp (de_ix (de_var 0) (de_var 2)) (de_ix (de_var 0) (de_var 1)) (nomark _))))) (dss_one (ds_ret (de_tup (da_cons (de_str) (da_cons (de_var 1) (da_cons (de_var 2) (da_nil))))))) (dss_nil)))))) (dss_one (ds_ret (de_non))))))
theorem sc__law_bent : FnScope N__law_bent ["value", "draws", "at"] (defScope s__law_bent) := ⟨rfl, rfl, rfl, by decide +kernel, rfl, by decide +kernel, by decide +kernel⟩
theorem ok__law_bent (tx : Txt K mg T w) {f : Addr} {fd : FuncData} (Fu : Fun K "_law_bent" "_law_bent" s__law_bent f fd) : FnOk P w K mg base (L2.CX P w) 1 f fd ["value", "draws", "at"] (spD K T 3 D__law_bent) :=
  fn_D (ow' := []) Fu sc__law_bent rfl fun cdv A outer s H E hr => by
    have tk : Takes (cxOf (L2.CX P w) P w K mg base N__law_bent "_law_bent" (defScope s__law_bent) f cdv A outer s H E) (fun cls d _ H => E cls d H) := takes_of rfl rfl rfl rfl
    have hpo := passes_of (X := cxOf (L2.CX P w) P w K mg base N__law_bent "_law_bent" (defScope s__law_bent) f cdv A outer s H E) rfl
    exact dss_cons (ds_parO (i := 3) (j := 4) (ow' := []) rfl sc__law_bent.nd (df_callTy call_list_of rc_listF tx.b_list (by decide +kernel) (da_cons (de_var 0) (da_nil))) (de_callB call_len rc_len tx.b_len (by decide +kernel) (da_cons (de_var 0) (da_nil))) (by decide) (by decide) (by decide) rfl) (dss_cons (ds_for hpo rfl (di_range1 tx.b_range (da_cons (de_op op_addAll rd_add (de_int) (de_op op_modAll rd_mod (de_callTy call_int1 rc_int tx.b_int (by decide +kernel) (da_cons (de_ix (de_var 1) (de_var 2)) (da_nil))) (de_int))) (da_nil))) (dg_name (i := 5) sc__law_bent.nd) (by decide) aName_same (dss_one (ds_if (dt_cmp op_gt rd_cmp (de_var 4) (de_int) (nomark _)) (dss_cons (ds_par3 (i := 6) (j := 7) (l := 8) (ow' := [3]) rfl sc__law_bent.nd (de_op op_modAll rd_mod (de_callTy call_int1 rc_int tx.b_int (by decide +kernel) (da_cons (de_ix (de_var 1) (de_op op_addAll rd_add (de_op op_addAll rd_add (de_var 2) (de_int)) (de_var 5))) (da_nil))) (de_var 4)) (de_op op_modAll rd_mod (de_callTy call_int1 rc_int tx.b_int (by decide +kernel) (da_cons (de_ix (de_var 1) (de_op op_addAll rd_add (de_op op_addAll rd_add (de_var 2) (de_int)) (de_var 5))) (da_nil))) (de_var 4)) (de_op op_modAll rd_mod (de_callTy call_int1 rc_int tx.b_int (by decide +kernel) (da_cons (de_ix (de_var 1) (de_op op_addAll rd_add (de_op op_addAll rd_add (de_var 2) (de_int)) (de_var 5))) (da_nil))) (de_int)) (by decide) (by decide) (by decide) (by decide) rfl) (dss_one (ds_if (dt_cmp (op_eqD (hu64 hr)) rd_eq (de_var 8) (de_int) (nomark _)) (dss_cons (ds_asg (i := 9) (ow' := [3]) sc__law_bent.nd (de_un (ow' := []) (de_ix (de_var 3) (de_var 6))) (by decide) (by decide)) (dss_one (ds_setI2 (i := 3) (de_var 6) (de_var 9) (de_var 6) (de_var 9)))) (dss_one (ds_if (dt_un (ow' := []) (DW.dt (dw_and (dt_cmp (op_eqD (hu64 hr)) rd_eq (de_var 8) (de_int) (nomark _)) (dw_and (dt_cmp (op_neD (hu64 hr)) rd_ne (de_ix (de_var 3) (de_var 6)) (de_var 6) (nomark _)) (dw_and (dt_cmp (op_neD (hu64 hr)) rd_ne (de_ix (de_var 3) (de_var 7)) (de_var 7) (nomark _)) (dw_and1 (dt_cmp (op_eqD (hu64 hr)) rd_eq (de_lset rfl tx.b_len tx.b_set (da_cons (de_f (df_lst (da_cons (de_var 6) (da_cons (de_var 7) (da_cons (de_ix (de_var 3) (de_var 6)) (da_cons (de_ix (de_var 3) (de_var 7)) (da_nil))))))) (da_nil))) (de_int) (nomark _)))))))) (dss_cons (ds_par (i := 10) (j := 11) (ow' := [3]) rfl sc__law_bent.nd (de_un (ow' := []) (de_ix (de_var 3) (de_var 6))) (de_un (ow' := []) (de_ix (de_var 3) (de_var 7))) (by decide) (by decide) (by decide) rfl) (dss_one (ds_setI4 (i := 3) (de_var 11) (de_var 6) (de_var 10) (de_var 7) (de_var 6) (de_var 11) (de_var 7) (de_var 10)))) (dss_one (ds_if (dt_cmp (op_eqD (hu64 hr)) rd_eq (de_var 8) (de_int) (nomark _)) (dss_one (ds_setI (i := 3) (de_var 7) (de_var 6))) (dss_one (ds_if (dt_cmp (op_eqD (hu64 hr)) rd_eq (de_var 8) (de_int) (nomark _)) (dss_cons (ds_setI (i := 3) (de_ix (de_f (df_lst (da_cons (de_var 4) (da_cons (de_neg (de_int)) (da_cons (de_bl) (da_cons (de_non) (da_cons (de_str) (da_cons (de_tup (da_cons (de_int) (da_nil))) (da_nil))))))))) (de_op op_modAll rd_mod (de_op op_fdivAll rd_fdiv (de_callTy call_int1 rc_int tx.b_int (by decide +kernel) (da_cons (de_ix (de_var 1) (de_var 2)) (da_nil))) (de_int)) (de_int))) (de_var 6)) (dss_in (ow' := []) (dss_one (ds_ret (de_callTy call_tuple_ofN rc_tuple tx.b_tuple (by decide +kernel) (da_cons (de_var 3) (da_nil))))) (by decide))) (dss_nil)))))))))) (dss_nil)))) (dss_in (ow' := []) (dss_one (ds_ret (de_callTy call_tuple_ofN rc_tuple tx.b_tuple (by decide +kernel) (da_cons (de_var 3) (da_nil))))) (by decide)))
theorem sc__law_same : FnScope N__law_same ["told", "due"] (defScope s__law_same) := ⟨rfl, rfl, rfl, by decide +kernel, rfl, by decide +kernel, by decide +kernel⟩
theorem ok__law_same (tx : Txt K mg T w) {f : Addr} {fd : FuncData} (Fu : Fun K "_law_same" "_law_same" s__law_same f fd) : FnOk P w K mg base (L2.CX P w) 1 f fd ["told", "due"] (spD K T 2 D__law_same) :=
  fn_D (ow' := []) Fu sc__law_same rfl fun cdv A outer s H E hr => by
    have tk : Takes (cxOf (L2.CX P w) P w K mg base N__law_same "_law_same" (defScope s__law_same) f cdv A outer s H E) (fun cls d _ H => E cls d H) := takes_of rfl rfl rfl rfl
    have hpo := passes_of (X := cxOf (L2.CX P w) P w K mg base N__law_same "_law_same" (defScope s__law_same) f cdv A outer s H E) rfl
    exact dss_cons (ds_if (dt_cmp op_isN rd_isN (de_var 1) (de_non) (nomark _)) (dss_one (ds_ret (de_cmp op_isN rd_isN (de_var 0) (de_non) (nomark _)))) (dss_nil)) (dss_one (ds_ret (de_and (de_isi kit_tuple tx.b_isinstance tx.b_tuple (by decide +kernel) (de_var 0)) (de_and (de_cmp (op_eqD (hu64 hr)) rd_eq (de_var 0) (de_var 1) (nomark _)) (de_one (de_not (de_callB (cr_any rfl) rc_any tx.b_any (by decide +kernel) (da_cons (de_f (df_lc (own := [("one", 2)]) rfl sc__law_same.nd (di_seq (de_var 0)) (blkOk_by (own := [("one", 2)]) (N := N__law_same) (sc := defScope s__law_same) (by decide +kernel)) (by decide) (fun _ _ _ _ _ => dg_name (i := 2) sc__law_same.nd) (fun _ _ _ _ _ => dts_nil) (fun _ _ _ _ _ => de_isi kit_bool tx.b_isinstance tx.b_bool (by decide +kernel) (de_var 2)))) (da_nil)))))))))
theorem sc_law : FnScope N_law ["script"] (defScope s_law) := ⟨rfl, rfl, rfl, by decide +kernel, rfl, by decide +kernel, by decide +kernel⟩
theorem ok_law (tx : Txt K mg T w) (c__law_ahead : FnD P w K mg base T 42 "_law_ahead" 1 D__law_ahead) (c__law_bent : FnD P w K mg base T 1 "_law_bent" 3 D__law_bent) (c__law_drawn : FnD P w K mg base T 1 "_law_drawn" 3 D__law_drawn) (c__law_draws : FnD P w K mg base T 1 "_law_draws" 2 D__law_draws) (c__law_every : FnD P w K mg base T 41 "_law_every" 1 D__law_every) (c__law_fault : FnD P w K mg base T 1 "_law_fault" 1 D__law_fault) (c__law_same : FnD P w K mg base T 1 "_law_same" 2 D__law_same) (c__law_ways : FnD P w K mg base T 1 "_law_ways" 1 D__law_ways) (c_all_arches : FnD P w K mg base T 42 "all_arches" 1 D_all_arches) (c_arches_at : FnD P w K mg base T 42 "arches_at" 2 D_arches_at) (c_arches_count : FnD P w K mg base T 3 "arches_count" 1 D_arches_count) (c_arches_fault : FnD P w K mg base T 2 "arches_fault" 1 D_arches_fault) (c_arches_number : FnD P w K mg base T 42 "arches_number" 1 D_arches_number) {f : Addr} {fd : FuncData} (Fu : Fun K "law" "law" s_law f fd) : FnOk P w K mg base (L2.CX P w) 43 f fd ["script"] (spD K T 1 D_law) :=
  fn_D (ow' := []) Fu sc_law rfl fun cdv A outer s H E hr => by
    have tk : Takes (cxOf (L2.CX P w) P w K mg base N_law "law" (defScope s_law) f cdv A outer s H E) (fun cls d _ H => E cls d H) := takes_of rfl rfl rfl rfl
    have hpo := passes_of (X := cxOf (L2.CX P w) P w K mg base N_law "law" (defScope s_law) f cdv A outer s H E) rfl
    exact dss_cons (ds_asg (i := 1) (ow' := []) sc_law.nd (de_call c__law_draws hr (by decide) (passAt tk) (da_cons (de_var 0) (da_cons (de_int) (da_nil)))) (by decide) (by decide)) (dss_cons (ds_asg (i := 2) (ow' := []) sc_law.nd (de_op op_mulX rd_mulX (de_int) (de_op op_modAll rd_mod (de_callTy call_int1 rc_int tx.b_int (by decide +kernel) (da_cons (de_ix (de_var 1) (de_int)) (da_nil))) (de_int))) (by decide) (by decide)) (dss_cons (ds_asg (i := 3) (ow' := []) sc_law.nd (de_call c_all_arches hr (by decide) (passAt tk) (da_cons (de_var 2) (da_nil))) (by decide) (by decide)) (dss_cons (ds_if (DW.dt (dw_or (dt_not (dt_truth (de_isi kit_list tx.b_isinstance tx.b_list (by decide +kernel) (de_var 3)))) (dw_or (dt_cmp (op_neD (hu64 hr)) rd_ne (de_var 3) (de_call c__law_every hr (by decide) (passAt tk) (da_cons (de_var 2) (da_nil))) (nomark _)) (dw_or1 (dt_cmp (op_neD (hu64 hr)) rd_ne (de_call c_arches_count hr (by decide) (passAt tk) (da_cons (de_var 2) (da_nil))) (de_callB call_len rc_len tx.b_len (by decide +kernel) (da_cons (de_var 3) (da_nil))) (nomark _)))))) (dss_one (ds_ret (de_bl))) (dss_nil)) (dss_cons (ds_if (dt_not (dt_truth (de_callB (cr_all rfl) rc_all tx.b_all (by decide +kernel) (da_cons (de_f (df_lc (own := [("k", 7)]) rfl sc_law.nd (di_range1 tx.b_range (da_cons (de_callB call_len rc_len tx.b_len (by decide +kernel) (da_cons (de_var 3) (da_nil))) (da_nil))) (blkOk_by (own := [("k", 7)]) (N := N_law) (sc := defScope s_law) (by decide +kernel)) (by decide) (fun _ _ _ _ _ => dg_name (i := 7) sc_law.nd) (fun _ _ _ _ _ => dts_nil) (fun _ _ _ _ _ => de_and (de_cmp (op_eqD (hu64 hr)) rd_eq (de_call c_arches_number hr (by decide) passNo (da_cons (de_ix (de_var 3) (de_var 7)) (da_nil))) (de_var 7) (nomark _)) (de_one (de_cmp (op_eqD (hu64 hr)) rd_eq (de_call c_arches_at hr (by decide) passNo (da_cons (de_var 2) (da_cons (de_var 7) (da_nil)))) (de_ix (de_var 3) (de_var 7)) (nomark _)))))) (da_nil))))) (dss_one (ds_ret (de_bl))) (dss_nil)) (dss_cons (ds_for hpo rfl (di_range1 tx.b_range (da_cons (de_int) (da_nil))) (dg_name (i := 4) sc_law.nd) (by decide) aName_same (dss_cons (ds_asg (i := 2) (ow' := []) sc_law.nd (de_op op_mulX rd_mulX (de_int) (de_op op_modAll rd_mod (de_callTy call_int1 rc_int tx.b_int (by decide +kernel) (da_cons (de_ix (de_var 1) (de_op op_addAll rd_add (de_int) (de_var 4))) (da_nil))) (de_int))) (by decide) (by decide)) (dss_cons (ds_asg (i := 5) (ow' := []) sc_law.nd (de_call c__law_drawn hr (by decide) (passAt tk) (da_cons (de_var 1) (da_cons (de_op op_addAll rd_add (de_int) (de_op op_mulX rd_mulX (de_int) (de_var 4))) (da_cons (de_var 2) (da_nil))))) (by decide) (by decide)) (dss_cons (ds_asg (i := 6) (ow' := []) sc_law.nd (de_call c__law_ahead hr (by decide) (passAt tk) (da_cons (de_var 5) (da_nil))) (by decide) (by decide)) (dss_cons (ds_if (DW.dt (dw_or (dt_cmp op_notN rd_notN (de_call c_arches_fault hr (by decide) (passAt tk) (da_cons (de_var 5) (da_nil))) (de_non) (nomark _)) (dw_or (dt_cmp (op_neD (hu64 hr)) rd_ne (de_call c_arches_count hr (by decide) (passAt tk) (da_cons (de_var 2) (da_nil))) (de_call c__law_ways hr (by decide) (passAt tk) (da_cons (de_var 2) (da_nil))) (nomark _)) (dw_or (dt_cmp (op_neD (hu64 hr)) rd_ne (de_call c_arches_number hr (by decide) (passAt tk) (da_cons (de_var 5) (da_nil))) (de_var 6) (nomark _)) (dw_or1 (dt_cmp (op_neD (hu64 hr)) rd_ne (de_call c_arches_at hr (by decide) (passAt tk) (da_cons (de_var 2) (da_cons (de_var 6) (da_nil)))) (de_var 5) (nomark _))))))) (dss_one (ds_ret (de_bl))) (dss_nil)) (dss_cons (ds_if (DW.dt (dw_or (dt_truth (de_isi kit_bool tx.b_isinstance tx.b_bool (by decide +kernel) (de_call c_arches_number hr (by decide) (passAt tk) (da_cons (de_var 5) (da_nil))))) (dw_or1 (dt_not (dt_chain op_le rd_cmp op_lt rd_cmp (de_int) (de_var 6) (de_call c__law_ways hr (by decide) (passAt tk) (da_cons (de_var 2) (da_nil)))))))) (dss_one (ds_ret (de_bl))) (dss_nil)) (dss_one (ds_for hpo rfl (di_range1 tx.b_range (da_cons (de_int) (da_nil))) (dg_name (i := 7) sc_law.nd) (by decide) aName_same (dss_cons (ds_asg (i := 8) (ow' := []) sc_law.nd (de_call c__law_bent hr (by decide) (passAt tk) (da_cons (de_var 5) (da_cons (de_var 1) (da_cons (de_op op_addAll rd_add (de_op op_addAll rd_add (de_int) (de_op op_mulX rd_mulX (de_int) (de_var 7))) (de_var 4)) (da_nil))))) (by decide) (by decide)) (dss_cons (ds_asg (i := 9) (ow' := []) sc_law.nd (de_call c__law_fault hr (by decide) (passAt tk) (da_cons (de_var 8) (da_nil))) (by decide) (by decide)) (dss_cons (ds_if (dt_not (dt_truth (de_call c__law_same hr (by decide) (passAt tk) (da_cons (de_call c_arches_fault hr (by decide) (passAt tk) (da_cons (de_var 8) (da_nil))) (da_cons (de_var 9) (da_nil)))))) (dss_one (ds_ret (de_bl))) (dss_nil)) (dss_cons (ds_asg (i := 10) (ow' := []) sc_law.nd (de_and (de_cmp op_isN rd_isN (de_var 9) (de_non) (nomark _)) (de_one (de_callB (cr_all rfl) rc_all tx.b_all (by decide +kernel) (da_cons (de_f (df_lc (own := [("j", 13)]) rfl sc_law.nd (di_range1 tx.b_range (da_cons (de_callB call_len rc_len tx.b_len (by decide +kernel) (da_cons (de_var 8) (da_nil))) (da_nil))) (blkOk_by (own := [("j", 13)]) (N := N_law) (sc := defScope s_law) (by decide +kernel)) (by decide) (fun _ _ _ _ _ => dg_name (i := 13) sc_law.nd) (fun _ _ _ _ _ => dts_nil) (fun _ _ _ _ _ => de_cmp (op_neD (hu64 hr)) rd_ne (de_ix (de_var 8) (de_var 13)) (de_var 13) (nomark _)))) (da_nil))))) (by decide) (by decide)) (dss_one (ds_if (DW.dt (dw_or (DW.dt (dw_and (dt_truth (de_var 10)) (dw_and1 (dt_cmp (op_neD (hu64 hr)) rd_ne (de_call c_arches_number hr (by decide) (passAt tk) (da_cons (de_var 8) (da_nil))) (de_call c__law_ahead hr (by decide) (passAt tk) (da_cons (de_var 8) (da_nil))) (nomark _))))) (dw_or1 (DW.dt (dw_and (dt_not (dt_truth (de_var 10))) (dw_and1 (dt_cmp op_notN rd_notN (de_call c_arches_number hr (by decide) (passAt tk) (da_cons (de_var 8) (da_nil))) (de_non) (nomark _)))))))) (dss_one (ds_ret (de_bl))) (dss_nil))))))))))))))) (dss_cons (ds_asg (i := 11) (ow' := []) sc_law.nd (de_f (df_lst (da_cons (de_callTy call_list_of rc_listOf tx.b_list (by decide +kernel) (da_cons (de_ix (de_var 3) (de_int)) (da_nil))) (da_cons (de_non) (da_cons (de_int) (da_cons (de_str) (da_cons (de_tup (da_cons (de_tup (da_cons (de_int) (da_nil))) (da_nil))) (da_cons (de_tupRg1 tx.b_tuple tx.b_range rfl (de_int)) (da_cons (de_dct1 (k := "a") (n := 1) (pps_cons pe_str pe_int pps_nil)) (da_nil)))))))))) (by decide) (by decide)) (dss_cons (ds_if (dt_not (dt_truth (de_callB (cr_all rfl) rc_all tx.b_all (by decide +kernel) (da_cons (de_f (df_lc (own := [("one", 12)]) rfl sc_law.nd (di_seq (de_var 11)) (blkOk_by (own := [("one", 12)]) (N := N_law) (sc := defScope s_law) (by decide +kernel)) (by decide) (fun _ _ _ _ _ => dg_name (i := 12) sc_law.nd) (fun _ _ _ _ _ => dts_nil) (fun _ _ _ _ _ => de_and (de_call c__law_same hr (by decide) passNo (da_cons (de_call c_arches_fault hr (by decide) passNo (da_cons (de_var 12) (da_nil))) (da_cons (de_tup (da_cons (de_str) (da_nil))) (da_nil)))) (de_one (de_cmp op_isN rd_isN (de_call c_arches_number hr (by decide) passNo (da_cons (de_var 12) (da_nil))) (de_non) (nomark _)))))) (da_nil))))) (dss_one (ds_ret (de_bl))) (dss_nil)) (dss_one (ds_ret (de_and (de_cmp op_isN rd_isN (de_call c_arches_fault hr (by decide) (passAt tk) (da_cons (de_tupRg1 tx.b_tuple tx.b_range rfl (de_int)) (da_nil))) (de_non) (nomark _)) (de_and (de_cmp op_isN rd_isN (de_call c_arches_fault hr (by decide) (passAt tk) (da_cons (de_tup (da_nil)) (da_nil))) (de_non) (nomark _)) (de_one (de_cmp (op_eqD (hu64 hr)) rd_eq (de_call c_arches_number hr (by decide) (passAt tk) (da_cons (de_tup (da_nil)) (da_nil))) (de_int) (nomark _))))))))))))))
end
end Lw
/-! Curves: values, arches. -/
namespace Lw
open PySem PySem.Spec PyProof.Rows L2 Dl
local macro_rules | `(tactic| simp_arith [$ls,*]) => `(tactic| simp (disch := (first | omega | assumption | (simp only [decide_eq_true_eq, decide_eq_false_iff_not, Bool.and_eq_true, Bool.or_eq_true, Bool.not_eq_true', Bool.not_eq_false', Bool.and_eq_false_iff, Bool.or_eq_false_iff, List.mem_range, List.length_map, List.length_append, List.length_cons, List.length_nil, rngC_len, rng_len, List.length_range, List.length_reverse, List.length_take, List.length_drop, List.length_set, List.length_replicate] at * <;> omega) | rfl | decide +kernel)) only [e_v0, e_vS, e_vC, e_s0, e_sS, e_op, e_op1, e_op2, e_opx, e_opx2, e_some, e_1, e_11, e_t, e_t1, e_tx, e_tr, e_tr1, e_trx, e_trb, e_trn, e_nt, e_nt1, e_ntx, e_and, e_andt, e_andf, e_andx, e_or, e_ort, e_orf, e_orx, e_va, e_vat, e_vaf, e_vax, e_vo, e_vot, e_vof, e_vox, e_vi, e_vit, e_vif, e_vix, e_vl, e_vl1, e_an, e_ac, e_ac1, e_acx, e_ac2, e_acx2, e_tu, e_tu1, e_tux, e_ls, e_ls1, e_cb, e_cb1, e_cbx, e_ca, e_ca_0, e_ca_1, e_ca_2, e_ca_3, e_ca_4, e_ca_5, e_ca_6, e_cax, e_ch, e_ch1, e_ch2, e_ch3, e_ch4, e_sl, e_sl1, e_slt, e_sll, e_slf, e_st, e_st1, e_os, e_os1, e_on, e_ga, e_ga1, e_gs, e_gst, e_gsl, e_gsf, e_ge, e_get, e_r1i, e_r2i, e_r3, e_lc, e_lc1, e_wp0, e_wp1, e_gn, e_gt, e_gl, e_gc, e_gc1, e_g0, e_seq, e_seqn, e_seqr, e_seqx, e_seqc, e_seqb, e_nop, e_brk, e_cnt, e_rai, e_asg, e_asg1, e_asgx, e_asgO, e_asgO1, e_asgT, e_asgT1, e_asgTx, e_tg, e_par, e_par1, e_par2, e_parO, e_parO1, e_drop, e_drop1, e_dropx, e_ret, e_ret1, e_retx, e_retN, e_if, e_ift, e_iff, e_ifx, e_aug, e_aug1, e_aug2, e_app, e_app1, e_ext, e_ext1, e_si, e_si1, e_si2, e_si3, e_pop, e_pop1, e_for, e_for1, e_whl, e_fl0, e_ft, e_fsn, e_fsc, e_fsb, e_fsr, e_fsx, e_wtt, e_wtf, e_wsn, e_wsc, e_wsb, e_wsr, e_wsx, e_try, e_tryn, e_tryr, e_tryc, e_try1, e_try1n, e_try1r, e_mk, e_mk2, e_mkx, e_mkx1, e_sI, e_iE, e_iF, e_iF1, e_iI, e_iIt, e_iIf, l_fld0, l_fld1, l_fld2, e_tA, e_tAn, e_tAr, e_tAx, e_hA, e_hA0, e_haT, e_haF, e_stA, e_stA1, e_rg, e_rg1, e_U, e_U1, e_run, e_endn, e_endr, e_endx, e_sta1, e_sta2, e_sta3, l_eq, l_ne, l_eqbb, l_nebb, l_lt, l_le, l_gt, l_ge, l_add, l_addt, l_addl, l_sub, l_neg, l_mod, l_fdiv, l_mul, l_mul2, l_fdivX, l_tn, l_btf, l_bft, l_btt, l_bff, l_ct, l_cf, l_iadd, l_not, l_len1, l_len2, l_len3, l_int, l_intb, l_tup1, l_tup2, l_lst1, l_lst2, l_max, l_min, l_ixt0, l_ixt1, l_ixt2, l_ixtl, l_ixl0, l_ixl1, l_ixl2, l_ixll, l_isn_bl, l_inn_bl, l_ty_int_bl, l_ty_bool_bl, l_ty_str_bl, l_ty_tuple_bl, l_ty_list_bl, l_isn_int, l_inn_int, l_ty_int_int, l_ty_bool_int, l_ty_str_int, l_ty_tuple_int, l_ty_list_int, l_isn_str, l_inn_str, l_ty_int_str, l_ty_bool_str, l_ty_str_str, l_ty_tuple_str, l_ty_list_str, l_isn_tup, l_inn_tup, l_ty_int_tup, l_ty_bool_tup, l_ty_str_tup, l_ty_tuple_tup, l_ty_list_tup, l_isn_lst, l_inn_lst, l_ty_int_lst, l_ty_bool_lst, l_ty_str_lst, l_ty_tuple_lst, l_ty_list_lst, l_isn_non, l_inn_non, l_ty_int_non, l_ty_bool_non, l_ty_str_non, l_ty_tuple_non, l_ty_list_non, d_t, d_f, Bool.not_true, Bool.not_false, List.length_map, List.length_append, List.length_cons, List.length_nil, List.nil_append, List.cons_append, if_true, if_false, Bool.false_eq_true, ite_true, ite_false, List.map_cons, List.map_nil, beq_self_eq_true, reduceIte, Bool.true_and, Bool.and_true, Bool.false_and, Bool.and_false, Int.reduceAdd, Int.reduceSub, Int.reduceMul, Int.reduceNeg, Int.reduceMod, Int.reduceDiv, Int.reduceToNat, Nat.reduceAdd, Nat.reduceMul, Nat.reduceSub, Bool.or_true, Bool.true_or, Bool.or_false, Bool.false_or, Int.cast_ofNat_Int, decide_true, decide_false, y_t, y_f, y_same, y_and, y_or, y_va, y_vo, y_vi, y_ch, y_if, y_ii, e_c3, e_c31, e_c32, e_c33, e_me, e_me1, e_me_0, e_me_1, e_me_2, e_me_3, e_me_4, e_pOO, e_pOO1, e_pOO2, e_p3, e_p31, e_p32, e_p33, l_isB, l_isnB, m_bl, m_D, m_I, m_oD, m_rt, c_1, c_2, c_3, c_4, c_5, c_6, s_op, s_op2, s_v1, s_tst, s_tru, s_nt, s_and, s_or, s_va, s_vo, s_vi, s_vl, s_cons, s_cons2, s_tup, s_lst, s_cb, s_ca, s_ch, s_ch2, s_ch3, s_sl, s_sl2, s_sl3, s_os, s_ga, s_gs, s_ge, s_lc, s_seq, s_asg, s_asgO, s_asgT, s_par, s_par2, s_parO, s_drop, s_ret, s_if, s_aug, s_aug2, s_app, s_ext, s_for, s_fs, s_try, s_try1, s_tA, s_c3, s_c32, s_end, s_ofO, s_mk2, s_mv, s_ifld, s_iif, e_m2, e_m2t, e_m2l, o_k, o_t, o_n, s_noE, lc_nil, lc_c1, lc_rngF, lc_map, lc_filN, mapR_ok, filR_ok, lc_cons, lc_rng, allP, anyP, appR_ok, andO_ok, orO_ok, all_0, any_0, lc_app, all_c, any_c, all_a, any_a, l_eqs, l_nes, l_eqt, lit_t, lit_f, notO_ok, in_ti, in_ts, in_li, in_ls, in_t0, in_l0, in_t0s, in_l0s, in_neg, in_tm, in_lm, k_ati, k_atl, k_negi, k_negl, cut_to', cut_off', cut_mid', cut_lst, cut_ofn, cut_ton, cut_map, k_sum, k_suml, all_tr, any_fl, map_tk, map_dr, map_ap, map_rv, not_any, not_all, l_mulX, l_mulX2, l_rep, l_repX, l_repL, l_repLX, e_fcb, e_fcb1, e_fop, e_fop1, e_fop2, e_fr, e_fr1, e_fsl, e_fsl1, e_p2O, e_p2O1, e_p3O, e_p3O1, e_p3O2, e_p3O3, e_geA, e_geA1, e_geA2, e_pO3, e_pO31, e_pO32, e_pO33, csT, csF, lc_consN, e_p2O2, seqF_l, seqF_t, seqF_f, mulF_1, addF_l, sort_int, sort_intT, e_s2, e_s21, e_s22, e_s23, e_s24, e_s25, e_sp, e_sp1, e_sp2, ixN_p, ixN_n, l_abs, e_Ub, e_Us, map_st, map_iN, cp_n, cp_c, cp_r, eq_ints, eq_intsl, ne_ints, ne_intsl, List.drop_succ_cons, List.drop_zero, List.drop_nil, List.take_succ_cons, List.take_zero, List.take_nil, Bool.not_not, Bool.decide_eq_true, decide_eq_true_eq, Bool.not_eq_true, $ls,*])
local macro_rules | `(tactic| simp_all_arith [$ls,*]) => `(tactic| simp (disch := (first | omega | (simp only [List.length_map, List.length_append, List.length_cons, List.length_nil, rngC_len, rng_len, List.length_range, List.length_reverse, List.length_take, List.length_drop, List.length_set, List.length_replicate] at * <;> omega) | rfl)) only [e_v0, e_vS, e_vC, e_s0, e_sS, e_op, e_op1, e_op2, e_opx, e_opx2, e_some, e_1, e_11, e_t, e_t1, e_tx, e_tr, e_tr1, e_trx, e_trb, e_trn, e_nt, e_nt1, e_ntx, e_and, e_andt, e_andf, e_andx, e_or, e_ort, e_orf, e_orx, e_va, e_vat, e_vaf, e_vax, e_vo, e_vot, e_vof, e_vox, e_vi, e_vit, e_vif, e_vix, e_vl, e_vl1, e_an, e_ac, e_ac1, e_acx, e_ac2, e_acx2, e_tu, e_tu1, e_tux, e_ls, e_ls1, e_cb, e_cb1, e_cbx, e_ca, e_ca_0, e_ca_1, e_ca_2, e_ca_3, e_ca_4, e_ca_5, e_ca_6, e_cax, e_ch, e_ch1, e_ch2, e_ch3, e_ch4, e_sl, e_sl1, e_slt, e_sll, e_slf, e_st, e_st1, e_os, e_os1, e_on, e_ga, e_ga1, e_gs, e_gst, e_gsl, e_gsf, e_ge, e_get, e_r1i, e_r2i, e_r3, e_lc, e_lc1, e_wp0, e_wp1, e_gn, e_gt, e_gl, e_gc, e_gc1, e_g0, e_seq, e_seqn, e_seqr, e_seqx, e_seqc, e_seqb, e_nop, e_brk, e_cnt, e_rai, e_asg, e_asg1, e_asgx, e_asgO, e_asgO1, e_asgT, e_asgT1, e_asgTx, e_tg, e_par, e_par1, e_par2, e_parO, e_parO1, e_drop, e_drop1, e_dropx, e_ret, e_ret1, e_retx, e_retN, e_if, e_ift, e_iff, e_ifx, e_aug, e_aug1, e_aug2, e_app, e_app1, e_ext, e_ext1, e_si, e_si1, e_si2, e_si3, e_pop, e_pop1, e_for, e_for1, e_whl, e_fl0, e_ft, e_fsn, e_fsc, e_fsb, e_fsr, e_fsx, e_wtt, e_wtf, e_wsn, e_wsc, e_wsb, e_wsr, e_wsx, e_try, e_tryn, e_tryr, e_tryc, e_try1, e_try1n, e_try1r, e_mk, e_mk2, e_mkx, e_mkx1, e_sI, e_iE, e_iF, e_iF1, e_iI, e_iIt, e_iIf, l_fld0, l_fld1, l_fld2, e_tA, e_tAn, e_tAr, e_tAx, e_hA, e_hA0, e_haT, e_haF, e_stA, e_stA1, e_rg, e_rg1, e_U, e_U1, e_run, e_endn, e_endr, e_endx, e_sta1, e_sta2, e_sta3, l_eq, l_ne, l_eqbb, l_nebb, l_lt, l_le, l_gt, l_ge, l_add, l_addt, l_addl, l_sub, l_neg, l_mod, l_fdiv, l_mul, l_mul2, l_fdivX, l_tn, l_btf, l_bft, l_btt, l_bff, l_ct, l_cf, l_iadd, l_not, l_len1, l_len2, l_len3, l_int, l_intb, l_tup1, l_tup2, l_lst1, l_lst2, l_max, l_min, l_ixt0, l_ixt1, l_ixt2, l_ixtl, l_ixl0, l_ixl1, l_ixl2, l_ixll, l_isn_bl, l_inn_bl, l_ty_int_bl, l_ty_bool_bl, l_ty_str_bl, l_ty_tuple_bl, l_ty_list_bl, l_isn_int, l_inn_int, l_ty_int_int, l_ty_bool_int, l_ty_str_int, l_ty_tuple_int, l_ty_list_int, l_isn_str, l_inn_str, l_ty_int_str, l_ty_bool_str, l_ty_str_str, l_ty_tuple_str, l_ty_list_str, l_isn_tup, l_inn_tup, l_ty_int_tup, l_ty_bool_tup, l_ty_str_tup, l_ty_tuple_tup, l_ty_list_tup, l_isn_lst, l_inn_lst, l_ty_int_lst, l_ty_bool_lst, l_ty_str_lst, l_ty_tuple_lst, l_ty_list_lst, l_isn_non, l_inn_non, l_ty_int_non, l_ty_bool_non, l_ty_str_non, l_ty_tuple_non, l_ty_list_non, d_t, d_f, Bool.not_true, Bool.not_false, List.length_map, List.length_append, List.length_cons, List.length_nil, List.nil_append, List.cons_append, if_true, if_false, Bool.false_eq_true, ite_true, ite_false, List.map_cons, List.map_nil, beq_self_eq_true, reduceIte, Bool.true_and, Bool.and_true, Bool.false_and, Bool.and_false, Int.reduceAdd, Int.reduceSub, Int.reduceMul, Int.reduceNeg, Int.reduceMod, Int.reduceDiv, Int.reduceToNat, Nat.reduceAdd, Nat.reduceMul, Nat.reduceSub, Bool.or_true, Bool.true_or, Bool.or_false, Bool.false_or, Int.cast_ofNat_Int, decide_true, decide_false, $ls,*])
def simD : Dat → Bool
  | .obj _ _ => false
  | .frz _ => false
  | .dct _ _ => false
  | .rng _ _ _ => false
  | _ => true
def isW (a b : Int) : Dat → Bool
  | .int v => decide (a ≤ v) && decide (v ≤ b)
  | _ => false
theorem whole_any (a b : Int) {d : Dat} (h : simD d = true) : D_is_whole [d, .int a, .int b] = .ok (.bl (isW a b d)) := by
  cases d with
  | int v => by_cases h : a ≤ v <;> by_cases h2 : v ≤ b <;> simp_all_arith [D_is_whole, F_is_whole, isW]
  | obj c l => cases h
  | frz l => cases h
  | dct _ _ => cases h
  | rng _ _ _ => cases h
  | _ => simp_all_arith [D_is_whole, F_is_whole, isW]
theorem whole_int (v a b : Int) : D_is_whole [.int v, .int a, .int b] = .ok (.bl (isW a b (.int v))) := whole_any a b rfl
theorem isW_int {a b v : Int} (h : a ≤ v) (h2 : v ≤ b) : isW a b (.int v) = true := by
  show (decide (a ≤ v) && decide (v ≤ b)) = true
  rw [decide_eq_true h, decide_eq_true h2]
  rfl
theorem isW_no {a b v : Int} (h : v < a ∨ b < v) : isW a b (.int v) = false := by
  show (decide (a ≤ v) && decide (v ≤ b)) = false
  rcases h with h | h
  · rw [decide_eq_false (by omega)]; rfl
  · rw [decide_eq_false (show ¬ v ≤ b by omega), Bool.and_false]
theorem at_int {l : List Int} {k : Int} {i : Nat} (e : k = i) (h : i < l.length) : ixD (.tup (l.map .int)) (.int k) = some (.int (l.getD i 0)) := by
  show atI (l.map Dat.int) k = _
  unfold atI ixN
  rw [e, if_pos (by omega), if_pos (by rw [List.length_map]; omega), Int.toNat_natCast]
  show (l.map Dat.int)[i]? = _
  rw [List.getElem?_map, List.getElem?_eq_getElem h, List.getD_eq_getElem?_getD, List.getElem?_eq_getElem h]
  rfl
theorem eqv_in : ∀ S : List Int, eqvDs (S.map .int) (S.map .int) = true
  | [] => rfl
  | x :: S => by
    show (decide (x = x) && eqvDs (S.map .int) (S.map .int)) = true
    rw [eqv_in S, d_t rfl]
    rfl
theorem shp_in {n : Nat} (S : List Int) : (S.map Dat.int).all (shp (n + 1)) = true := by
  refine List.all_eq_true.mpr fun d hd => ?_
  obtain ⟨x, _, rfl⟩ := List.mem_map.mp hd
  rfl
def numI (n : Nat) : List Int := (List.range n).map fun (k : Nat) => (k : Int)
theorem rng_num (n : Nat) : rng 0 n = (numI n).map .int := by
  unfold rng numI
  rw [List.map_map]
  apply List.map_congr_left
  intro k _
  show Dat.int (0 + (k : Int)) = Dat.int k
  rw [Int.zero_add]
def natI (st : List Nat) : List Int := st.map fun (k : Nat) => (k : Int)
def stD (st : List Nat) : Dat := .tup ((natI st).map .int)
theorem natI_len (st : List Nat) : (natI st).length = st.length := by unfold natI; rw [List.length_map]
theorem eqv_int : ∀ l m : List Int, eqvDs (l.map .int) (m.map .int) = decide (l = m) := eqvs_int
theorem natI_inj {s t : List Nat} (h : natI s = natI t) : s = t := by
  have := congrArg (List.map Int.toNat) h
  unfold natI at this
  rw [List.map_map, List.map_map] at this
  have e : (Int.toNat ∘ fun (k : Nat) => (k : Int)) = id := funext fun k => Int.toNat_natCast k
  rw [e, List.map_id, List.map_id] at this
  exact this
theorem at_last {q : List Int} {z : Int} : ixD (.tup ((q ++ [z]).map .int)) (.int (-1)) = some (.int z) := by
  show atI ((q ++ [z]).map Dat.int) (-1) = _
  unfold atI ixN
  rw [if_neg (by decide), if_pos (by rw [List.length_map, List.length_append]; show -((q.length + 1 : Nat) : Int) ≤ -1; omega)]
  show ((q ++ [z]).map Dat.int)[((-1 : Int) + (((q ++ [z]).map Dat.int).length : Nat)).toNat]? = _
  rw [List.length_map, List.length_append, show ((-1 : Int) + ((q.length + [z].length : Nat) : Int)).toNat = q.length by show ((-1 : Int) + ((q.length + 1 : Nat) : Int)).toNat = _; omega, List.map_append, List.getElem?_append_right (by rw [List.length_map]; exact Nat.le_refl _), List.length_map, Nat.sub_self]
  rfl
structure Arch (n : Nat) (A : List Nat) : Prop where
  len : A.length = n
  rng : ∀ p, p < n → A.getD p 0 < n
  inv : ∀ p, p < n → A.getD (A.getD p 0) 0 = p
  non : ∀ p q, p < n → p < q → q < A.getD p 0 → A.getD q 0 ≤ A.getD p 0
section
variable {n : Nat} {A B : List Nat}
theorem numF_len : ∀ (l : List Dat) (k : Nat), (numF k l).length = l.length
  | [], _ => rfl
  | _ :: l, k => congrArg (· + 1) (numF_len l (k + 1))
theorem num_get {A : List Nat} {k : Nat} {d : Dat} (h : (numF 0 ((natI A).map Dat.int))[k]? = some d) : k < A.length ∧ d = .tup [.int (k : Nat), .int (A.getD k 0 : Nat)] := by
  rw [numF_get, List.getElem?_map] at h
  unfold natI at h
  rw [List.getElem?_map] at h
  obtain ⟨d', hd, rfl⟩ := Option.map_eq_some_iff.mp h
  obtain ⟨i', hi', rfl⟩ := Option.map_eq_some_iff.mp hd
  obtain ⟨v, hv, rfl⟩ := Option.map_eq_some_iff.mp hi'
  obtain ⟨kl, hv2⟩ := List.getElem?_eq_some_iff.mp hv
  refine ⟨kl, ?_⟩
  rw [List.getD_eq_getElem?_getD, hv, Nat.zero_add]
  rfl
theorem at_st {A : List Nat} {j : Nat} {k : Int} (e : k = j) (h : j < A.length) : ixD (.tup ((natI A).map .int)) (.int k) = some (.int (A.getD j 0 : Nat)) := by
  have := at_int (l := natI A) (k := k) (i := j) e (by rw [natI_len]; exact h)
  rw [this]
  unfold natI
  rw [List.getD_eq_getElem?_getD, List.getElem?_map, List.getElem?_eq_getElem h, List.getD_eq_getElem?_getD, List.getElem?_eq_getElem h]
  rfl
theorem isx_t {l : List Dat} : isxD "tuple" (.tup l) = some (.bl true) := rfl
theorem no_fault (R : Arch n A) (hn : n ≤ 20) : D_arches_fault [stD A] = .ok .non := by
  have hl := R.len
  have ln : lenD [.tup ((natI A).map .int)] = some (.int (n : Nat)) := by show some (Dat.int (((natI A).map Dat.int).length : Nat)) = _; rw [List.length_map, natI_len, hl]
  have hN : (natI A).length = n := by rw [natI_len, hl]
  have w : ((natI A).all fun a => isW 0 ((n : Int) - 1) (Dat.int a)) = true := List.all_eq_true.mpr fun x hx => by
    obtain ⟨k, hk, rfl⟩ := List.mem_map.mp hx
    obtain ⟨p, hp, e⟩ := List.mem_iff_getElem.mp hk
    have := R.rng p (by omega)
    rw [List.getD_eq_getElem?_getD, List.getElem?_eq_getElem hp, e] at this
    have this : k < n := this
    exact isW_int (by omega) (by omega)
  unfold stD
  simp_arith [D_arches_fault, F_arches_fault, isx_t, ln, whole_int, w, num_from]
  generalize hF : forL _ _ _ _ = rr
  obtain ⟨x, y, rfl, -⟩ := fk2 1 2 (fun _ _ _ => True) hF (fun _ _ _ => trivial) fun k d x y hk _ => by
    obtain ⟨hk, rfl⟩ := num_get hk
    have a1 := at_st (A := A) (j := A.getD k 0) (k := (A.getD k 0 : Nat)) rfl (by rw [hl]; exact R.rng k (by omega))
    rw [R.inv k (by omega)] at a1
    exact ⟨_, rfl, _, _, .inl (by simp_arith [a1]; rfl), trivial⟩
  simp_arith [num_from]
  generalize hG : forL _ _ _ _ = rg
  obtain ⟨x, y, z, rfl, -⟩ := fk3 1 2 3 (fun _ _ _ _ => True) hG (fun _ _ _ _ => trivial) fun k d x y z hk _ => by
    obtain ⟨hk, rfl⟩ := num_get hk
    have rg := R.rng k (by omega)
    have no := R.non k
    generalize A.getD k 0 = v at *
    have hr : ((v : Int) - ((k : Int) + 1)).toNat = v - (k + 1) := by omega
    refine ⟨_, rfl, ?_⟩
    simp_arith [hr]
    generalize hH : forL _ _ _ _ = rh
    obtain ⟨w, rfl, -⟩ := fk1 3 (fun _ _ => True) hH (fun _ _ => trivial) fun q d x hq _ => by
      obtain ⟨hq, rfl⟩ := rng_get hq
      have a1 := at_st (A := A) (j := k + 1 + q) (k := (k : Int) + 1 + (q : Int)) (by omega) (by omega)
      have := no (k + 1 + q) (by omega) (by omega) (by omega)
      generalize A.getD (k + 1 + q) 0 = u at *
      exact ⟨_, rfl, _, .inl (by simp_arith [a1]; rfl), trivial⟩
    exact ⟨_, _, _, .inl rfl, trivial⟩
  simp_arith [Dl.y_t]
end
end Lw
/-! Arches: trees of arches, their numbers. -/
namespace Lw
inductive Tr where
  | nil
  | node (a b : Tr)
def sz : Tr → Nat
  | .nil => 0
  | .node a b => sz a + sz b + 1
def wl : List Nat := [1, 1, 2, 5, 14, 42, 132, 429, 1430, 4862, 16796]
def wy (h : Nat) : Nat := wl.getD h 0
def off (h i : Nat) : Nat := ((List.range i).map fun f => wy f * wy (h - 1 - f)).sum
def num : Tr → Nat
  | .nil => 0
  | .node a b => off (sz a + sz b + 1) (sz a) + num a * wy (sz b) + num b
theorem off_succ (h i : Nat) : off h (i + 1) = off h i + wy i * wy (h - 1 - i) := by
  unfold off
  rw [List.range_succ, List.map_append, List.sum_append]
  simp
theorem off_0 (h : Nat) : off h 0 = 0 := rfl
theorem off_full : ∀ h, h ≤ 10 → 1 ≤ h → off h h = wy h := by decide
theorem wy_pos : ∀ h, h ≤ 10 → 0 < wy h := by decide
theorem off_mono (h : Nat) : ∀ d i, off h i ≤ off h (i + d)
  | 0, i => Nat.le_refl _
  | d + 1, i => by
    have := off_mono h d i
    have e := off_succ h (i + d)
    rw [show i + (d + 1) = i + d + 1 by omega]
    omega
theorem mul_lt {a b x y : Nat} (ha : a < x) (hb : b < y) : a * y + b < x * y := by
  have h1 : (a + 1) * y ≤ x * y := Nat.mul_le_mul_right y ha
  have h2 : (a + 1) * y = a * y + y := by rw [Nat.add_mul, Nat.one_mul]
  omega
theorem num_lt : ∀ t, sz t ≤ 10 → num t < wy (sz t)
  | .nil, _ => by decide
  | .node a b, h => by
    have h : sz a + sz b + 1 ≤ 10 := h
    have ia := num_lt a (by omega)
    have ib := num_lt b (by omega)
    have m := mul_lt ia ib
    have e := off_succ (sz a + sz b + 1) (sz a)
    have f := off_full (sz a + sz b + 1) h (by omega)
    have g := off_mono (sz a + sz b + 1) (sz b) (sz a + 1)
    rw [show sz a + sz b + 1 - 1 - sz a = sz b by omega] at e
    rw [show sz a + 1 + sz b = sz a + sz b + 1 by omega] at g
    show off (sz a + sz b + 1) (sz a) + num a * wy (sz b) + num b < wy (sz a + sz b + 1)
    omega
theorem find_off (h k : Nat) : ∀ m, k < off h m → ∃ i, i < m ∧ off h i ≤ k ∧ k < off h (i + 1)
  | 0, hk => by rw [off_0] at hk; omega
  | m + 1, hk => by
    by_cases c : k < off h m
    · obtain ⟨i, a, b⟩ := find_off h k m c
      exact ⟨i, by omega, b⟩
    · exact ⟨m, by omega, by omega, hk⟩
theorem num_all : ∀ n h, h ≤ n → h ≤ 10 → ∀ k, k < wy h → ∃ t, sz t = h ∧ num t = k
  | _, 0, _, _, k, hk => ⟨.nil, rfl, by
    have : wy 0 = 1 := rfl
    show 0 = k
    omega⟩
  | n + 1, h + 1, hn, h10, k, hk => by
    rw [← off_full (h + 1) h10 (by omega)] at hk
    obtain ⟨i, hi, l1, l2⟩ := find_off (h + 1) k (h + 1) hk
    have e := off_succ (h + 1) i
    rw [show h + 1 - 1 - i = h - i by omega] at e
    have pj := wy_pos (h - i) (by omega)
    have lt : k - off (h + 1) i < wy i * wy (h - i) := by omega
    obtain ⟨a, sa, na⟩ := num_all n i (by omega) (by omega) ((k - off (h + 1) i) / wy (h - i)) ((Nat.div_lt_iff_lt_mul pj).mpr lt)
    obtain ⟨b, sb, nb⟩ := num_all n (h - i) (by omega) (by omega) ((k - off (h + 1) i) % wy (h - i)) (Nat.mod_lt _ pj)
    refine ⟨.node a b, by show sz a + sz b + 1 = h + 1; omega, ?_⟩
    show off (sz a + sz b + 1) (sz a) + num a * wy (sz b) + num b = k
    rw [sa, sb, na, nb, show i + (h - i) + 1 = h + 1 by omega]
    have d := Nat.div_add_mod (k - off (h + 1) i) (wy (h - i))
    rw [Nat.mul_comm] at d
    omega
/-- the arches of a tree, from the point f on -/
def al : Nat → Tr → List Nat
  | _, .nil => []
  | f, .node a b => (f + 2 * sz a + 1) :: al (f + 1) a ++ f :: al (f + 2 * sz a + 2) b
def prs : Nat → Tr → List (Nat × Nat)
  | _, .nil => []
  | f, .node a b => (f, f + 2 * sz a + 1) :: prs (f + 1) a ++ prs (f + 2 * sz a + 2) b
theorem al_len : ∀ t f, (al f t).length = 2 * sz t
  | .nil, _ => rfl
  | .node a b, f => by
    show ((f + 2 * sz a + 1) :: al (f + 1) a ++ f :: al (f + 2 * sz a + 2) b).length = 2 * (sz a + sz b + 1)
    rw [List.length_append, List.length_cons, List.length_cons, al_len a, al_len b]
    omega
theorem al_shift : ∀ t f c, al (f + c) t = (al f t).map (· + c)
  | .nil, _, _ => rfl
  | .node a b, f, c => by
    show (f + c + 2 * sz a + 1) :: al (f + c + 1) a ++ (f + c) :: al (f + c + 2 * sz a + 2) b = ((f + 2 * sz a + 1) :: al (f + 1) a ++ f :: al (f + 2 * sz a + 2) b).map (· + c)
    rw [List.map_append, List.map_cons, List.map_cons, ← al_shift a, ← al_shift b, show f + c + 2 * sz a + 1 = f + 2 * sz a + 1 + c by omega, show f + c + 1 = f + 1 + c by omega, show f + c + 2 * sz a + 2 = f + 2 * sz a + 2 + c by omega]
def putP (l : List Nat) (p : Nat × Nat) : List Nat := (l.set p.1 p.2).set p.2 p.1
theorem put_prs : ∀ t f (pre mid post : List Nat), pre.length = f → mid.length = 2 * sz t → (prs f t).foldl putP (pre ++ mid ++ post) = pre ++ al f t ++ post
  | .nil, f, pre, mid, post, _, hm => by
    have : mid = [] := List.length_eq_zero_iff.mp hm
    rw [this]
    rfl
  | .node a b, f, pre, mid, post, hp, hm => by
    have hm : mid.length = 2 * (sz a + sz b + 1) := hm
    obtain ⟨x, m1, rfl⟩ : ∃ x m1, mid = x :: m1 := by
      cases mid with
      | nil => simp at hm
      | cons x m1 => exact ⟨x, m1, rfl⟩
    have hm : m1.length + 1 = 2 * (sz a + sz b + 1) := hm
    obtain ⟨ma, y, mb, rfl, la⟩ : ∃ ma y mb, m1 = ma ++ y :: mb ∧ ma.length = 2 * sz a := by
      refine ⟨m1.take (2 * sz a), m1[2 * sz a]'(by omega), m1.drop (2 * sz a + 1), ?_, by rw [List.length_take]; omega⟩
      rw [← List.drop_eq_getElem_cons, List.take_append_drop]
    rw [List.length_append, List.length_cons] at hm
    have lb : mb.length = 2 * sz b := by omega
    show ((f, f + 2 * sz a + 1) :: (prs (f + 1) a ++ prs (f + 2 * sz a + 2) b)).foldl putP _ = _
    rw [List.foldl_cons, List.foldl_append]
    have e0 : putP (pre ++ x :: (ma ++ y :: mb) ++ post) (f, f + 2 * sz a + 1) = pre ++ [f + 2 * sz a + 1] ++ ma ++ (f :: mb ++ post) := by
      unfold putP
      show ((pre ++ x :: (ma ++ y :: mb) ++ post).set f (f + 2 * sz a + 1)).set (f + 2 * sz a + 1) f = _
      rw [List.append_assoc, List.set_append_right _ _ (by omega), hp, Nat.sub_self]
      show (pre ++ (f + 2 * sz a + 1) :: ((ma ++ y :: mb) ++ post)).set (f + 2 * sz a + 1) f = _
      rw [List.set_append_right _ _ (by omega), hp, show f + 2 * sz a + 1 - f = 2 * sz a + 1 by omega]
      show pre ++ (f + 2 * sz a + 1) :: ((ma ++ y :: mb) ++ post).set (2 * sz a) f = _
      rw [List.append_assoc, List.set_append_right _ _ (by omega), la, Nat.sub_self]
      show pre ++ (f + 2 * sz a + 1) :: (ma ++ (f :: mb ++ post)) = _
      simp
    rw [e0, put_prs a (f + 1) (pre ++ [f + 2 * sz a + 1]) ma (f :: mb ++ post) (by rw [List.length_append, hp]; rfl) la]
    have e1 : pre ++ [f + 2 * sz a + 1] ++ al (f + 1) a ++ (f :: mb ++ post) = (pre ++ [f + 2 * sz a + 1] ++ al (f + 1) a ++ [f]) ++ mb ++ post := by simp
    rw [e1, put_prs b (f + 2 * sz a + 2) _ mb post (by rw [List.length_append, List.length_append, List.length_append, al_len, hp]; show f + 1 + 2 * sz a + 1 = _; omega) lb]
    show _ = pre ++ ((f + 2 * sz a + 1) :: al (f + 1) a ++ f :: al (f + 2 * sz a + 2) b) ++ post
    simp
def Seg (v : List Nat) (f : Nat) (t : Tr) : Prop := (v.drop f).take (2 * sz t) = al f t
theorem take_drop_add (v : List Nat) (f x y : Nat) : (v.drop f).take (x + y) = (v.drop f).take x ++ (v.drop (f + x)).take y := by
  rw [List.take_add, List.drop_drop]
theorem drop_get {v : List Nat} {f : Nat} (h : f < v.length) (y : Nat) : (v.drop f).take (y + 1) = v.getD f 0 :: (v.drop (f + 1)).take y := by
  rw [List.drop_eq_getElem_cons h, List.take_succ_cons, List.getD_eq_getElem?_getD, List.getElem?_eq_getElem h]
  rfl
theorem seg_len {v : List Nat} {f : Nat} {t : Tr} (s : Seg v f t) (h : 1 ≤ sz t) : f + 2 * sz t ≤ v.length := by
  have := congrArg List.length s
  rw [al_len, List.length_take, List.length_drop] at this
  omega
theorem seg_node {v : List Nat} {f : Nat} {a b : Tr} (s : Seg v f (.node a b)) : v.getD f 0 = f + 2 * sz a + 1 ∧ Seg v (f + 1) a ∧ Seg v (f + 2 * sz a + 2) b := by
  have hl := seg_len s (by show 1 ≤ sz a + sz b + 1; omega)
  have hl : f + 2 * (sz a + sz b + 1) ≤ v.length := hl
  have s : (v.drop f).take (2 * (sz a + sz b + 1)) = (f + 2 * sz a + 1) :: al (f + 1) a ++ f :: al (f + 2 * sz a + 2) b := s
  rw [show 2 * (sz a + sz b + 1) = (2 * sz a + (2 * sz b + 1)) + 1 by omega, drop_get (by omega), take_drop_add, drop_get (by omega)] at s
  have s : v.getD f 0 :: ((v.drop (f + 1)).take (2 * sz a) ++ v.getD (f + 1 + 2 * sz a) 0 :: (v.drop (f + 1 + 2 * sz a + 1)).take (2 * sz b)) = (f + 2 * sz a + 1) :: (al (f + 1) a ++ f :: al (f + 2 * sz a + 2) b) := s
  have c := List.cons.inj s
  have d := List.append_inj c.2 (by rw [List.length_take, List.length_drop, al_len]; omega)
  have e := List.cons.inj d.2
  refine ⟨c.1, d.1, ?_⟩
  have e2 := e.2
  rw [show f + 1 + 2 * sz a + 1 = f + 2 * sz a + 2 by omega] at e2
  exact e2
structure GoodA (v : List Nat) : Prop where
  lt : ∀ k, k < v.length → v.getD k 0 < v.length
  inv : ∀ k, k < v.length → v.getD (v.getD k 0) 0 = k
  ne : ∀ k, k < v.length → v.getD k 0 ≠ k
  nc : ∀ k j, k < j → j < v.getD k 0 → k < v.length → v.getD j 0 ≤ v.getD k 0
theorem tree_of {v : List Nat} (G : GoodA v) : ∀ d lo, lo + d ≤ v.length → (∀ k, lo ≤ k → k < lo + d → lo ≤ v.getD k 0 ∧ v.getD k 0 < lo + d) → ∃ t, d = 2 * sz t ∧ Seg v lo t := by
  intro d
  induction d using Nat.strongRecOn with
  | _ d ih =>
    intro lo hl cl
    by_cases z : d = 0
    · subst z
      exact ⟨.nil, rfl, rfl⟩
    · have c0 := cl lo (Nat.le_refl _) (by omega)
      have n0 := G.ne lo (by omega)
      have i0 := G.inv lo (by omega)
      generalize ho : v.getD lo 0 = o at *
      have inj : ∀ k, k < v.length → k ≠ lo → k ≠ o → v.getD k 0 ≠ lo ∧ v.getD k 0 ≠ o := fun k hk h1 h2 => by
        have := G.inv k hk
        refine ⟨fun e => ?_, fun e => ?_⟩
        · rw [e, ho] at this; exact h2 this.symm
        · rw [e, i0] at this; exact h1 this.symm
      obtain ⟨a, da, sa⟩ := ih (o - lo - 1) (by omega) (lo + 1) (by omega) fun k h1 h2 => by
        have c := cl k (by omega) (by omega)
        have j := inj k (by omega) (by omega) (by omega)
        have := G.nc lo k (by omega) (by omega) (by omega)
        omega
      obtain ⟨b, db, sb⟩ := ih (lo + d - o - 1) (by omega) (o + 1) (by omega) fun k h1 h2 => by
        have c := cl k (by omega) (by omega)
        have j := inj k (by omega) (by omega) (by omega)
        refine ⟨?_, by omega⟩
        by_cases q : v.getD k 0 < o
        · have := G.nc lo (v.getD k 0) (by omega) (by omega) (by omega)
          rw [G.inv k (by omega)] at this
          omega
        · omega
      have sa : (v.drop (lo + 1)).take (2 * sz a) = al (lo + 1) a := sa
      have sb : (v.drop (o + 1)).take (2 * sz b) = al (o + 1) b := sb
      refine ⟨.node a b, by show d = 2 * (sz a + sz b + 1); omega, ?_⟩
      show (v.drop lo).take (2 * (sz a + sz b + 1)) = (lo + 2 * sz a + 1) :: al (lo + 1) a ++ lo :: al (lo + 2 * sz a + 2) b
      rw [show 2 * (sz a + sz b + 1) = (2 * sz a + (2 * sz b + 1)) + 1 by omega, drop_get (by omega), take_drop_add, drop_get (by omega), sa, show lo + 1 + 2 * sz a = o by omega, ho, i0, sb, show lo + 2 * sz a + 2 = o + 1 by omega, show lo + 2 * sz a + 1 = o by omega]
      rfl
theorem tree_all {v : List Nat} (G : GoodA v) : ∃ t, v.length = 2 * sz t ∧ v = al 0 t := by
  obtain ⟨t, h1, h2⟩ := tree_of G v.length 0 (by omega) fun k _ hk => ⟨Nat.zero_le _, by have := G.lt k (by omega); omega⟩
  refine ⟨t, h1, ?_⟩
  have h2 : (v.drop 0).take (2 * sz t) = al 0 t := h2
  rw [← h1, List.drop_zero, List.take_length] at h2
  exact h2
theorem seg_all (t : Tr) : Seg (al 0 t) 0 t := by
  show ((al 0 t).drop 0).take (2 * sz t) = al 0 t
  rw [List.drop_zero, ← al_len t 0, List.take_length]
end Lw
/-! Arches: counts; the number of a tree, by the program. -/
namespace Lw
open PySem PySem.Spec PyProof.Rows L2 Dl
local macro_rules | `(tactic| simp_arith [$ls,*]) => `(tactic| simp (disch := (first | omega | assumption | (simp only [decide_eq_true_eq, decide_eq_false_iff_not, Bool.and_eq_true, Bool.or_eq_true, Bool.not_eq_true', Bool.not_eq_false', Bool.and_eq_false_iff, Bool.or_eq_false_iff, List.mem_range, List.length_map, List.length_append, List.length_cons, List.length_nil, rngC_len, rng_len, List.length_range, List.length_reverse, List.length_take, List.length_drop, List.length_set, List.length_replicate] at * <;> omega) | rfl | decide +kernel)) only [e_v0, e_vS, e_vC, e_s0, e_sS, e_op, e_op1, e_op2, e_opx, e_opx2, e_some, e_1, e_11, e_t, e_t1, e_tx, e_tr, e_tr1, e_trx, e_trb, e_trn, e_nt, e_nt1, e_ntx, e_and, e_andt, e_andf, e_andx, e_or, e_ort, e_orf, e_orx, e_va, e_vat, e_vaf, e_vax, e_vo, e_vot, e_vof, e_vox, e_vi, e_vit, e_vif, e_vix, e_vl, e_vl1, e_an, e_ac, e_ac1, e_acx, e_ac2, e_acx2, e_tu, e_tu1, e_tux, e_ls, e_ls1, e_cb, e_cb1, e_cbx, e_ca, e_ca_0, e_ca_1, e_ca_2, e_ca_3, e_ca_4, e_ca_5, e_ca_6, e_cax, e_ch, e_ch1, e_ch2, e_ch3, e_ch4, e_sl, e_sl1, e_slt, e_sll, e_slf, e_st, e_st1, e_os, e_os1, e_on, e_ga, e_ga1, e_gs, e_gst, e_gsl, e_gsf, e_ge, e_get, e_r1i, e_r2i, e_r3, e_lc, e_lc1, e_wp0, e_wp1, e_gn, e_gt, e_gl, e_gc, e_gc1, e_g0, e_seq, e_seqn, e_seqr, e_seqx, e_seqc, e_seqb, e_nop, e_brk, e_cnt, e_rai, e_asg, e_asg1, e_asgx, e_asgO, e_asgO1, e_asgT, e_asgT1, e_asgTx, e_tg, e_par, e_par1, e_par2, e_parO, e_parO1, e_drop, e_drop1, e_dropx, e_ret, e_ret1, e_retx, e_retN, e_if, e_ift, e_iff, e_ifx, e_aug, e_aug1, e_aug2, e_app, e_app1, e_ext, e_ext1, e_si, e_si1, e_si2, e_si3, e_pop, e_pop1, e_for, e_for1, e_whl, e_fl0, e_ft, e_fsn, e_fsc, e_fsb, e_fsr, e_fsx, e_wtt, e_wtf, e_wsn, e_wsc, e_wsb, e_wsr, e_wsx, e_try, e_tryn, e_tryr, e_tryc, e_try1, e_try1n, e_try1r, e_mk, e_mk2, e_mkx, e_mkx1, e_sI, e_iE, e_iF, e_iF1, e_iI, e_iIt, e_iIf, l_fld0, l_fld1, l_fld2, e_tA, e_tAn, e_tAr, e_tAx, e_hA, e_hA0, e_haT, e_haF, e_stA, e_stA1, e_rg, e_rg1, e_U, e_U1, e_run, e_endn, e_endr, e_endx, e_sta1, e_sta2, e_sta3, l_eq, l_ne, l_eqbb, l_nebb, l_lt, l_le, l_gt, l_ge, l_add, l_addt, l_addl, l_sub, l_neg, l_mod, l_fdiv, l_mul, l_mul2, l_fdivX, l_tn, l_btf, l_bft, l_btt, l_bff, l_ct, l_cf, l_iadd, l_not, l_len1, l_len2, l_len3, l_int, l_intb, l_tup1, l_tup2, l_lst1, l_lst2, l_max, l_min, l_ixt0, l_ixt1, l_ixt2, l_ixtl, l_ixl0, l_ixl1, l_ixl2, l_ixll, l_isn_bl, l_inn_bl, l_ty_int_bl, l_ty_bool_bl, l_ty_str_bl, l_ty_tuple_bl, l_ty_list_bl, l_isn_int, l_inn_int, l_ty_int_int, l_ty_bool_int, l_ty_str_int, l_ty_tuple_int, l_ty_list_int, l_isn_str, l_inn_str, l_ty_int_str, l_ty_bool_str, l_ty_str_str, l_ty_tuple_str, l_ty_list_str, l_isn_tup, l_inn_tup, l_ty_int_tup, l_ty_bool_tup, l_ty_str_tup, l_ty_tuple_tup, l_ty_list_tup, l_isn_lst, l_inn_lst, l_ty_int_lst, l_ty_bool_lst, l_ty_str_lst, l_ty_tuple_lst, l_ty_list_lst, l_isn_non, l_inn_non, l_ty_int_non, l_ty_bool_non, l_ty_str_non, l_ty_tuple_non, l_ty_list_non, d_t, d_f, Bool.not_true, Bool.not_false, List.length_map, List.length_append, List.length_cons, List.length_nil, List.nil_append, List.cons_append, if_true, if_false, Bool.false_eq_true, ite_true, ite_false, List.map_cons, List.map_nil, beq_self_eq_true, reduceIte, Bool.true_and, Bool.and_true, Bool.false_and, Bool.and_false, Int.reduceAdd, Int.reduceSub, Int.reduceMul, Int.reduceNeg, Int.reduceMod, Int.reduceDiv, Int.reduceToNat, Nat.reduceAdd, Nat.reduceMul, Nat.reduceSub, Bool.or_true, Bool.true_or, Bool.or_false, Bool.false_or, Int.cast_ofNat_Int, decide_true, decide_false, y_t, y_f, y_same, y_and, y_or, y_va, y_vo, y_vi, y_ch, y_if, y_ii, e_c3, e_c31, e_c32, e_c33, e_me, e_me1, e_me_0, e_me_1, e_me_2, e_me_3, e_me_4, e_pOO, e_pOO1, e_pOO2, e_p3, e_p31, e_p32, e_p33, l_isB, l_isnB, m_bl, m_D, m_I, m_oD, m_rt, c_1, c_2, c_3, c_4, c_5, c_6, s_op, s_op2, s_v1, s_tst, s_tru, s_nt, s_and, s_or, s_va, s_vo, s_vi, s_vl, s_cons, s_cons2, s_tup, s_lst, s_cb, s_ca, s_ch, s_ch2, s_ch3, s_sl, s_sl2, s_sl3, s_os, s_ga, s_gs, s_ge, s_lc, s_seq, s_asg, s_asgO, s_asgT, s_par, s_par2, s_parO, s_drop, s_ret, s_if, s_aug, s_aug2, s_app, s_ext, s_for, s_fs, s_try, s_try1, s_tA, s_c3, s_c32, s_end, s_ofO, s_mk2, s_mv, s_ifld, s_iif, e_m2, e_m2t, e_m2l, o_k, o_t, o_n, s_noE, lc_nil, lc_c1, lc_rngF, lc_map, lc_filN, mapR_ok, filR_ok, lc_cons, lc_rng, allP, anyP, appR_ok, andO_ok, orO_ok, all_0, any_0, lc_app, all_c, any_c, all_a, any_a, l_eqs, l_nes, l_eqt, lit_t, lit_f, notO_ok, in_ti, in_ts, in_li, in_ls, in_t0, in_l0, in_t0s, in_l0s, in_neg, in_tm, in_lm, k_ati, k_atl, k_negi, k_negl, cut_to', cut_off', cut_mid', cut_lst, cut_ofn, cut_ton, cut_map, k_sum, k_suml, all_tr, any_fl, map_tk, map_dr, map_ap, map_rv, not_any, not_all, l_mulX, l_mulX2, l_rep, l_repX, l_repL, l_repLX, e_fcb, e_fcb1, e_fop, e_fop1, e_fop2, e_fr, e_fr1, e_fsl, e_fsl1, e_p2O, e_p2O1, e_p3O, e_p3O1, e_p3O2, e_p3O3, e_geA, e_geA1, e_geA2, e_pO3, e_pO31, e_pO32, e_pO33, csT, csF, lc_consN, e_p2O2, seqF_l, seqF_t, seqF_f, mulF_1, addF_l, sort_int, sort_intT, e_s2, e_s21, e_s22, e_s23, e_s24, e_s25, e_sp, e_sp1, e_sp2, ixN_p, ixN_n, l_abs, e_Ub, e_Us, map_st, map_iN, cp_n, cp_c, cp_r, eq_ints, eq_intsl, ne_ints, ne_intsl, List.drop_succ_cons, List.drop_zero, List.drop_nil, List.take_succ_cons, List.take_zero, List.take_nil, Bool.not_not, Bool.decide_eq_true, decide_eq_true_eq, Bool.not_eq_true, $ls,*])
def CT : Dat := .lst ((natI wl).map .int)
theorem cts : D__counts [] = .ok CT := by kernel_rfl
theorem ways_eq : ∀ h, h ≤ 10 → D__law_ways [.int (2 * h : Nat)] = .ok (.int (wy h : Nat))
  | 0, _ => by kernel_rfl
  | 1, _ => by kernel_rfl
  | 2, _ => by kernel_rfl
  | 3, _ => by kernel_rfl
  | 4, _ => by kernel_rfl
  | 5, _ => by kernel_rfl
  | 6, _ => by kernel_rfl
  | 7, _ => by kernel_rfl
  | 8, _ => by kernel_rfl
  | 9, _ => by kernel_rfl
  | 10, _ => by kernel_rfl
  | h + 11, q => by omega
theorem at_ct {k : Nat} {z : Int} (e : z = k) (h : k ≤ 10) : ixD CT (.int z) = some (.int (wy k : Nat)) := by
  subst e
  match k, h with
  | 0, _ => kernel_rfl
  | 1, _ => kernel_rfl
  | 2, _ => kernel_rfl
  | 3, _ => kernel_rfl
  | 4, _ => kernel_rfl
  | 5, _ => kernel_rfl
  | 6, _ => kernel_rfl
  | 7, _ => kernel_rfl
  | 8, _ => kernel_rfl
  | 9, _ => kernel_rfl
  | 10, _ => kernel_rfl
  | k + 11, q => omega
theorem wy_le (j : Nat) : wy j ≤ 16796 := by
  by_cases h : j < 11
  · have : ∀ j, j < 11 → wy j ≤ 16796 := by decide
    exact this j h
  · unfold wy
    rw [List.getD_eq_getElem?_getD, List.getElem?_eq_none (by show 11 ≤ j; omega)]
    exact Nat.zero_le _
theorem mulW (x : Int) (j : Nat) : mulXD (.int x) (.int (wy j : Nat)) = some (.int (x * (wy j : Nat))) := by
  have := wy_le j
  exact l_mulX (by omega) (by omega)
theorem off_int (h i : Nat) : ((List.range i).map fun f => ((wy f : Nat) : Int) * ((wy (h - 1 - f) : Nat) : Int)).sum = (off h i : Nat) := by
  induction i with
  | zero => rfl
  | succ i ih =>
    rw [List.range_succ, List.map_append, List.sum_append, ih, off_succ]
    simp
section
variable {v : List Nat}
theorem number_eq (hv : v.length ≤ 20) : ∀ (t : Tr) (m f : Nat), sz t < m → sz t ≤ 10 → Seg v f t → R__number m [.tup ((natI v).map .int), .int f, .int (f + 2 * sz t : Nat), CT] = .ok (.int (num t : Nat))
  | .nil, 0, f, h, _, _ => absurd h (Nat.not_lt_zero _)
  | .nil, m + 1, f, _, _, _ => by
    have e : f + 2 * sz .nil = f := rfl
    rw [e]
    simp_arith [R__number, F__number]
    rfl
  | .node a b, 0, f, h, _, _ => absurd h (Nat.not_lt_zero _)
  | .node a b, m + 1, f, hm, h10, s => by
    obtain ⟨g0, sa, sb⟩ := seg_node s
    have hl := seg_len s (by show 1 ≤ sz a + sz b + 1; omega)
    have hm : sz a + sz b + 1 < m + 1 := hm
    have h10 : sz a + sz b + 1 ≤ 10 := h10
    have hl : f + 2 * (sz a + sz b + 1) ≤ v.length := hl
    have ia := number_eq hv a m (f + 1) (by omega) (by omega) sa
    have ib := number_eq hv b m (f + 2 * sz a + 2) (by omega) (by omega) sb
    have a0 := at_st (A := v) (j := f) (k := (f : Nat)) rfl (by omega)
    rw [g0] at a0
    have e1 : (((f + 2 * sz a + 1 : Nat) : Int) - (f : Int) - 1) / 2 = (sz a : Nat) := by omega
    have e2 : (((f + 2 * sz (.node a b) : Nat) : Int) - ((f + 2 * sz a + 1 : Nat) : Int) - 1) / 2 = (sz b : Nat) := by
      show (((f + 2 * (sz a + sz b + 1) : Nat) : Int) - ((f + 2 * sz a + 1 : Nat) : Int) - 1) / 2 = _
      omega
    have ne : ¬ (f : Int) = ((f + 2 * sz (.node a b) : Nat) : Int) := by
      show ¬ (f : Int) = ((f + 2 * (sz a + sz b + 1) : Nat) : Int)
      omega
    have c1 : ∀ k ∈ List.range (sz a), ixD CT (.int ((0 : Int) + (k : Nat))) = some (.int (wy k : Nat)) := fun k hk => by
      have := List.mem_range.mp hk
      exact at_ct (by omega) (by omega)
    have c2 : ∀ k ∈ List.range (sz a), ixD CT (.int ((sz a : Int) + (sz b : Int) - ((0 : Int) + (k : Nat)))) = some (.int (wy (sz a + sz b - k) : Nat)) := fun k hk => by
      have := List.mem_range.mp hk
      exact at_ct (by omega) (by omega)
    have c3 := at_ct (k := sz b) (z := (sz b : Nat)) rfl (by omega)
    rw [show ((f + 1 : Nat) : Int) = (f : Int) + 1 by omega, show f + 1 + 2 * sz a = f + 2 * sz a + 1 by omega] at ia
    rw [show ((f + 2 * sz a + 2 : Nat) : Int) = ((f + 2 * sz a + 1 : Nat) : Int) + 1 by omega, show f + 2 * sz a + 2 + 2 * sz b = f + 2 * sz (.node a b) by show _ = f + 2 * (sz a + sz b + 1); omega] at ib
    generalize hC : CT = C at *
    generalize hV : (natI v).map Dat.int = V at *
    generalize hE : f + 2 * sz (.node a b) = E at *
    generalize hO : f + 2 * sz a + 1 = o at *
    have sa20 : sz a ≤ 10 := by omega
    have mw := mulW
    have of : ((List.range (sz a)).map fun f => ((wy f : Nat) : Int) * ((wy (sz a + sz b - f) : Nat) : Int)).sum = (off (sz a + sz b + 1) (sz a) : Nat) := off_int (sz a + sz b + 1) (sz a)
    simp_arith [R__number, F__number, ne, a0, e1, e2, c1, c2, c3, ia, ib, mw, of]
    have z : num (.node a b) = off (sz a + sz b + 1) (sz a) + num a * wy (sz b) + num b := rfl
    rw [z, Int.natCast_add, Int.natCast_add, Int.natCast_mul]
end
end Lw
/-! Arches: those ahead, by the law. -/
namespace Lw
open PySem PySem.Spec PyProof.Rows L2 Dl
local macro_rules | `(tactic| simp_arith [$ls,*]) => `(tactic| simp (disch := (first | omega | assumption | (simp only [decide_eq_true_eq, decide_eq_false_iff_not, Bool.and_eq_true, Bool.or_eq_true, Bool.not_eq_true', Bool.not_eq_false', Bool.and_eq_false_iff, Bool.or_eq_false_iff, List.mem_range, List.length_map, List.length_append, List.length_cons, List.length_nil, rngC_len, rng_len, List.length_range, List.length_reverse, List.length_take, List.length_drop, List.length_set, List.length_replicate] at * <;> omega) | rfl | decide +kernel)) only [e_v0, e_vS, e_vC, e_s0, e_sS, e_op, e_op1, e_op2, e_opx, e_opx2, e_some, e_1, e_11, e_t, e_t1, e_tx, e_tr, e_tr1, e_trx, e_trb, e_trn, e_nt, e_nt1, e_ntx, e_and, e_andt, e_andf, e_andx, e_or, e_ort, e_orf, e_orx, e_va, e_vat, e_vaf, e_vax, e_vo, e_vot, e_vof, e_vox, e_vi, e_vit, e_vif, e_vix, e_vl, e_vl1, e_an, e_ac, e_ac1, e_acx, e_ac2, e_acx2, e_tu, e_tu1, e_tux, e_ls, e_ls1, e_cb, e_cb1, e_cbx, e_ca, e_ca_0, e_ca_1, e_ca_2, e_ca_3, e_ca_4, e_ca_5, e_ca_6, e_cax, e_ch, e_ch1, e_ch2, e_ch3, e_ch4, e_sl, e_sl1, e_slt, e_sll, e_slf, e_st, e_st1, e_os, e_os1, e_on, e_ga, e_ga1, e_gs, e_gst, e_gsl, e_gsf, e_ge, e_get, e_r1i, e_r2i, e_r3, e_lc, e_lc1, e_wp0, e_wp1, e_gn, e_gt, e_gl, e_gc, e_gc1, e_g0, e_seq, e_seqn, e_seqr, e_seqx, e_seqc, e_seqb, e_nop, e_brk, e_cnt, e_rai, e_asg, e_asg1, e_asgx, e_asgO, e_asgO1, e_asgT, e_asgT1, e_asgTx, e_tg, e_par, e_par1, e_par2, e_parO, e_parO1, e_drop, e_drop1, e_dropx, e_ret, e_ret1, e_retx, e_retN, e_if, e_ift, e_iff, e_ifx, e_aug, e_aug1, e_aug2, e_app, e_app1, e_ext, e_ext1, e_si, e_si1, e_si2, e_si3, e_pop, e_pop1, e_for, e_for1, e_whl, e_fl0, e_ft, e_fsn, e_fsc, e_fsb, e_fsr, e_fsx, e_wtt, e_wtf, e_wsn, e_wsc, e_wsb, e_wsr, e_wsx, e_try, e_tryn, e_tryr, e_tryc, e_try1, e_try1n, e_try1r, e_mk, e_mk2, e_mkx, e_mkx1, e_sI, e_iE, e_iF, e_iF1, e_iI, e_iIt, e_iIf, l_fld0, l_fld1, l_fld2, e_tA, e_tAn, e_tAr, e_tAx, e_hA, e_hA0, e_haT, e_haF, e_stA, e_stA1, e_rg, e_rg1, e_U, e_U1, e_run, e_endn, e_endr, e_endx, e_sta1, e_sta2, e_sta3, l_eq, l_ne, l_eqbb, l_nebb, l_lt, l_le, l_gt, l_ge, l_add, l_addt, l_addl, l_sub, l_neg, l_mod, l_fdiv, l_mul, l_mul2, l_fdivX, l_tn, l_btf, l_bft, l_btt, l_bff, l_ct, l_cf, l_iadd, l_not, l_len1, l_len2, l_len3, l_int, l_intb, l_tup1, l_tup2, l_lst1, l_lst2, l_max, l_min, l_ixt0, l_ixt1, l_ixt2, l_ixtl, l_ixl0, l_ixl1, l_ixl2, l_ixll, l_isn_bl, l_inn_bl, l_ty_int_bl, l_ty_bool_bl, l_ty_str_bl, l_ty_tuple_bl, l_ty_list_bl, l_isn_int, l_inn_int, l_ty_int_int, l_ty_bool_int, l_ty_str_int, l_ty_tuple_int, l_ty_list_int, l_isn_str, l_inn_str, l_ty_int_str, l_ty_bool_str, l_ty_str_str, l_ty_tuple_str, l_ty_list_str, l_isn_tup, l_inn_tup, l_ty_int_tup, l_ty_bool_tup, l_ty_str_tup, l_ty_tuple_tup, l_ty_list_tup, l_isn_lst, l_inn_lst, l_ty_int_lst, l_ty_bool_lst, l_ty_str_lst, l_ty_tuple_lst, l_ty_list_lst, l_isn_non, l_inn_non, l_ty_int_non, l_ty_bool_non, l_ty_str_non, l_ty_tuple_non, l_ty_list_non, d_t, d_f, Bool.not_true, Bool.not_false, List.length_map, List.length_append, List.length_cons, List.length_nil, List.nil_append, List.cons_append, if_true, if_false, Bool.false_eq_true, ite_true, ite_false, List.map_cons, List.map_nil, beq_self_eq_true, reduceIte, Bool.true_and, Bool.and_true, Bool.false_and, Bool.and_false, Int.reduceAdd, Int.reduceSub, Int.reduceMul, Int.reduceNeg, Int.reduceMod, Int.reduceDiv, Int.reduceToNat, Nat.reduceAdd, Nat.reduceMul, Nat.reduceSub, Bool.or_true, Bool.true_or, Bool.or_false, Bool.false_or, Int.cast_ofNat_Int, decide_true, decide_false, y_t, y_f, y_same, y_and, y_or, y_va, y_vo, y_vi, y_ch, y_if, y_ii, e_c3, e_c31, e_c32, e_c33, e_me, e_me1, e_me_0, e_me_1, e_me_2, e_me_3, e_me_4, e_pOO, e_pOO1, e_pOO2, e_p3, e_p31, e_p32, e_p33, l_isB, l_isnB, m_bl, m_D, m_I, m_oD, m_rt, c_1, c_2, c_3, c_4, c_5, c_6, s_op, s_op2, s_v1, s_tst, s_tru, s_nt, s_and, s_or, s_va, s_vo, s_vi, s_vl, s_cons, s_cons2, s_tup, s_lst, s_cb, s_ca, s_ch, s_ch2, s_ch3, s_sl, s_sl2, s_sl3, s_os, s_ga, s_gs, s_ge, s_lc, s_seq, s_asg, s_asgO, s_asgT, s_par, s_par2, s_parO, s_drop, s_ret, s_if, s_aug, s_aug2, s_app, s_ext, s_for, s_fs, s_try, s_try1, s_tA, s_c3, s_c32, s_end, s_ofO, s_mk2, s_mv, s_ifld, s_iif, e_m2, e_m2t, e_m2l, o_k, o_t, o_n, s_noE, lc_nil, lc_c1, lc_rngF, lc_map, lc_filN, mapR_ok, filR_ok, lc_cons, lc_rng, allP, anyP, appR_ok, andO_ok, orO_ok, all_0, any_0, lc_app, all_c, any_c, all_a, any_a, l_eqs, l_nes, l_eqt, lit_t, lit_f, notO_ok, in_ti, in_ts, in_li, in_ls, in_t0, in_l0, in_t0s, in_l0s, in_neg, in_tm, in_lm, k_ati, k_atl, k_negi, k_negl, cut_to', cut_off', cut_mid', cut_lst, cut_ofn, cut_ton, cut_map, k_sum, k_suml, all_tr, any_fl, map_tk, map_dr, map_ap, map_rv, not_any, not_all, l_mulX, l_mulX2, l_rep, l_repX, l_repL, l_repLX, e_fcb, e_fcb1, e_fop, e_fop1, e_fop2, e_fr, e_fr1, e_fsl, e_fsl1, e_p2O, e_p2O1, e_p3O, e_p3O1, e_p3O2, e_p3O3, e_geA, e_geA1, e_geA2, e_pO3, e_pO31, e_pO32, e_pO33, csT, csF, lc_consN, e_p2O2, seqF_l, seqF_t, seqF_f, mulF_1, addF_l, sort_int, sort_intT, e_s2, e_s21, e_s22, e_s23, e_s24, e_s25, e_sp, e_sp1, e_sp2, ixN_p, ixN_n, l_abs, e_Ub, e_Us, map_st, map_iN, cp_n, cp_c, cp_r, eq_ints, eq_intsl, ne_ints, ne_intsl, List.drop_succ_cons, List.drop_zero, List.drop_nil, List.take_succ_cons, List.take_zero, List.take_nil, Bool.not_not, Bool.decide_eq_true, decide_eq_true_eq, Bool.not_eq_true, $ls,*])
theorem r3 {lo hi : Nat} (h : hi ≤ 1000) (h2 : lo ≤ 1) : range3D [.int (lo : Nat), .int (hi : Nat), .int 2] = .ok (rngC (lo : Nat) 2 ((hi + 1 - lo) / 2)) := by
  rw [e_r3 (by decide) (by decide) (by omega) (by omega) (by omega) (by omega)]
  congr 2
  split <;> omega
section
theorem natI_cons (a : Nat) (l : List Nat) : natI (a :: l) = (a : Int) :: natI l := rfl
theorem natI_app (l m : List Nat) : natI (l ++ m) = natI l ++ natI m := List.map_append
theorem al_sub (t : Tr) (c : Nat) : (natI (al c t)).map (fun x => Dat.int (x - (c : Nat))) = (natI (al 0 t)).map .int := by
  have := al_shift t 0 c
  rw [Nat.zero_add] at this
  rw [this]
  unfold natI
  rw [List.map_map, List.map_map, List.map_map]
  refine List.map_congr_left fun x _ => ?_
  show Dat.int (((x + c : Nat) : Int) - (c : Nat)) = Dat.int (x : Nat)
  congr 1
  omega
theorem ahead_eq : ∀ (t : Tr) (m : Nat), sz t < m → sz t ≤ 10 → R__law_ahead m [.tup ((natI (al 0 t)).map .int)] = .ok (.int (num t : Nat))
  | .nil, 0, h, _ => absurd h (Nat.not_lt_zero _)
  | .nil, m + 1, _, _ => by
    have e : (natI (al 0 .nil)).map Dat.int = [] := rfl
    rw [e]
    simp_arith [R__law_ahead, F__law_ahead]
    rfl
  | .node a b, 0, h, _ => absurd h (Nat.not_lt_zero _)
  | .node a b, m + 1, hm, h10 => by
    have hm : sz a + sz b + 1 < m + 1 := hm
    have h10 : sz a + sz b + 1 ≤ 10 := h10
    have ia := ahead_eq a m (by omega) (by omega)
    have ib := ahead_eq b m (by omega) (by omega)
    rw [← al_sub a 1] at ia
    rw [← al_sub b (2 * sz a + 2)] at ib
    have la : (natI (al 1 a)).length = 2 * sz a := by rw [natI_len, al_len]
    have lb : (natI (al (2 * sz a + 2) b)).length = 2 * sz b := by rw [natI_len, al_len]
    obtain ⟨o, ho⟩ : ∃ o, o = 2 * sz a + 1 := ⟨_, rfl⟩
    have eV : (natI (al 0 (.node a b))).map Dat.int = .int (o : Nat) :: ((natI (al 1 a)).map .int ++ .int (0 : Nat) :: (natI (al (2 * sz a + 2) b)).map .int) := by
      have : al 0 (.node a b) = (0 + 2 * sz a + 1) :: al (0 + 1) a ++ 0 :: al (0 + 2 * sz a + 2) b := rfl
      rw [this, List.cons_append, natI_cons, natI_app, natI_cons, List.map_cons, List.map_append, List.map_cons, ho]
      simp
    rw [eV]
    generalize natI (al 1 a) = A at *
    generalize natI (al (2 * sz a + 2) b) = B at *
    obtain ⟨V, hV⟩ : ∃ V, V = Dat.int (o : Nat) :: (A.map Dat.int ++ Dat.int (0 : Nat) :: B.map Dat.int) := ⟨_, rfl⟩
    have vl : V.length = 2 * (sz a + sz b + 1) := by rw [hV, List.length_cons, List.length_append, List.length_cons, List.length_map, List.length_map, la, lb]; omega
    have v0 : ixD (.tup V) (.int 0) = some (.int (o : Nat)) := by
      rw [hV]
      show atI _ 0 = _
      unfold atI ixN
      rw [if_pos (by omega), if_pos (by rw [List.length_cons]; omega)]
      rfl
    have ln : lenD [.tup V] = some (.int (2 * (sz a + sz b + 1) : Nat)) := by show some (Dat.int (V.length : Nat)) = _; rw [vl]
    have lA : (A.map Dat.int).length = 2 * sz a := by rw [List.length_map, la]
    have s1 : slD (.tup V) (some 1) (some (o : Nat)) = some (.tup (A.map .int)) := by
      rw [e_slt, cut_mid V (by omega) (by omega) (by omega) (by omega), hV, show ((1 : Int)).toNat = 1 from rfl, show ((o : Nat) : Int).toNat - 1 = 2 * sz a by omega]
      show some (Dat.tup ((A.map Dat.int ++ Dat.int (0 : Nat) :: B.map Dat.int).take (2 * sz a))) = _
      rw [← lA, List.take_left]
    have s2 : slD (.tup V) (some ((o : Int) + 1)) none = some (.tup (B.map .int)) := by
      rw [e_slt, cut_off V (by omega) (by omega), hV, show ((o : Int) + 1).toNat = 2 * sz a + 1 + 1 by omega]
      show some (Dat.tup ((A.map Dat.int ++ Dat.int (0 : Nat) :: B.map Dat.int).drop (2 * sz a + 1))) = _
      rw [← lA, ← List.drop_drop, List.drop_left]
      rfl
    have fB : (fun x : Int => Dat.int (x - ((2 * sz a + 2 : Nat) : Int))) = fun x => Dat.int (x - (o : Int) - 1) := funext fun x => by congr 1; omega
    rw [fB] at ib
    have ia : R__law_ahead m [.tup (A.map fun x => Dat.int (x - 1))] = .ok (.int (num a : Nat)) := ia
    have rr := r3 (lo := 1) (hi := o) (by omega) (by decide)
    rw [show ((1 : Nat) : Int) = 1 from rfl, show (o + 1 - 1) / 2 = sz a by omega] at rr
    have ne : ¬ ((2 * (sz a + sz b + 1) : Nat) : Int) = 0 := by omega
    rw [← hV]
    simp_arith [R__law_ahead, F__law_ahead, ln, ne, v0, rr, -e_slt]
    generalize hF : forL _ _ _ _ = rf
    obtain ⟨x2, x4, rfl, rfl⟩ := fk2 2 4 (fun k x _ => x = some (.int (off (sz a + sz b + 1) k : Nat))) hF (fun _ _ h => by
        simp only [e_s0, e_sS, List.cons.injEq, and_true, true_and] at h
        exact h.1) fun k d x2 x4 hk hx => by
      subst hx
      obtain ⟨hk, rfl⟩ := rngC_get hk
      have w1 := ways_eq k (by omega)
      have w2 := ways_eq (sz a + sz b - k) (by omega)
      have z1 : (1 : Int) + (k : Int) * 2 - 1 = (2 * k : Nat) := by omega
      have z2 : ((2 * (sz a + sz b + 1) : Nat) : Int) - (1 + (k : Int) * 2) - 1 = (2 * (sz a + sz b - k) : Nat) := by omega
      have mw := mulW
      refine ⟨_, rfl, _, _, .inl (by simp_arith [z1, z2, w1, w2, mw]; rfl), ?_⟩
      rw [off_succ, Int.natCast_add, Int.natCast_mul, show sz a + sz b + 1 - 1 - k = sz a + sz b - k by omega]
    rw [rngC_len]
    have mw := mulW
    have wb := ways_eq (sz b) (by omega)
    have z3 : ((2 * (sz a + sz b + 1) : Nat) : Int) - (o : Int) - 1 = (2 * sz b : Nat) := by omega
    simp_arith [s1, s2, z3, wb, mw, ia, ib, -e_slt]
    have z : num (.node a b) = off (sz a + sz b + 1) (sz a) + num a * wy (sz b) + num b := rfl
    rw [z, Int.natCast_add, Int.natCast_add, Int.natCast_mul]
end
end Lw
/-! Arches: those of a number. -/
namespace Lw
open PySem PySem.Spec PyProof.Rows L2 Dl
local macro_rules | `(tactic| simp_arith [$ls,*]) => `(tactic| simp (disch := (first | omega | assumption | (simp only [decide_eq_true_eq, decide_eq_false_iff_not, Bool.and_eq_true, Bool.or_eq_true, Bool.not_eq_true', Bool.not_eq_false', Bool.and_eq_false_iff, Bool.or_eq_false_iff, List.mem_range, List.length_map, List.length_append, List.length_cons, List.length_nil, rngC_len, rng_len, List.length_range, List.length_reverse, List.length_take, List.length_drop, List.length_set, List.length_replicate] at * <;> omega) | rfl | decide +kernel)) only [e_v0, e_vS, e_vC, e_s0, e_sS, e_op, e_op1, e_op2, e_opx, e_opx2, e_some, e_1, e_11, e_t, e_t1, e_tx, e_tr, e_tr1, e_trx, e_trb, e_trn, e_nt, e_nt1, e_ntx, e_and, e_andt, e_andf, e_andx, e_or, e_ort, e_orf, e_orx, e_va, e_vat, e_vaf, e_vax, e_vo, e_vot, e_vof, e_vox, e_vi, e_vit, e_vif, e_vix, e_vl, e_vl1, e_an, e_ac, e_ac1, e_acx, e_ac2, e_acx2, e_tu, e_tu1, e_tux, e_ls, e_ls1, e_cb, e_cb1, e_cbx, e_ca, e_ca_0, e_ca_1, e_ca_2, e_ca_3, e_ca_4, e_ca_5, e_ca_6, e_cax, e_ch, e_ch1, e_ch2, e_ch3, e_ch4, e_sl, e_sl1, e_slt, e_sll, e_slf, e_st, e_st1, e_os, e_os1, e_on, e_ga, e_ga1, e_gs, e_gst, e_gsl, e_gsf, e_ge, e_get, e_r1i, e_r2i, e_r3, e_lc, e_lc1, e_wp0, e_wp1, e_gn, e_gt, e_gl, e_gc, e_gc1, e_g0, e_seq, e_seqn, e_seqr, e_seqx, e_seqc, e_seqb, e_nop, e_brk, e_cnt, e_rai, e_asg, e_asg1, e_asgx, e_asgO, e_asgO1, e_asgT, e_asgT1, e_asgTx, e_tg, e_par, e_par1, e_par2, e_parO, e_parO1, e_drop, e_drop1, e_dropx, e_ret, e_ret1, e_retx, e_retN, e_if, e_ift, e_iff, e_ifx, e_aug, e_aug1, e_aug2, e_app, e_app1, e_ext, e_ext1, e_si, e_si1, e_si2, e_si3, e_pop, e_pop1, e_for, e_for1, e_whl, e_fl0, e_ft, e_fsn, e_fsc, e_fsb, e_fsr, e_fsx, e_wtt, e_wtf, e_wsn, e_wsc, e_wsb, e_wsr, e_wsx, e_try, e_tryn, e_tryr, e_tryc, e_try1, e_try1n, e_try1r, e_mk, e_mk2, e_mkx, e_mkx1, e_sI, e_iE, e_iF, e_iF1, e_iI, e_iIt, e_iIf, l_fld0, l_fld1, l_fld2, e_tA, e_tAn, e_tAr, e_tAx, e_hA, e_hA0, e_haT, e_haF, e_stA, e_stA1, e_rg, e_rg1, e_U, e_U1, e_run, e_endn, e_endr, e_endx, e_sta1, e_sta2, e_sta3, l_eq, l_ne, l_eqbb, l_nebb, l_lt, l_le, l_gt, l_ge, l_add, l_addt, l_addl, l_sub, l_neg, l_mod, l_fdiv, l_mul, l_mul2, l_fdivX, l_tn, l_btf, l_bft, l_btt, l_bff, l_ct, l_cf, l_iadd, l_not, l_len1, l_len2, l_len3, l_int, l_intb, l_tup1, l_tup2, l_lst1, l_lst2, l_max, l_min, l_ixt0, l_ixt1, l_ixt2, l_ixtl, l_ixl0, l_ixl1, l_ixl2, l_ixll, l_isn_bl, l_inn_bl, l_ty_int_bl, l_ty_bool_bl, l_ty_str_bl, l_ty_tuple_bl, l_ty_list_bl, l_isn_int, l_inn_int, l_ty_int_int, l_ty_bool_int, l_ty_str_int, l_ty_tuple_int, l_ty_list_int, l_isn_str, l_inn_str, l_ty_int_str, l_ty_bool_str, l_ty_str_str, l_ty_tuple_str, l_ty_list_str, l_isn_tup, l_inn_tup, l_ty_int_tup, l_ty_bool_tup, l_ty_str_tup, l_ty_tuple_tup, l_ty_list_tup, l_isn_lst, l_inn_lst, l_ty_int_lst, l_ty_bool_lst, l_ty_str_lst, l_ty_tuple_lst, l_ty_list_lst, l_isn_non, l_inn_non, l_ty_int_non, l_ty_bool_non, l_ty_str_non, l_ty_tuple_non, l_ty_list_non, d_t, d_f, Bool.not_true, Bool.not_false, List.length_map, List.length_append, List.length_cons, List.length_nil, List.nil_append, List.cons_append, if_true, if_false, Bool.false_eq_true, ite_true, ite_false, List.map_cons, List.map_nil, beq_self_eq_true, reduceIte, Bool.true_and, Bool.and_true, Bool.false_and, Bool.and_false, Int.reduceAdd, Int.reduceSub, Int.reduceMul, Int.reduceNeg, Int.reduceMod, Int.reduceDiv, Int.reduceToNat, Nat.reduceAdd, Nat.reduceMul, Nat.reduceSub, Bool.or_true, Bool.true_or, Bool.or_false, Bool.false_or, Int.cast_ofNat_Int, decide_true, decide_false, y_t, y_f, y_same, y_and, y_or, y_va, y_vo, y_vi, y_ch, y_if, y_ii, e_c3, e_c31, e_c32, e_c33, e_me, e_me1, e_me_0, e_me_1, e_me_2, e_me_3, e_me_4, e_pOO, e_pOO1, e_pOO2, e_p3, e_p31, e_p32, e_p33, l_isB, l_isnB, m_bl, m_D, m_I, m_oD, m_rt, c_1, c_2, c_3, c_4, c_5, c_6, s_op, s_op2, s_v1, s_tst, s_tru, s_nt, s_and, s_or, s_va, s_vo, s_vi, s_vl, s_cons, s_cons2, s_tup, s_lst, s_cb, s_ca, s_ch, s_ch2, s_ch3, s_sl, s_sl2, s_sl3, s_os, s_ga, s_gs, s_ge, s_lc, s_seq, s_asg, s_asgO, s_asgT, s_par, s_par2, s_parO, s_drop, s_ret, s_if, s_aug, s_aug2, s_app, s_ext, s_for, s_fs, s_try, s_try1, s_tA, s_c3, s_c32, s_end, s_ofO, s_mk2, s_mv, s_ifld, s_iif, e_m2, e_m2t, e_m2l, o_k, o_t, o_n, s_noE, lc_nil, lc_c1, lc_rngF, lc_map, lc_filN, mapR_ok, filR_ok, lc_cons, lc_rng, allP, anyP, appR_ok, andO_ok, orO_ok, all_0, any_0, lc_app, all_c, any_c, all_a, any_a, l_eqs, l_nes, l_eqt, lit_t, lit_f, notO_ok, in_ti, in_ts, in_li, in_ls, in_t0, in_l0, in_t0s, in_l0s, in_neg, in_tm, in_lm, k_ati, k_atl, k_negi, k_negl, cut_to', cut_off', cut_mid', cut_lst, cut_ofn, cut_ton, cut_map, k_sum, k_suml, all_tr, any_fl, map_tk, map_dr, map_ap, map_rv, not_any, not_all, l_mulX, l_mulX2, l_rep, l_repX, l_repL, l_repLX, e_fcb, e_fcb1, e_fop, e_fop1, e_fop2, e_fr, e_fr1, e_fsl, e_fsl1, e_p2O, e_p2O1, e_p3O, e_p3O1, e_p3O2, e_p3O3, e_geA, e_geA1, e_geA2, e_pO3, e_pO31, e_pO32, e_pO33, csT, csF, lc_consN, e_p2O2, seqF_l, seqF_t, seqF_f, mulF_1, addF_l, sort_int, sort_intT, e_s2, e_s21, e_s22, e_s23, e_s24, e_s25, e_sp, e_sp1, e_sp2, ixN_p, ixN_n, l_abs, e_Ub, e_Us, map_st, map_iN, cp_n, cp_c, cp_r, eq_ints, eq_intsl, ne_ints, ne_intsl, List.drop_succ_cons, List.drop_zero, List.drop_nil, List.take_succ_cons, List.take_zero, List.take_nil, Bool.not_not, Bool.decide_eq_true, decide_eq_true_eq, Bool.not_eq_true, $ls,*])
theorem whileL_bk {t : DEnv → Res Bool} {F : DEnv → DFlow} {Q : DEnv → Prop} (P : Nat → DEnv → Prop) : ∀ (e : Nat) {ρ : DEnv} (k0 : Nat), P k0 ρ → (∀ k ρ, k0 ≤ k → k < k0 + e → P k ρ → t ρ = .ok true ∧ ∃ ρ', (F ρ = .nx ρ' ∨ F ρ = .ct ρ') ∧ P (k + 1) ρ') → (∀ ρ, P (k0 + e) ρ → t ρ = .ok true ∧ ∃ ρ', F ρ = .bk ρ' ∧ Q ρ') → ∀ n, e < n → ∃ ρ', whileL t F n ρ = .nx ρ' ∧ Q ρ'
  | 0, ρ, k0, h0, hs, he, n + 1, _ => by
    obtain ⟨h1, ρ', h2, h3⟩ := he ρ h0
    refine ⟨ρ', ?_, h3⟩
    rw [u_whl, h1]
    show wsK t F n (F ρ) = _
    rw [h2]
    rfl
  | e + 1, ρ, k0, h0, hs, he, n + 1, hn => by
    obtain ⟨ht, ρ', hf, hp⟩ := hs k0 ρ (Nat.le_refl _) (by omega) h0
    obtain ⟨r, h1, h2⟩ := whileL_bk P e (k0 + 1) hp (fun k ρ a b c => hs k ρ (by omega) (by omega) c) (fun ρ c => he ρ (by rw [show k0 + (e + 1) = k0 + 1 + e by omega]; exact c)) n (by omega)
    refine ⟨r, ?_, h2⟩
    rw [u_whl, ht]
    show wsK t F n (F ρ) = _
    rcases hf with hf | hf <;> rw [hf] <;> exact h1
theorem wbk {t : DEnv → Res Bool} {F : DEnv → DFlow} {n : Nat} {ρ : DEnv} {r : DFlow} (hW : whileL t F n ρ = r) (P : Nat → DEnv → Prop) (Q : DEnv → Prop) (e : Nat) (h0 : P 0 ρ) (hn : e < n) (hs : ∀ k ρ, k < e → P k ρ → t ρ = .ok true ∧ ∃ ρ', (F ρ = .nx ρ' ∨ F ρ = .ct ρ') ∧ P (k + 1) ρ') (he : ∀ ρ, P e ρ → t ρ = .ok true ∧ ∃ ρ', F ρ = .bk ρ' ∧ Q ρ') : ∃ ρ', r = .nx ρ' ∧ Q ρ' := by
  subst hW
  exact whileL_bk P e 0 h0 (fun k ρ _ h => hs k ρ (by omega)) (fun ρ h => he ρ (by rw [Nat.zero_add] at h; exact h)) n hn
def pD (p : Nat × Nat) : Dat := .tup [.int (p.1 : Nat), .int (p.2 : Nat)]
theorem prs_len : ∀ t f, (prs f t).length = sz t
  | .nil, _ => rfl
  | .node a b, f => by
    show ((f, f + 2 * sz a + 1) :: prs (f + 1) a ++ prs (f + 2 * sz a + 2) b).length = sz a + sz b + 1
    rw [List.length_append, List.length_cons, prs_len a, prs_len b]
    omega
theorem made_eq : ∀ (t : Tr) (m f : Nat), sz t < m → sz t ≤ 10 → R__made m [.int (2 * sz t : Nat), .int (num t : Nat), .int f, CT] = .ok (.lst ((prs f t).map pD))
  | .nil, 0, f, h, _ => absurd h (Nat.not_lt_zero _)
  | .nil, m + 1, f, _, _ => by
    have e : ((2 * sz .nil : Nat) : Int) = 0 := rfl
    rw [e]
    simp_arith [R__made, F__made]
    rfl
  | .node a b, 0, f, h, _ => absurd h (Nat.not_lt_zero _)
  | .node a b, m + 1, f, hm, h10 => by
    have hm : sz a + sz b + 1 < m + 1 := hm
    have h10 : sz a + sz b + 1 ≤ 10 := h10
    have ia := made_eq a m (f + 1) (by omega) (by omega)
    have ib := made_eq b m (f + 2 * sz a + 2) (by omega) (by omega)
    have na := num_lt a (by omega)
    have nb := num_lt b (by omega)
    have ml := mul_lt na nb
    have z : num (.node a b) = off (sz a + sz b + 1) (sz a) + num a * wy (sz b) + num b := rfl
    have zs : sz (.node a b) = sz a + sz b + 1 := rfl
    have ne : ¬ ((2 * (sz a + sz b + 1) : Nat) : Int) = 0 := by omega
    have mw := mulW
    rw [zs]
    obtain ⟨N, hN⟩ : ∃ N, N = num (.node a b) := ⟨_, rfl⟩
    rw [← hN]
    simp_arith [R__made, F__made, ne]
    generalize hW : whileL _ _ _ _ = rw'
    have w16 := wy_le
    obtain ⟨ρ, rfl, x6, rfl⟩ := wbk hW (fun i ρ => ∃ x5 x6, ρ = [some (.int (2 * (sz a + sz b + 1) : Nat)), some (.int (N - off (sz a + sz b + 1) i : Nat)), some (.int f), some CT, some (.int (i : Nat)), x5, x6, none, none])
      (fun ρ => ∃ x6, ρ = [some (.int (2 * (sz a + sz b + 1) : Nat)), some (.int (num a * wy (sz b) + num b : Nat)), some (.int f), some CT, some (.int (sz a : Nat)), some (.int (sz b : Nat)), x6, none, none]) (sz a) ⟨none, none, by rw [off_0]; rfl⟩ (by omega)
      (fun i ρ hi ⟨x5, x6, hρ⟩ => by
        subst hρ
        have e1 : ((2 * (sz a + sz b + 1) : Nat) : Int) / 2 - 1 - (i : Int) = (sz a + sz b - i : Nat) := by omega
        have c1 := at_ct (k := i) (z := (i : Nat)) rfl (by omega)
        have c2 := at_ct (k := sz a + sz b - i) (z := (sz a + sz b - i : Nat)) rfl (by omega)
        have os := off_succ (sz a + sz b + 1) i
        rw [show sz a + sz b + 1 - 1 - i = sz a + sz b - i by omega] at os
        have om := off_mono (sz a + sz b + 1) (sz a - (i + 1)) (i + 1)
        rw [show i + 1 + (sz a - (i + 1)) = sz a by omega] at om
        have lt : ¬ ((N - off (sz a + sz b + 1) i : Nat) : Int) < ((wy i : Nat) : Int) * ((wy (sz a + sz b - i) : Nat) : Int) := by
          rw [← Int.natCast_mul]
          omega
        have nx : ((N - off (sz a + sz b + 1) i : Nat) : Int) - ((wy i : Nat) : Int) * ((wy (sz a + sz b - i) : Nat) : Int) = (N - off (sz a + sz b + 1) (i + 1) : Nat) := by
          rw [← Int.natCast_mul]
          omega
        generalize CT = C at *
        refine ⟨by simp_arith [Dl.y_t], _, .inl (by simp_arith [e1, c1, c2, mw, lt]; rfl), some (.int (sz a + sz b - i : Nat)), some (.int (((wy i : Nat) : Int) * ((wy (sz a + sz b - i) : Nat) : Int))), ?_⟩
        rw [nx]
        rfl)
      (fun ρ ⟨x5, x6, hρ⟩ => by
        subst hρ
        have e1 : ((2 * (sz a + sz b + 1) : Nat) : Int) / 2 - 1 - (sz a : Int) = (sz b : Nat) := by omega
        have c1 := at_ct (k := sz a) (z := (sz a : Nat)) rfl (by omega)
        have c2 := at_ct (k := sz b) (z := (sz b : Nat)) rfl (by omega)
        have eN : N - off (sz a + sz b + 1) (sz a) = num a * wy (sz b) + num b := by omega
        rw [eN]
        have lt : ((num a * wy (sz b) + num b : Nat) : Int) < ((wy (sz a) : Nat) : Int) * ((wy (sz b) : Nat) : Int) := by
          rw [← Int.natCast_mul]
          omega
        generalize CT = C at *
        exact ⟨by simp_arith [Dl.y_t], _, by simp_arith [e1, c1, c2, mw, lt]; rfl, _, rfl⟩)
    have pw := wy_pos (sz b) (by omega)
    have w16b := wy_le (sz b)
    have dv : ((num a * wy (sz b) + num b : Nat) : Int) / ((wy (sz b) : Nat) : Int) = (num a : Nat) := by
      rw [← Int.natCast_ediv]
      congr 1
      rw [Nat.add_comm, Nat.add_mul_div_right _ _ pw, Nat.div_eq_of_lt nb, Nat.zero_add]
    have mo : ((num a * wy (sz b) + num b : Nat) : Int) % ((wy (sz b) : Nat) : Int) = (num b : Nat) := by
      rw [← Int.natCast_emod]
      congr 1
      rw [Nat.add_comm, Nat.add_mul_mod_self_right, Nat.mod_eq_of_lt nb]
    have c2 := at_ct (k := sz b) (z := (sz b : Nat)) rfl (by omega)
    rw [show ((2 * sz a : Nat) : Int) = 2 * (sz a : Int) by omega, show ((f + 1 : Nat) : Int) = (f : Int) + 1 by omega] at ia
    rw [show ((2 * sz b : Nat) : Int) = 2 * (sz b : Int) by omega, show ((f + 2 * sz a + 2 : Nat) : Int) = (f : Int) + 2 * (sz a : Int) + 1 + 1 by omega] at ib
    have la := prs_len a (f + 1)
    have lb := prs_len b (f + 2 * sz a + 2)
    have lla : ((prs (f + 1) a).map pD).length ≤ 10 := by rw [List.length_map, la]; omega
    have llb : ((prs (f + 2 * sz a + 2) b).map pD).length ≤ 10 := by rw [List.length_map, lb]; omega
    have e : (prs f (.node a b)).map pD = [Dat.tup [.int (f : Nat), .int ((f : Int) + 2 * (sz a : Int) + 1)]] ++ (prs (f + 1) a).map pD ++ (prs (f + 2 * sz a + 2) b).map pD := by
      have : prs f (.node a b) = (f, f + 2 * sz a + 1) :: prs (f + 1) a ++ prs (f + 2 * sz a + 2) b := rfl
      rw [this, List.map_append, List.map_cons]
      have : pD (f, f + 2 * sz a + 1) = Dat.tup [.int (f : Nat), .int ((f : Int) + 2 * (sz a : Int) + 1)] := by
        show Dat.tup [.int (f : Nat), .int ((f + 2 * sz a + 1 : Nat) : Int)] = _
        congr 4
      rw [this]
      rfl
    rw [e]
    generalize (prs (f + 1) a).map pD = PA at *
    generalize (prs (f + 2 * sz a + 2) b).map pD = PB at *
    generalize CT = C at *
    have dv2 : fdivXD (.int (num a * wy (sz b) + num b : Nat)) (.int (wy (sz b) : Nat)) = some (.int (num a : Nat)) := by rw [l_fdivX (by omega) (by omega), dv]
    simp_arith [c2, dv2, mo, ia, ib]
end Lw
/-! Arches: full ones, numbers and places. -/
namespace Lw
open PySem PySem.Spec PyProof.Rows L2 Dl
local macro_rules | `(tactic| simp_arith [$ls,*]) => `(tactic| simp (disch := (first | omega | assumption | (simp only [decide_eq_true_eq, decide_eq_false_iff_not, Bool.and_eq_true, Bool.or_eq_true, Bool.not_eq_true', Bool.not_eq_false', Bool.and_eq_false_iff, Bool.or_eq_false_iff, List.mem_range, List.length_map, List.length_append, List.length_cons, List.length_nil, rngC_len, rng_len, List.length_range, List.length_reverse, List.length_take, List.length_drop, List.length_set, List.length_replicate] at * <;> omega) | rfl | decide +kernel)) only [e_v0, e_vS, e_vC, e_s0, e_sS, e_op, e_op1, e_op2, e_opx, e_opx2, e_some, e_1, e_11, e_t, e_t1, e_tx, e_tr, e_tr1, e_trx, e_trb, e_trn, e_nt, e_nt1, e_ntx, e_and, e_andt, e_andf, e_andx, e_or, e_ort, e_orf, e_orx, e_va, e_vat, e_vaf, e_vax, e_vo, e_vot, e_vof, e_vox, e_vi, e_vit, e_vif, e_vix, e_vl, e_vl1, e_an, e_ac, e_ac1, e_acx, e_ac2, e_acx2, e_tu, e_tu1, e_tux, e_ls, e_ls1, e_cb, e_cb1, e_cbx, e_ca, e_ca_0, e_ca_1, e_ca_2, e_ca_3, e_ca_4, e_ca_5, e_ca_6, e_cax, e_ch, e_ch1, e_ch2, e_ch3, e_ch4, e_sl, e_sl1, e_slt, e_sll, e_slf, e_st, e_st1, e_os, e_os1, e_on, e_ga, e_ga1, e_gs, e_gst, e_gsl, e_gsf, e_ge, e_get, e_r1i, e_r2i, e_r3, e_lc, e_lc1, e_wp0, e_wp1, e_gn, e_gt, e_gl, e_gc, e_gc1, e_g0, e_seq, e_seqn, e_seqr, e_seqx, e_seqc, e_seqb, e_nop, e_brk, e_cnt, e_rai, e_asg, e_asg1, e_asgx, e_asgO, e_asgO1, e_asgT, e_asgT1, e_asgTx, e_tg, e_par, e_par1, e_par2, e_parO, e_parO1, e_drop, e_drop1, e_dropx, e_ret, e_ret1, e_retx, e_retN, e_if, e_ift, e_iff, e_ifx, e_aug, e_aug1, e_aug2, e_app, e_app1, e_ext, e_ext1, e_si, e_si1, e_si2, e_si3, e_pop, e_pop1, e_for, e_for1, e_whl, e_fl0, e_ft, e_fsn, e_fsc, e_fsb, e_fsr, e_fsx, e_wtt, e_wtf, e_wsn, e_wsc, e_wsb, e_wsr, e_wsx, e_try, e_tryn, e_tryr, e_tryc, e_try1, e_try1n, e_try1r, e_mk, e_mk2, e_mkx, e_mkx1, e_sI, e_iE, e_iF, e_iF1, e_iI, e_iIt, e_iIf, l_fld0, l_fld1, l_fld2, e_tA, e_tAn, e_tAr, e_tAx, e_hA, e_hA0, e_haT, e_haF, e_stA, e_stA1, e_rg, e_rg1, e_U, e_U1, e_run, e_endn, e_endr, e_endx, e_sta1, e_sta2, e_sta3, l_eq, l_ne, l_eqbb, l_nebb, l_lt, l_le, l_gt, l_ge, l_add, l_addt, l_addl, l_sub, l_neg, l_mod, l_fdiv, l_mul, l_mul2, l_fdivX, l_tn, l_btf, l_bft, l_btt, l_bff, l_ct, l_cf, l_iadd, l_not, l_len1, l_len2, l_len3, l_int, l_intb, l_tup1, l_tup2, l_lst1, l_lst2, l_max, l_min, l_ixt0, l_ixt1, l_ixt2, l_ixtl, l_ixl0, l_ixl1, l_ixl2, l_ixll, l_isn_bl, l_inn_bl, l_ty_int_bl, l_ty_bool_bl, l_ty_str_bl, l_ty_tuple_bl, l_ty_list_bl, l_isn_int, l_inn_int, l_ty_int_int, l_ty_bool_int, l_ty_str_int, l_ty_tuple_int, l_ty_list_int, l_isn_str, l_inn_str, l_ty_int_str, l_ty_bool_str, l_ty_str_str, l_ty_tuple_str, l_ty_list_str, l_isn_tup, l_inn_tup, l_ty_int_tup, l_ty_bool_tup, l_ty_str_tup, l_ty_tuple_tup, l_ty_list_tup, l_isn_lst, l_inn_lst, l_ty_int_lst, l_ty_bool_lst, l_ty_str_lst, l_ty_tuple_lst, l_ty_list_lst, l_isn_non, l_inn_non, l_ty_int_non, l_ty_bool_non, l_ty_str_non, l_ty_tuple_non, l_ty_list_non, d_t, d_f, Bool.not_true, Bool.not_false, List.length_map, List.length_append, List.length_cons, List.length_nil, List.nil_append, List.cons_append, if_true, if_false, Bool.false_eq_true, ite_true, ite_false, List.map_cons, List.map_nil, beq_self_eq_true, reduceIte, Bool.true_and, Bool.and_true, Bool.false_and, Bool.and_false, Int.reduceAdd, Int.reduceSub, Int.reduceMul, Int.reduceNeg, Int.reduceMod, Int.reduceDiv, Int.reduceToNat, Nat.reduceAdd, Nat.reduceMul, Nat.reduceSub, Bool.or_true, Bool.true_or, Bool.or_false, Bool.false_or, Int.cast_ofNat_Int, decide_true, decide_false, y_t, y_f, y_same, y_and, y_or, y_va, y_vo, y_vi, y_ch, y_if, y_ii, e_c3, e_c31, e_c32, e_c33, e_me, e_me1, e_me_0, e_me_1, e_me_2, e_me_3, e_me_4, e_pOO, e_pOO1, e_pOO2, e_p3, e_p31, e_p32, e_p33, l_isB, l_isnB, m_bl, m_D, m_I, m_oD, m_rt, c_1, c_2, c_3, c_4, c_5, c_6, s_op, s_op2, s_v1, s_tst, s_tru, s_nt, s_and, s_or, s_va, s_vo, s_vi, s_vl, s_cons, s_cons2, s_tup, s_lst, s_cb, s_ca, s_ch, s_ch2, s_ch3, s_sl, s_sl2, s_sl3, s_os, s_ga, s_gs, s_ge, s_lc, s_seq, s_asg, s_asgO, s_asgT, s_par, s_par2, s_parO, s_drop, s_ret, s_if, s_aug, s_aug2, s_app, s_ext, s_for, s_fs, s_try, s_try1, s_tA, s_c3, s_c32, s_end, s_ofO, s_mk2, s_mv, s_ifld, s_iif, e_m2, e_m2t, e_m2l, o_k, o_t, o_n, s_noE, lc_nil, lc_c1, lc_rngF, lc_map, lc_filN, mapR_ok, filR_ok, lc_cons, lc_rng, allP, anyP, appR_ok, andO_ok, orO_ok, all_0, any_0, lc_app, all_c, any_c, all_a, any_a, l_eqs, l_nes, l_eqt, lit_t, lit_f, notO_ok, in_ti, in_ts, in_li, in_ls, in_t0, in_l0, in_t0s, in_l0s, in_neg, in_tm, in_lm, k_ati, k_atl, k_negi, k_negl, cut_to', cut_off', cut_mid', cut_lst, cut_ofn, cut_ton, cut_map, k_sum, k_suml, all_tr, any_fl, map_tk, map_dr, map_ap, map_rv, not_any, not_all, l_mulX, l_mulX2, l_rep, l_repX, l_repL, l_repLX, e_fcb, e_fcb1, e_fop, e_fop1, e_fop2, e_fr, e_fr1, e_fsl, e_fsl1, e_p2O, e_p2O1, e_p3O, e_p3O1, e_p3O2, e_p3O3, e_geA, e_geA1, e_geA2, e_pO3, e_pO31, e_pO32, e_pO33, csT, csF, lc_consN, e_p2O2, seqF_l, seqF_t, seqF_f, mulF_1, addF_l, sort_int, sort_intT, e_s2, e_s21, e_s22, e_s23, e_s24, e_s25, e_sp, e_sp1, e_sp2, ixN_p, ixN_n, l_abs, e_Ub, e_Us, map_st, map_iN, cp_n, cp_c, cp_r, eq_ints, eq_intsl, ne_ints, ne_intsl, List.drop_succ_cons, List.drop_zero, List.drop_nil, List.take_succ_cons, List.take_zero, List.take_nil, Bool.not_not, Bool.decide_eq_true, decide_eq_true_eq, Bool.not_eq_true, $ls,*])
def Full (n : Nat) (A : List Nat) : Prop := ∀ p, p < n → A.getD p 0 ≠ p
section
variable {n : Nat}
theorem full_eq {A : List Nat} (hA : Arch n A) (fA : Full n A) (hn : n ≤ 20) : D_is_full [stD A] = .ok (.bl true) := by
  have nf := no_fault hA hn
  have nn : isND .non .non = some (.bl true) := rfl
  have an : ((List.range n).any fun (p : Nat) => decide ((p : Int) = ((A.getD p 0 : Nat) : Int))) = false := List.any_eq_false.mpr fun p hp => by
    rw [decide_eq_true_iff]
    exact fun e => fA p (List.mem_range.mp hp) (by omega)
  have nm : numF 0 ((natI A).map Dat.int) = (List.range n).map fun p => Dat.tup [.int (p : Nat), .int (A.getD p 0 : Nat)] := by
    apply List.ext_getElem?
    intro k
    rw [numF_get, List.getElem?_map]
    unfold natI
    rw [List.getElem?_map, List.getElem?_map]
    by_cases c : k < n
    · have e : A.getD k 0 = A[k]'(by rw [hA.len]; exact c) := by rw [List.getD_eq_getElem?_getD, List.getElem?_eq_getElem (by rw [hA.len]; exact c)]; rfl
      rw [List.getElem?_range c, List.getElem?_eq_getElem (by rw [hA.len]; exact c), Nat.zero_add]
      show _ = some (Dat.tup [Dat.int (k : Nat), Dat.int (A.getD k 0 : Nat)])
      rw [e]
      rfl
    · rw [List.getElem?_eq_none (l := List.range n) (by rw [List.length_range]; omega), List.getElem?_eq_none (l := A) (by rw [hA.len]; omega)]
      rfl
  have ge : geAK (.ok (stD A)) = .ok ((List.range n).map fun p => Dat.tup [.int (p : Nat), .int (A.getD p 0 : Nat)]) := by
    rw [← nm, ← num_from]
    rfl
  simp_arith [D_is_full, F_is_full, nf, nn, ge, an]
theorem set_nat {L : List Nat} {p v : Nat} : ((natI L).map Dat.int).set p (.int (v : Nat)) = (natI (L.set p v)).map .int := by
  unfold natI
  rw [List.map_set, List.map_set]
theorem putP_len (l : List Nat) (p : Nat × Nat) : (putP l p).length = l.length := by unfold putP; rw [List.length_set, List.length_set]
theorem puts_len : ∀ (ps : List (Nat × Nat)) (l : List Nat), (ps.foldl putP l).length = l.length
  | [], _ => rfl
  | p :: ps, l => by rw [List.foldl_cons, puts_len ps, putP_len]
theorem prs_lt : ∀ t f, ∀ p ∈ prs f t, p.1 < f + 2 * sz t ∧ p.2 < f + 2 * sz t
  | .nil, f, p, h => by cases h
  | .node a b, f, p, h => by
    have h : p ∈ (f, f + 2 * sz a + 1) :: prs (f + 1) a ++ prs (f + 2 * sz a + 2) b := h
    show p.1 < f + 2 * (sz a + sz b + 1) ∧ p.2 < f + 2 * (sz a + sz b + 1)
    rcases List.mem_append.mp h with h | h
    · rcases List.mem_cons.mp h with rfl | h
      · exact ⟨by show f < _; omega, by show f + 2 * sz a + 1 < _; omega⟩
      · have := prs_lt a _ p h
        omega
    · have := prs_lt b _ p h
      omega
theorem pairs_eq {ps : List (Nat × Nat)} (hn : n ≤ 20) (h : ∀ p ∈ ps, p.1 < n ∧ p.2 < n) : D__of_pairs [.int n, .lst (ps.map pD)] = .ok (stD (ps.foldl putP (List.range n))) := by
  have rn : rng 0 n = (natI (List.range n)).map .int := rng_num n
  simp_arith [D__of_pairs, F__of_pairs, rn]
  generalize hF : forL _ _ _ _ = rr
  obtain ⟨x2, x3, x4, rfl, rfl⟩ := fk3 2 3 4 (fun k x _ _ => x = some (.lst ((natI ((ps.take k).foldl putP (List.range n))).map .int))) hF (fun _ _ _ h => by
      simp only [e_s0, e_sS, List.cons.injEq, and_true, true_and] at h
      exact h.1) fun k d x2 x3 x4 hk hx => by
    subst hx
    rw [List.getElem?_map] at hk
    obtain ⟨p, hp, rfl⟩ := Option.map_eq_some_iff.mp hk
    have ⟨p1, p2⟩ := h p (List.mem_of_getElem? hp)
    have e : (ps.take (k + 1)).foldl putP (List.range n) = putP ((ps.take k).foldl putP (List.range n)) p := by
      rw [List.take_succ, hp, List.foldl_append]
      rfl
    have wl : ((natI ((ps.take k).foldl putP (List.range n))).map Dat.int).length = n := by rw [List.length_map, natI_len, puts_len, List.length_range]
    refine ⟨_, rfl, ?_⟩
    rw [e]
    unfold putP
    rw [← set_nat, ← set_nat]
    unfold putP at wl
    generalize (natI ((ps.take k).foldl (fun l p => (l.set p.1 p.2).set p.2 p.1) (List.range n))).map Dat.int = Wd at *
    exact ⟨_, _, _, .inl (by simp_arith [Dl.y_t]; rfl), rfl⟩
  rw [List.length_map, List.take_length]
  simp_arith [Dl.y_t]
  rfl
end
end Lw
/-! Arches: at a number, their number. -/
namespace Lw
open PySem PySem.Spec PyProof.Rows L2 Dl
local macro_rules | `(tactic| simp_arith [$ls,*]) => `(tactic| simp (disch := (first | omega | assumption | (simp only [decide_eq_true_eq, decide_eq_false_iff_not, Bool.and_eq_true, Bool.or_eq_true, Bool.not_eq_true', Bool.not_eq_false', Bool.and_eq_false_iff, Bool.or_eq_false_iff, List.mem_range, List.length_map, List.length_append, List.length_cons, List.length_nil, rngC_len, rng_len, List.length_range, List.length_reverse, List.length_take, List.length_drop, List.length_set, List.length_replicate] at * <;> omega) | rfl | decide +kernel)) only [e_v0, e_vS, e_vC, e_s0, e_sS, e_op, e_op1, e_op2, e_opx, e_opx2, e_some, e_1, e_11, e_t, e_t1, e_tx, e_tr, e_tr1, e_trx, e_trb, e_trn, e_nt, e_nt1, e_ntx, e_and, e_andt, e_andf, e_andx, e_or, e_ort, e_orf, e_orx, e_va, e_vat, e_vaf, e_vax, e_vo, e_vot, e_vof, e_vox, e_vi, e_vit, e_vif, e_vix, e_vl, e_vl1, e_an, e_ac, e_ac1, e_acx, e_ac2, e_acx2, e_tu, e_tu1, e_tux, e_ls, e_ls1, e_cb, e_cb1, e_cbx, e_ca, e_ca_0, e_ca_1, e_ca_2, e_ca_3, e_ca_4, e_ca_5, e_ca_6, e_cax, e_ch, e_ch1, e_ch2, e_ch3, e_ch4, e_sl, e_sl1, e_slt, e_sll, e_slf, e_st, e_st1, e_os, e_os1, e_on, e_ga, e_ga1, e_gs, e_gst, e_gsl, e_gsf, e_ge, e_get, e_r1i, e_r2i, e_r3, e_lc, e_lc1, e_wp0, e_wp1, e_gn, e_gt, e_gl, e_gc, e_gc1, e_g0, e_seq, e_seqn, e_seqr, e_seqx, e_seqc, e_seqb, e_nop, e_brk, e_cnt, e_rai, e_asg, e_asg1, e_asgx, e_asgO, e_asgO1, e_asgT, e_asgT1, e_asgTx, e_tg, e_par, e_par1, e_par2, e_parO, e_parO1, e_drop, e_drop1, e_dropx, e_ret, e_ret1, e_retx, e_retN, e_if, e_ift, e_iff, e_ifx, e_aug, e_aug1, e_aug2, e_app, e_app1, e_ext, e_ext1, e_si, e_si1, e_si2, e_si3, e_pop, e_pop1, e_for, e_for1, e_whl, e_fl0, e_ft, e_fsn, e_fsc, e_fsb, e_fsr, e_fsx, e_wtt, e_wtf, e_wsn, e_wsc, e_wsb, e_wsr, e_wsx, e_try, e_tryn, e_tryr, e_tryc, e_try1, e_try1n, e_try1r, e_mk, e_mk2, e_mkx, e_mkx1, e_sI, e_iE, e_iF, e_iF1, e_iI, e_iIt, e_iIf, l_fld0, l_fld1, l_fld2, e_tA, e_tAn, e_tAr, e_tAx, e_hA, e_hA0, e_haT, e_haF, e_stA, e_stA1, e_rg, e_rg1, e_U, e_U1, e_run, e_endn, e_endr, e_endx, e_sta1, e_sta2, e_sta3, l_eq, l_ne, l_eqbb, l_nebb, l_lt, l_le, l_gt, l_ge, l_add, l_addt, l_addl, l_sub, l_neg, l_mod, l_fdiv, l_mul, l_mul2, l_fdivX, l_tn, l_btf, l_bft, l_btt, l_bff, l_ct, l_cf, l_iadd, l_not, l_len1, l_len2, l_len3, l_int, l_intb, l_tup1, l_tup2, l_lst1, l_lst2, l_max, l_min, l_ixt0, l_ixt1, l_ixt2, l_ixtl, l_ixl0, l_ixl1, l_ixl2, l_ixll, l_isn_bl, l_inn_bl, l_ty_int_bl, l_ty_bool_bl, l_ty_str_bl, l_ty_tuple_bl, l_ty_list_bl, l_isn_int, l_inn_int, l_ty_int_int, l_ty_bool_int, l_ty_str_int, l_ty_tuple_int, l_ty_list_int, l_isn_str, l_inn_str, l_ty_int_str, l_ty_bool_str, l_ty_str_str, l_ty_tuple_str, l_ty_list_str, l_isn_tup, l_inn_tup, l_ty_int_tup, l_ty_bool_tup, l_ty_str_tup, l_ty_tuple_tup, l_ty_list_tup, l_isn_lst, l_inn_lst, l_ty_int_lst, l_ty_bool_lst, l_ty_str_lst, l_ty_tuple_lst, l_ty_list_lst, l_isn_non, l_inn_non, l_ty_int_non, l_ty_bool_non, l_ty_str_non, l_ty_tuple_non, l_ty_list_non, d_t, d_f, Bool.not_true, Bool.not_false, List.length_map, List.length_append, List.length_cons, List.length_nil, List.nil_append, List.cons_append, if_true, if_false, Bool.false_eq_true, ite_true, ite_false, List.map_cons, List.map_nil, beq_self_eq_true, reduceIte, Bool.true_and, Bool.and_true, Bool.false_and, Bool.and_false, Int.reduceAdd, Int.reduceSub, Int.reduceMul, Int.reduceNeg, Int.reduceMod, Int.reduceDiv, Int.reduceToNat, Nat.reduceAdd, Nat.reduceMul, Nat.reduceSub, Bool.or_true, Bool.true_or, Bool.or_false, Bool.false_or, Int.cast_ofNat_Int, decide_true, decide_false, y_t, y_f, y_same, y_and, y_or, y_va, y_vo, y_vi, y_ch, y_if, y_ii, e_c3, e_c31, e_c32, e_c33, e_me, e_me1, e_me_0, e_me_1, e_me_2, e_me_3, e_me_4, e_pOO, e_pOO1, e_pOO2, e_p3, e_p31, e_p32, e_p33, l_isB, l_isnB, m_bl, m_D, m_I, m_oD, m_rt, c_1, c_2, c_3, c_4, c_5, c_6, s_op, s_op2, s_v1, s_tst, s_tru, s_nt, s_and, s_or, s_va, s_vo, s_vi, s_vl, s_cons, s_cons2, s_tup, s_lst, s_cb, s_ca, s_ch, s_ch2, s_ch3, s_sl, s_sl2, s_sl3, s_os, s_ga, s_gs, s_ge, s_lc, s_seq, s_asg, s_asgO, s_asgT, s_par, s_par2, s_parO, s_drop, s_ret, s_if, s_aug, s_aug2, s_app, s_ext, s_for, s_fs, s_try, s_try1, s_tA, s_c3, s_c32, s_end, s_ofO, s_mk2, s_mv, s_ifld, s_iif, e_m2, e_m2t, e_m2l, o_k, o_t, o_n, s_noE, lc_nil, lc_c1, lc_rngF, lc_map, lc_filN, mapR_ok, filR_ok, lc_cons, lc_rng, allP, anyP, appR_ok, andO_ok, orO_ok, all_0, any_0, lc_app, all_c, any_c, all_a, any_a, l_eqs, l_nes, l_eqt, lit_t, lit_f, notO_ok, in_ti, in_ts, in_li, in_ls, in_t0, in_l0, in_t0s, in_l0s, in_neg, in_tm, in_lm, k_ati, k_atl, k_negi, k_negl, cut_to', cut_off', cut_mid', cut_lst, cut_ofn, cut_ton, cut_map, k_sum, k_suml, all_tr, any_fl, map_tk, map_dr, map_ap, map_rv, not_any, not_all, l_mulX, l_mulX2, l_rep, l_repX, l_repL, l_repLX, e_fcb, e_fcb1, e_fop, e_fop1, e_fop2, e_fr, e_fr1, e_fsl, e_fsl1, e_p2O, e_p2O1, e_p3O, e_p3O1, e_p3O2, e_p3O3, e_geA, e_geA1, e_geA2, e_pO3, e_pO31, e_pO32, e_pO33, csT, csF, lc_consN, e_p2O2, seqF_l, seqF_t, seqF_f, mulF_1, addF_l, sort_int, sort_intT, e_s2, e_s21, e_s22, e_s23, e_s24, e_s25, e_sp, e_sp1, e_sp2, ixN_p, ixN_n, l_abs, e_Ub, e_Us, map_st, map_iN, cp_n, cp_c, cp_r, eq_ints, eq_intsl, ne_ints, ne_intsl, List.drop_succ_cons, List.drop_zero, List.drop_nil, List.take_succ_cons, List.take_zero, List.take_nil, Bool.not_not, Bool.decide_eq_true, decide_eq_true_eq, Bool.not_eq_true, $ls,*])
theorem check_eq {h : Nat} (h10 : h ≤ 10) : D__check_many [.int (2 * h : Nat), .int 20] = .ok .non := by
  have w : isW 0 20 (.int (2 * h : Nat)) = true := isW_int (by omega) (by omega)
  have e : ¬ ((2 * h : Nat) : Int) % 2 = 1 := by omega
  simp_arith [D__check_many, F__check_many, whole_int, w, e]
theorem count_eq {h : Nat} (h10 : h ≤ 10) : D_arches_count [.int (2 * h : Nat)] = .ok (.int (wy h : Nat)) := by
  have ck := check_eq h10
  have e : ((2 * h : Nat) : Int) / 2 = (h : Nat) := by omega
  have c := at_ct (k := h) (z := (h : Nat)) rfl h10
  have ct := cts
  generalize CT = C at *
  simp_arith [D_arches_count, F_arches_count, ck, ct, e, c]
theorem put_all (t : Tr) : (prs 0 t).foldl putP (List.range (2 * sz t)) = al 0 t := by
  have := put_prs t 0 [] (List.range (2 * sz t)) [] rfl List.length_range
  simpa using this
theorem at_eq {t : Tr} (h10 : sz t ≤ 10) : D_arches_at [.int (2 * sz t : Nat), .int (num t : Nat)] = .ok (stD (al 0 t)) := by
  have ck := check_eq h10
  have e : ((2 * sz t : Nat) : Int) / 2 = (sz t : Nat) := by omega
  have c := at_ct (k := sz t) (z := (sz t : Nat)) rfl h10
  have ct := cts
  have nl := num_lt t h10
  have w : isW 0 (((wy (sz t) : Nat) : Int) - 1) (.int (num t : Nat)) = true := isW_int (by omega) (by omega)
  have md : D__made [.int (2 * sz t : Nat), .int (num t : Nat), .int 0, CT] = .ok (.lst ((prs 0 t).map pD)) := made_eq t 40 0 (by omega) h10
  have pe := pairs_eq (n := 2 * sz t) (ps := prs 0 t) (by omega) fun p hp => by
    have := prs_lt t 0 p hp
    rwa [Nat.zero_add] at this
  rw [put_all] at pe
  generalize CT = C at *
  generalize (prs 0 t).map pD = P at *
  simp_arith [D_arches_at, F_arches_at, ck, ct, e, c, whole_int, w, md, pe]
theorem ahead40 {t : Tr} (h10 : sz t ≤ 10) : D__law_ahead [stD (al 0 t)] = .ok (.int (num t : Nat)) := ahead_eq t 40 (by omega) h10
section
variable {n : Nat} {A : List Nat}
theorem arch_tree (hA : Arch n A) (fA : Full n A) : ∃ t, n = 2 * sz t ∧ A = al 0 t := by
  have hl := hA.len
  obtain ⟨t, h1, h2⟩ := tree_all (v := A) ⟨fun k hk => by rw [hl] at hk ⊢; exact hA.rng k hk, fun k hk => hA.inv k (by omega), fun k hk => fA k (by omega), fun k j a b c => hA.non k j (by omega) a b⟩
  exact ⟨t, by omega, h2⟩
theorem numbered (hA : Arch n A) (fA : Full n A) (hn : n ≤ 20) : ∃ t, n = 2 * sz t ∧ A = al 0 t ∧ D_arches_number [stD A] = .ok (.int (num t : Nat)) := by
  obtain ⟨t, h1, h2⟩ := arch_tree hA fA
  refine ⟨t, h1, h2, ?_⟩
  have fe := full_eq hA fA hn
  have s := seg_all t
  rw [← h2] at s
  have ln : lenD [stD A] = some (.int (n : Nat)) := by show some (Dat.int (((natI A).map Dat.int).length : Nat)) = _; rw [List.length_map, natI_len, hA.len]
  have ne : D__number [stD A, .int 0, .int (n : Nat), CT] = .ok (.int (num t : Nat)) := by
    have := number_eq (v := A) (by rw [hA.len]; exact hn) t 40 0 (by omega) (by omega) s
    rw [Nat.zero_add, ← h1] at this
    exact this
  have ct := cts
  generalize CT = C at *
  generalize stD A = SA at *
  simp_arith [D_arches_number, F_arches_number, fe, ln, ct, ne]
end
end Lw
/-! Arches: drawn full ones. -/
namespace Lw
open PySem PySem.Spec PyProof.Rows L2 Dl
local macro_rules | `(tactic| simp_arith [$ls,*]) => `(tactic| simp (disch := (first | omega | assumption | (simp only [decide_eq_true_eq, decide_eq_false_iff_not, Bool.and_eq_true, Bool.or_eq_true, Bool.not_eq_true', Bool.not_eq_false', Bool.and_eq_false_iff, Bool.or_eq_false_iff, List.mem_range, List.length_map, List.length_append, List.length_cons, List.length_nil, rngC_len, rng_len, List.length_range, List.length_reverse, List.length_take, List.length_drop, List.length_set, List.length_replicate] at * <;> omega) | rfl | decide +kernel)) only [e_v0, e_vS, e_vC, e_s0, e_sS, e_op, e_op1, e_op2, e_opx, e_opx2, e_some, e_1, e_11, e_t, e_t1, e_tx, e_tr, e_tr1, e_trx, e_trb, e_trn, e_nt, e_nt1, e_ntx, e_and, e_andt, e_andf, e_andx, e_or, e_ort, e_orf, e_orx, e_va, e_vat, e_vaf, e_vax, e_vo, e_vot, e_vof, e_vox, e_vi, e_vit, e_vif, e_vix, e_vl, e_vl1, e_an, e_ac, e_ac1, e_acx, e_ac2, e_acx2, e_tu, e_tu1, e_tux, e_ls, e_ls1, e_cb, e_cb1, e_cbx, e_ca, e_ca_0, e_ca_1, e_ca_2, e_ca_3, e_ca_4, e_ca_5, e_ca_6, e_cax, e_ch, e_ch1, e_ch2, e_ch3, e_ch4, e_sl, e_sl1, e_slt, e_sll, e_slf, e_st, e_st1, e_os, e_os1, e_on, e_ga, e_ga1, e_gs, e_gst, e_gsl, e_gsf, e_ge, e_get, e_r1i, e_r2i, e_r3, e_lc, e_lc1, e_wp0, e_wp1, e_gn, e_gt, e_gl, e_gc, e_gc1, e_g0, e_seq, e_seqn, e_seqr, e_seqx, e_seqc, e_seqb, e_nop, e_brk, e_cnt, e_rai, e_asg, e_asg1, e_asgx, e_asgO, e_asgO1, e_asgT, e_asgT1, e_asgTx, e_tg, e_par, e_par1, e_par2, e_parO, e_parO1, e_drop, e_drop1, e_dropx, e_ret, e_ret1, e_retx, e_retN, e_if, e_ift, e_iff, e_ifx, e_aug, e_aug1, e_aug2, e_app, e_app1, e_ext, e_ext1, e_si, e_si1, e_si2, e_si3, e_pop, e_pop1, e_for, e_for1, e_whl, e_fl0, e_ft, e_fsn, e_fsc, e_fsb, e_fsr, e_fsx, e_wtt, e_wtf, e_wsn, e_wsc, e_wsb, e_wsr, e_wsx, e_try, e_tryn, e_tryr, e_tryc, e_try1, e_try1n, e_try1r, e_mk, e_mk2, e_mkx, e_mkx1, e_sI, e_iE, e_iF, e_iF1, e_iI, e_iIt, e_iIf, l_fld0, l_fld1, l_fld2, e_tA, e_tAn, e_tAr, e_tAx, e_hA, e_hA0, e_haT, e_haF, e_stA, e_stA1, e_rg, e_rg1, e_U, e_U1, e_run, e_endn, e_endr, e_endx, e_sta1, e_sta2, e_sta3, l_eq, l_ne, l_eqbb, l_nebb, l_lt, l_le, l_gt, l_ge, l_add, l_addt, l_addl, l_sub, l_neg, l_mod, l_fdiv, l_mul, l_mul2, l_fdivX, l_tn, l_btf, l_bft, l_btt, l_bff, l_ct, l_cf, l_iadd, l_not, l_len1, l_len2, l_len3, l_int, l_intb, l_tup1, l_tup2, l_lst1, l_lst2, l_max, l_min, l_ixt0, l_ixt1, l_ixt2, l_ixtl, l_ixl0, l_ixl1, l_ixl2, l_ixll, l_isn_bl, l_inn_bl, l_ty_int_bl, l_ty_bool_bl, l_ty_str_bl, l_ty_tuple_bl, l_ty_list_bl, l_isn_int, l_inn_int, l_ty_int_int, l_ty_bool_int, l_ty_str_int, l_ty_tuple_int, l_ty_list_int, l_isn_str, l_inn_str, l_ty_int_str, l_ty_bool_str, l_ty_str_str, l_ty_tuple_str, l_ty_list_str, l_isn_tup, l_inn_tup, l_ty_int_tup, l_ty_bool_tup, l_ty_str_tup, l_ty_tuple_tup, l_ty_list_tup, l_isn_lst, l_inn_lst, l_ty_int_lst, l_ty_bool_lst, l_ty_str_lst, l_ty_tuple_lst, l_ty_list_lst, l_isn_non, l_inn_non, l_ty_int_non, l_ty_bool_non, l_ty_str_non, l_ty_tuple_non, l_ty_list_non, d_t, d_f, Bool.not_true, Bool.not_false, List.length_map, List.length_append, List.length_cons, List.length_nil, List.nil_append, List.cons_append, if_true, if_false, Bool.false_eq_true, ite_true, ite_false, List.map_cons, List.map_nil, beq_self_eq_true, reduceIte, Bool.true_and, Bool.and_true, Bool.false_and, Bool.and_false, Int.reduceAdd, Int.reduceSub, Int.reduceMul, Int.reduceNeg, Int.reduceMod, Int.reduceDiv, Int.reduceToNat, Nat.reduceAdd, Nat.reduceMul, Nat.reduceSub, Bool.or_true, Bool.true_or, Bool.or_false, Bool.false_or, Int.cast_ofNat_Int, decide_true, decide_false, y_t, y_f, y_same, y_and, y_or, y_va, y_vo, y_vi, y_ch, y_if, y_ii, e_c3, e_c31, e_c32, e_c33, e_me, e_me1, e_me_0, e_me_1, e_me_2, e_me_3, e_me_4, e_pOO, e_pOO1, e_pOO2, e_p3, e_p31, e_p32, e_p33, l_isB, l_isnB, m_bl, m_D, m_I, m_oD, m_rt, c_1, c_2, c_3, c_4, c_5, c_6, s_op, s_op2, s_v1, s_tst, s_tru, s_nt, s_and, s_or, s_va, s_vo, s_vi, s_vl, s_cons, s_cons2, s_tup, s_lst, s_cb, s_ca, s_ch, s_ch2, s_ch3, s_sl, s_sl2, s_sl3, s_os, s_ga, s_gs, s_ge, s_lc, s_seq, s_asg, s_asgO, s_asgT, s_par, s_par2, s_parO, s_drop, s_ret, s_if, s_aug, s_aug2, s_app, s_ext, s_for, s_fs, s_try, s_try1, s_tA, s_c3, s_c32, s_end, s_ofO, s_mk2, s_mv, s_ifld, s_iif, e_m2, e_m2t, e_m2l, o_k, o_t, o_n, s_noE, lc_nil, lc_c1, lc_rngF, lc_map, lc_filN, mapR_ok, filR_ok, lc_cons, lc_rng, allP, anyP, appR_ok, andO_ok, orO_ok, all_0, any_0, lc_app, all_c, any_c, all_a, any_a, l_eqs, l_nes, l_eqt, lit_t, lit_f, notO_ok, in_ti, in_ts, in_li, in_ls, in_t0, in_l0, in_t0s, in_l0s, in_neg, in_tm, in_lm, k_ati, k_atl, k_negi, k_negl, cut_to', cut_off', cut_mid', cut_lst, cut_ofn, cut_ton, cut_map, k_sum, k_suml, all_tr, any_fl, map_tk, map_dr, map_ap, map_rv, not_any, not_all, l_mulX, l_mulX2, l_rep, l_repX, l_repL, l_repLX, e_fcb, e_fcb1, e_fop, e_fop1, e_fop2, e_fr, e_fr1, e_fsl, e_fsl1, e_p2O, e_p2O1, e_p3O, e_p3O1, e_p3O2, e_p3O3, e_geA, e_geA1, e_geA2, e_pO3, e_pO31, e_pO32, e_pO33, csT, csF, lc_consN, e_p2O2, seqF_l, seqF_t, seqF_f, mulF_1, addF_l, sort_int, sort_intT, e_s2, e_s21, e_s22, e_s23, e_s24, e_s25, e_sp, e_sp1, e_sp2, ixN_p, ixN_n, l_abs, e_Ub, e_Us, map_st, map_iN, cp_n, cp_c, cp_r, eq_ints, eq_intsl, ne_ints, ne_intsl, List.drop_succ_cons, List.drop_zero, List.drop_nil, List.take_succ_cons, List.take_zero, List.take_nil, Bool.not_not, Bool.decide_eq_true, decide_eq_true_eq, Bool.not_eq_true, $ls,*])
theorem pigeon : ∀ (n : Nat) (l : List Nat), l.Nodup → (∀ x ∈ l, x < n) → l.length ≤ n
  | 0, l, _, h => by
    cases l with
    | nil => exact Nat.le_refl _
    | cons x l => exact absurd (h x List.mem_cons_self) (Nat.not_lt_zero _)
  | n + 1, l, nd, h => by
    have := pigeon n (l.erase n) (nd.erase n) fun x hx => by
      have h1 := h x (List.mem_of_mem_erase hx)
      have h2 : x ≠ n := fun e => by
        subst e
        exact absurd hx (nd.not_mem_erase)
      omega
    have e := List.length_erase (a := n) (l := l)
    split at e <;> omega
theorem getD_set {L : List Int} {p q : Nat} {v : Int} (h : p < L.length) : (L.set p v).getD q 0 = if q = p then v else L.getD q 0 := by
  rw [List.getD_eq_getElem?_getD, List.getElem?_set, List.getD_eq_getElem?_getD]
  by_cases z : p = q
  · subst z; rw [if_pos rfl, if_pos rfl, if_pos h]; rfl
  · rw [if_neg z, if_neg (fun e => z e.symm)]
structure DA (n k : Nat) (A O : List Nat) : Prop where
  arch : Arch n A
  hi : ∀ p, k ≤ p → p < n → A.getD p 0 = p
  opn : ∀ o ∈ O, o < k ∧ A.getD o 0 = o ∧ ∀ p, p < o → A.getD p 0 < o
  asc : O.Pairwise (· < ·)
section
variable {n k : Nat} {A O : List Nat}
theorem getD_setN {L : List Nat} {p q v : Nat} (h : p < L.length) : (L.set p v).getD q 0 = if q = p then v else L.getD q 0 := by
  rw [List.getD_eq_getElem?_getD, List.getElem?_set, List.getD_eq_getElem?_getD]
  by_cases z : p = q
  · subst z; rw [if_pos rfl, if_pos rfl, if_pos h]; rfl
  · rw [if_neg z, if_neg (fun e => z e.symm)]
theorem DA.lo (D : DA n k A O) (hk : k ≤ n) {p : Nat} (h : p < k) : A.getD p 0 < k := by
  by_cases q : A.getD p 0 < k
  · exact q
  · have h1 := D.hi (A.getD p 0) (by omega) (D.arch.rng p (by omega))
    rw [D.arch.inv p (by omega)] at h1
    omega
theorem DA.push (D : DA n k A O) (hk : k < n) : DA n (k + 1) A (O ++ [k]) := by
  refine ⟨D.arch, fun p h => D.hi p (by omega), fun o ho => ?_, ?_⟩
  · rcases List.mem_append.mp ho with h | h
    · have := D.opn o h
      exact ⟨by omega, this.2⟩
    · rw [List.mem_singleton] at h
      subst h
      exact ⟨by omega, D.hi o (Nat.le_refl _) hk, fun p hp => D.lo (by omega) hp⟩
  · rw [List.pairwise_append]
    refine ⟨D.asc, List.pairwise_singleton _ _, fun a ha b hb => ?_⟩
    rw [List.mem_singleton] at hb
    rw [hb]
    exact (D.opn a ha).1
theorem DA.drop {t : Nat} (D : DA n k A (O ++ [t])) : DA n (k + 1) A O := by
  refine ⟨D.arch, fun p h => D.hi p (by omega), fun o ho => ?_, (List.pairwise_append.mp D.asc).1⟩
  have := D.opn o (List.mem_append_left _ ho)
  exact ⟨by omega, this.2⟩
theorem DA.close {t : Nat} (D : DA n k A (O ++ [t])) (hk : k < n) : DA n (k + 1) ((A.set k t).set t k) O := by
  obtain ⟨t1, t2, t3⟩ := D.opn t (List.mem_append_right _ List.mem_cons_self)
  have hl := D.arch.len
  have g : ∀ p, ((A.set k t).set t k).getD p 0 = if p = t then k else if p = k then t else A.getD p 0 := fun p => by
    rw [getD_setN (by rw [List.length_set]; omega), getD_setN (by omega)]
  have k2 := D.hi k (Nat.le_refl _) hk
  have nk : ∀ p, p < n → p ≠ k → p ≠ t → A.getD p 0 ≠ k ∧ A.getD p 0 ≠ t := fun p hp h1 h2 => by
    have i := D.arch.inv p hp
    refine ⟨fun e => ?_, fun e => ?_⟩
    · rw [e, k2] at i; exact h1 i.symm
    · rw [e, t2] at i; exact h2 i.symm
  refine ⟨⟨by rw [List.length_set, List.length_set]; exact hl, fun p hp => ?_, fun p hp => ?_, fun p q hp h1 h2 => ?_⟩, fun p h hp => ?_, fun o ho => ?_, (List.pairwise_append.mp D.asc).1⟩
  · rw [g]
    split
    · omega
    · split
      · omega
      · exact D.arch.rng p hp
  · rw [g p]
    by_cases z1 : p = t
    · rw [if_pos z1, g, if_neg (by omega), if_pos rfl]; exact z1.symm
    · rw [if_neg z1]
      by_cases z2 : p = k
      · rw [if_pos z2, g, if_pos rfl]; exact z2.symm
      · have := nk p hp z2 z1
        rw [if_neg z2, g, if_neg this.2, if_neg this.1]
        exact D.arch.inv p hp
  · rw [g p] at h2 ⊢
    by_cases z1 : p = t
    · rw [if_pos z1] at h2 ⊢
      rw [g q, if_neg (by omega), if_neg (by omega)]
      have := D.lo (Nat.le_of_lt hk) (p := q) (by omega)
      omega
    · rw [if_neg z1] at h2 ⊢
      by_cases z2 : p = k
      · rw [if_pos z2] at h2; omega
      · rw [if_neg z2] at h2 ⊢
        have pk : p < k := by
          by_cases c : p < k
          · exact c
          · rw [D.hi p (by omega) hp] at h2; omega
        have l1 := D.lo (Nat.le_of_lt hk) pk
        have qt : q ≠ t := fun e => by
          subst e
          have := t3 p h1
          omega
        rw [g q, if_neg qt, if_neg (by omega)]
        exact D.arch.non p q hp h1 h2
  · rw [g, if_neg (by omega), if_neg (by omega)]
    exact D.hi p (by omega) hp
  · have ⟨o1, o2, o3⟩ := D.opn o (List.mem_append_left _ ho)
    have ot : o < t := (List.pairwise_append.mp D.asc).2.2 o ho t List.mem_cons_self
    refine ⟨by omega, by rw [g, if_neg (by omega), if_neg (by omega)]; exact o2, fun p hp => ?_⟩
    rw [g, if_neg (by omega), if_neg (by omega)]
    exact o3 p hp
theorem DA.zero : DA n 0 (List.range n) [] := by
  have g : ∀ p, p < n → (List.range n).getD p 0 = p := fun p hp => by
    rw [List.getD_eq_getElem?_getD, List.getElem?_range hp]; rfl
  refine ⟨⟨List.length_range, fun p hp => by rw [g p hp]; exact hp, fun p hp => by rw [g p hp, g p hp], fun p q hp h1 h2 => ?_⟩, fun p _ hp => g p hp, fun o h => (by cases h), List.Pairwise.nil⟩
  rw [g p hp] at h2
  omega

structure DF (n k : Nat) (A A' O : List Nat) : Prop where
  da : DA n k A' O
  len : A.length = n
  eq : ∀ p, p < k → p ∉ O → A.getD p 0 = A'.getD p 0
  ne : ∀ p, p < k → p ∉ O → A'.getD p 0 ≠ p
  le : O.length + k ≤ n
  ev : (n - k - O.length) % 2 = 0
theorem DF.push {A' : List Nat} (D : DF n k A A' O) (hk : k < n) (h : O.length + k + 2 ≤ n) : DF n (k + 1) A A' (O ++ [k]) :=
  ⟨D.da.push hk, D.len, fun p hp hn => D.eq p (by have : p ≠ k := fun e => hn (List.mem_append.mpr (.inr (by rw [e]; exact List.mem_singleton_self _))); omega) fun e => hn (List.mem_append_left _ e), fun p hp hn => D.ne p (by have : p ≠ k := fun e => hn (List.mem_append.mpr (.inr (by rw [e]; exact List.mem_singleton_self _))); omega) fun e => hn (List.mem_append_left _ e), by rw [List.length_append, List.length_singleton]; omega, by rw [List.length_append, List.length_singleton]; have := D.ev; omega⟩
theorem DF.close {A' : List Nat} {t : Nat} (D : DF n k A A' (O ++ [t])) (hk : k < n) : DF n (k + 1) ((A.set k t).set t k) ((A'.set k t).set t k) O := by
  have tk := (D.da.opn t (List.mem_append_right _ List.mem_cons_self)).1
  have hl := D.len
  have hl2 := D.da.arch.len
  have le := D.le
  have ev := D.ev
  rw [List.length_append, List.length_singleton] at le ev
  have g : ∀ p, ((A.set k t).set t k).getD p 0 = if p = t then k else if p = k then t else A.getD p 0 := fun p => by
    rw [getD_setN (by rw [List.length_set]; omega), getD_setN (by omega)]
  have g2 : ∀ p, ((A'.set k t).set t k).getD p 0 = if p = t then k else if p = k then t else A'.getD p 0 := fun p => by
    rw [getD_setN (by rw [List.length_set]; omega), getD_setN (by omega)]
  have no : ∀ p, p ≠ t → p ∉ O → p ∉ O ++ [t] := fun p h1 h2 h => by
    rcases List.mem_append.mp h with h | h
    · exact h2 h
    · exact h1 (List.mem_singleton.mp h)
  refine ⟨D.da.close hk, by rw [List.length_set, List.length_set]; exact hl, fun p hp hn => ?_, fun p hp hn => ?_, by omega, by omega⟩
  · rw [g, g2]
    split
    · rfl
    · split
      · rfl
      · exact D.eq p (by omega) (no p (by assumption) hn)
  · rw [g2]
    split
    · omega
    · split
      · omega
      · exact D.ne p (by omega) (no p (by assumption) hn)

theorem drawn_eq {ds : List Int} {at0 : Nat} (hl : at0 + n ≤ ds.length) (hl2 : ds.length ≤ 1000) (hn : n ≤ 20) (ev : n % 2 = 0) : ∃ A, D__law_drawn [.lst (ds.map .int), .int at0, .int n] = .ok (stD A) ∧ Arch n A ∧ Full n A := by
  have rp : (List.replicate n (Dat.int 0)) = (natI (List.replicate n 0)).map .int := by
    unfold natI
    rw [List.map_replicate, List.map_replicate]
    rfl
  simp_arith [D__law_drawn, F__law_drawn, rp]
  generalize hF : forL _ _ _ _ = rr
  obtain ⟨x3, x4, x5, x6, x7, rfl, A, A', O, rfl, hx4, D⟩ := fk5 3 4 5 6 7 (fun k x y _ _ _ => ∃ A A' O : List Nat, x = some (.lst ((natI A).map .int)) ∧ y = some (.lst ((natI O).map .int)) ∧ DF n k A A' O) hF (fun _ _ _ _ _ h => by
      simp only [e_s0, e_sS, List.cons.injEq, and_true, true_and] at h
      exact ⟨List.replicate n 0, List.range n, [], h.1, h.2.1, ⟨DA.zero, List.length_replicate, fun p hp => absurd hp (Nat.not_lt_zero _), fun p hp => absurd hp (Nat.not_lt_zero _), by show 0 + 0 ≤ n; omega, by show (n - 0 - 0) % 2 = 0; omega⟩⟩) fun k d x3 x4 x5 x6 x7 hk ⟨A, A', O, hx, hy, D⟩ => by
    subst hx; subst hy
    obtain ⟨hk', rfl⟩ := rng_get0 hk
    have lA : (natI A).length = n := by rw [natI_len, D.len]
    have lO : (natI O).length = O.length := natI_len O
    have lO2 := D.le
    have dev := D.ev
    refine ⟨_, rfl, ?_⟩
    obtain ⟨x, ex⟩ : ∃ x, ds.getD ((at0 : Int) + (k : Int)).toNat 0 = x := ⟨_, rfl⟩
    have ll : ∀ O : List Nat, lenD [.lst ((natI O).map Dat.int)] = some (.int (O.length : Nat)) := fun O => by show some (Dat.int (((natI O).map Dat.int).length : Nat)) = _; rw [List.length_map, natI_len]
    have pu : (natI (O ++ [k])).map Dat.int = (natI O).map Dat.int ++ [.int (k : Nat)] := by unfold natI; rw [List.map_append, List.map_append]; rfl
    have l0 := ll O
    have hOl : ((natI O).map Dat.int).length ≤ 20 := by rw [List.length_map, lO]; omega
    by_cases z : 0 < O.length ∧ (O.length = n - k ∨ x % 2 = 0)
    · obtain ⟨z0, z1⟩ := z
      obtain ⟨O1, t, rfl⟩ : ∃ O1 t, O = O1 ++ [t] := ⟨O.dropLast, O.getLast (fun e => by rw [e] at z0; exact absurd z0 (by decide)), (List.dropLast_concat_getLast _).symm⟩
      have po : (natI (O1 ++ [t])).map Dat.int = (natI O1).map Dat.int ++ [.int (t : Nat)] := by unfold natI; rw [List.map_append, List.map_append]; rfl
      have tk := (D.da.opn t (List.mem_append_right _ List.mem_cons_self)).1
      rw [po] at l0 ⊢
      generalize hOO : (O1 ++ [t]).length = m at *
      refine ⟨some (.lst ((natI ((A.set k t).set t k)).map .int)), some (.lst ((natI O1).map .int)), some (.int k), some (.int ((n : Int) - k)), some (.int t), .inl ?_, _, _, O1, rfl, rfl, D.close hk'⟩
      rw [← set_nat, ← set_nat]
      generalize hW : (natI A).map Dat.int = W at *
      have hWl : W.length = n := by rw [← hW, List.length_map, lA]
      by_cases z2 : x % 2 = 0
      · by_cases z4 : (m : Int) = (n : Int) - k
        · simp_arith [ex, l0, z2, z4]
        · simp_arith [ex, l0, z2, z4]
      · have z3 : (m : Int) = (n : Int) - k := by omega
        simp_arith [ex, l0, z2, z3]
    · refine ⟨some (.lst ((natI A).map .int)), some (.lst ((natI (O ++ [k])).map .int)), some (.int k), some (.int ((n : Int) - k)), x7, .inl ?_, A, A', O ++ [k], rfl, rfl, D.push hk' (by
        by_cases z0 : 0 < O.length
        · have : ¬ O.length = n - k := fun e => z ⟨z0, .inl e⟩
          omega
        · omega)⟩
      rw [pu]
      generalize hW : (natI A).map Dat.int = W at *
      generalize hV : (natI O).map Dat.int = V at *
      by_cases z0 : 0 < O.length
      · have z1 : ¬ x % 2 = 0 := fun e => z ⟨z0, .inr e⟩
        have z2 : ¬ (O.length : Int) = (n : Int) - k := fun e => z ⟨z0, .inl (by omega)⟩
        simp_arith [ex, l0, z0, z1, z2]
      · simp_arith [ex, l0, z0]
  rw [rng_len] at D
  have le := D.le
  have On : O = [] := List.length_eq_zero_iff.mp (by omega)
  subst On
  have e : A = A' := by
    apply List.ext_getElem
    · rw [D.len, D.da.arch.len]
    · intro p h1 h2
      have := D.eq p (by rw [D.len] at h1; omega) (fun h => by cases h)
      rw [List.getD_eq_getElem?_getD, List.getD_eq_getElem?_getD, List.getElem?_eq_getElem h1, List.getElem?_eq_getElem h2] at this
      exact this
  subst e
  exact ⟨A, by simp_arith [Dl.y_t]; rfl, D.da.arch, fun p hp => D.ne p hp fun h => by cases h⟩
end
end Lw
/-! Arches: faults, by the program and by the law. -/
namespace Lw
open PySem PySem.Spec PyProof.Rows L2 Dl
local macro_rules | `(tactic| simp_arith [$ls,*]) => `(tactic| simp (disch := (first | omega | assumption | (simp only [decide_eq_true_eq, decide_eq_false_iff_not, Bool.and_eq_true, Bool.or_eq_true, Bool.not_eq_true', Bool.not_eq_false', Bool.and_eq_false_iff, Bool.or_eq_false_iff, List.mem_range, List.length_map, List.length_append, List.length_cons, List.length_nil, rngC_len, rng_len, List.length_range, List.length_reverse, List.length_take, List.length_drop, List.length_set, List.length_replicate] at * <;> omega) | rfl | decide +kernel)) only [e_v0, e_vS, e_vC, e_s0, e_sS, e_op, e_op1, e_op2, e_opx, e_opx2, e_some, e_1, e_11, e_t, e_t1, e_tx, e_tr, e_tr1, e_trx, e_trb, e_trn, e_nt, e_nt1, e_ntx, e_and, e_andt, e_andf, e_andx, e_or, e_ort, e_orf, e_orx, e_va, e_vat, e_vaf, e_vax, e_vo, e_vot, e_vof, e_vox, e_vi, e_vit, e_vif, e_vix, e_vl, e_vl1, e_an, e_ac, e_ac1, e_acx, e_ac2, e_acx2, e_tu, e_tu1, e_tux, e_ls, e_ls1, e_cb, e_cb1, e_cbx, e_ca, e_ca_0, e_ca_1, e_ca_2, e_ca_3, e_ca_4, e_ca_5, e_ca_6, e_cax, e_ch, e_ch1, e_ch2, e_ch3, e_ch4, e_sl, e_sl1, e_slt, e_sll, e_slf, e_st, e_st1, e_os, e_os1, e_on, e_ga, e_ga1, e_gs, e_gst, e_gsl, e_gsf, e_ge, e_get, e_r1i, e_r2i, e_r3, e_lc, e_lc1, e_wp0, e_wp1, e_gn, e_gt, e_gl, e_gc, e_gc1, e_g0, e_seq, e_seqn, e_seqr, e_seqx, e_seqc, e_seqb, e_nop, e_brk, e_cnt, e_rai, e_asg, e_asg1, e_asgx, e_asgO, e_asgO1, e_asgT, e_asgT1, e_asgTx, e_tg, e_par, e_par1, e_par2, e_parO, e_parO1, e_drop, e_drop1, e_dropx, e_ret, e_ret1, e_retx, e_retN, e_if, e_ift, e_iff, e_ifx, e_aug, e_aug1, e_aug2, e_app, e_app1, e_ext, e_ext1, e_si, e_si1, e_si2, e_si3, e_pop, e_pop1, e_for, e_for1, e_whl, e_fl0, e_ft, e_fsn, e_fsc, e_fsb, e_fsr, e_fsx, e_wtt, e_wtf, e_wsn, e_wsc, e_wsb, e_wsr, e_wsx, e_try, e_tryn, e_tryr, e_tryc, e_try1, e_try1n, e_try1r, e_mk, e_mk2, e_mkx, e_mkx1, e_sI, e_iE, e_iF, e_iF1, e_iI, e_iIt, e_iIf, l_fld0, l_fld1, l_fld2, e_tA, e_tAn, e_tAr, e_tAx, e_hA, e_hA0, e_haT, e_haF, e_stA, e_stA1, e_rg, e_rg1, e_U, e_U1, e_run, e_endn, e_endr, e_endx, e_sta1, e_sta2, e_sta3, l_eq, l_ne, l_eqbb, l_nebb, l_lt, l_le, l_gt, l_ge, l_add, l_addt, l_addl, l_sub, l_neg, l_mod, l_fdiv, l_mul, l_mul2, l_fdivX, l_tn, l_btf, l_bft, l_btt, l_bff, l_ct, l_cf, l_iadd, l_not, l_len1, l_len2, l_len3, l_int, l_intb, l_tup1, l_tup2, l_lst1, l_lst2, l_max, l_min, l_ixt0, l_ixt1, l_ixt2, l_ixtl, l_ixl0, l_ixl1, l_ixl2, l_ixll, l_isn_bl, l_inn_bl, l_ty_int_bl, l_ty_bool_bl, l_ty_str_bl, l_ty_tuple_bl, l_ty_list_bl, l_isn_int, l_inn_int, l_ty_int_int, l_ty_bool_int, l_ty_str_int, l_ty_tuple_int, l_ty_list_int, l_isn_str, l_inn_str, l_ty_int_str, l_ty_bool_str, l_ty_str_str, l_ty_tuple_str, l_ty_list_str, l_isn_tup, l_inn_tup, l_ty_int_tup, l_ty_bool_tup, l_ty_str_tup, l_ty_tuple_tup, l_ty_list_tup, l_isn_lst, l_inn_lst, l_ty_int_lst, l_ty_bool_lst, l_ty_str_lst, l_ty_tuple_lst, l_ty_list_lst, l_isn_non, l_inn_non, l_ty_int_non, l_ty_bool_non, l_ty_str_non, l_ty_tuple_non, l_ty_list_non, d_t, d_f, Bool.not_true, Bool.not_false, List.length_map, List.length_append, List.length_cons, List.length_nil, List.nil_append, List.cons_append, if_true, if_false, Bool.false_eq_true, ite_true, ite_false, List.map_cons, List.map_nil, beq_self_eq_true, reduceIte, Bool.true_and, Bool.and_true, Bool.false_and, Bool.and_false, Int.reduceAdd, Int.reduceSub, Int.reduceMul, Int.reduceNeg, Int.reduceMod, Int.reduceDiv, Int.reduceToNat, Nat.reduceAdd, Nat.reduceMul, Nat.reduceSub, Bool.or_true, Bool.true_or, Bool.or_false, Bool.false_or, Int.cast_ofNat_Int, decide_true, decide_false, y_t, y_f, y_same, y_and, y_or, y_va, y_vo, y_vi, y_ch, y_if, y_ii, e_c3, e_c31, e_c32, e_c33, e_me, e_me1, e_me_0, e_me_1, e_me_2, e_me_3, e_me_4, e_pOO, e_pOO1, e_pOO2, e_p3, e_p31, e_p32, e_p33, l_isB, l_isnB, m_bl, m_D, m_I, m_oD, m_rt, c_1, c_2, c_3, c_4, c_5, c_6, s_op, s_op2, s_v1, s_tst, s_tru, s_nt, s_and, s_or, s_va, s_vo, s_vi, s_vl, s_cons, s_cons2, s_tup, s_lst, s_cb, s_ca, s_ch, s_ch2, s_ch3, s_sl, s_sl2, s_sl3, s_os, s_ga, s_gs, s_ge, s_lc, s_seq, s_asg, s_asgO, s_asgT, s_par, s_par2, s_parO, s_drop, s_ret, s_if, s_aug, s_aug2, s_app, s_ext, s_for, s_fs, s_try, s_try1, s_tA, s_c3, s_c32, s_end, s_ofO, s_mk2, s_mv, s_ifld, s_iif, e_m2, e_m2t, e_m2l, o_k, o_t, o_n, s_noE, lc_nil, lc_c1, lc_rngF, lc_map, lc_filN, mapR_ok, filR_ok, lc_cons, lc_rng, allP, anyP, appR_ok, andO_ok, orO_ok, all_0, any_0, lc_app, all_c, any_c, all_a, any_a, l_eqs, l_nes, l_eqt, lit_t, lit_f, notO_ok, in_ti, in_ts, in_li, in_ls, in_t0, in_l0, in_t0s, in_l0s, in_neg, in_tm, in_lm, k_ati, k_atl, k_negi, k_negl, cut_to', cut_off', cut_mid', cut_lst, cut_ofn, cut_ton, cut_map, k_sum, k_suml, all_tr, any_fl, map_tk, map_dr, map_ap, map_rv, not_any, not_all, l_mulX, l_mulX2, l_rep, l_repX, l_repL, l_repLX, e_fcb, e_fcb1, e_fop, e_fop1, e_fop2, e_fr, e_fr1, e_fsl, e_fsl1, e_p2O, e_p2O1, e_p3O, e_p3O1, e_p3O2, e_p3O3, e_geA, e_geA1, e_geA2, e_pO3, e_pO31, e_pO32, e_pO33, csT, csF, lc_consN, e_p2O2, seqF_l, seqF_t, seqF_f, mulF_1, addF_l, sort_int, sort_intT, e_s2, e_s21, e_s22, e_s23, e_s24, e_s25, e_sp, e_sp1, e_sp2, ixN_p, ixN_n, l_abs, e_Ub, e_Us, map_st, map_iN, cp_n, cp_c, cp_r, eq_ints, eq_intsl, ne_ints, ne_intsl, List.drop_succ_cons, List.drop_zero, List.drop_nil, List.take_succ_cons, List.take_zero, List.take_nil, Bool.not_not, Bool.decide_eq_true, decide_eq_true_eq, Bool.not_eq_true, $ls,*])
theorem first_eq {f g : Nat → Option Dat} {c m : Nat} (hc : c ≤ m) (h1 : ∀ i, i < c → f i = g i) (h2 : ∀ i, c ≤ i → i < m → f i = none) : firstF f 0 m = firstF g 0 c := by
  cases q : firstF g 0 c with
  | none =>
    cases p : firstF f 0 m with
    | none => rfl
    | some d =>
      obtain ⟨k, _, k2, k3, _⟩ := first_some p
      by_cases z : k < c
      · have := first_none q k (Nat.zero_le _) (by omega)
        rw [← h1 k z, k3] at this
        cases this
      · rw [h2 k (by omega) (by omega)] at k3
        cases k3
  | some d =>
    obtain ⟨k, _, k2, k3, k4⟩ := first_some q
    rw [Nat.zero_add] at k2
    have fk := (h1 k k2).trans k3
    cases p : firstF f 0 m with
    | none =>
      have := first_none p k (Nat.zero_le _) (by omega)
      rw [fk] at this
      cases this
    | some d' =>
      obtain ⟨i, _, i2, i3, i4⟩ := first_some p
      by_cases z : i < k
      · have := k4 i (Nat.zero_le _) z
        rw [← h1 i (by omega), i3] at this
        cases this
      · by_cases z2 : k < i
        · have := i4 k (Nat.zero_le _) z2
          rw [fk] at this
          cases this
        · have : i = k := by omega
          subst this
          rw [fk] at i3
          exact i3.symm
def pairF (B : List Nat) (k : Nat) : Option Dat := if B.getD (B.getD k 0) 0 = k then none else some (.tup [.str "pair", .int (k : Nat)])
def crI (B : List Nat) (k j : Nat) : Option Dat := if B.getD k 0 < B.getD j 0 then some (.tup [.str "crossing", .int (k : Nat), .int (j : Nat)]) else none
def crP (B : List Nat) (k : Nat) : Option Dat := firstF (fun i => crI B k (k + 1 + i)) 0 (B.getD k 0 - (k + 1))
def crL (B : List Nat) (n k : Nat) : Option Dat := firstF (fun i => if k + 1 + i < B.getD k 0 then crI B k (k + 1 + i) else none) 0 (n - (k + 1))
def fauD (B : List Nat) (n : Nat) : Dat := match firstF (pairF B) 0 n with
  | some d => d
  | none => match firstF (crP B) 0 n with
    | some d => d
    | none => .non
theorem crL_eq {B : List Nat} {n k : Nat} (h : B.getD k 0 ≤ n) : crL B n k = crP B k :=
  first_eq (by omega) (fun i hi => by rw [if_pos (by omega)]) fun i hi _ => if_neg (by omega)
section
variable {n : Nat} {B : List Nat}
theorem fault_eq (hl : B.length = n) (hn : n ≤ 20) (hr : ∀ p, p < n → B.getD p 0 < n) : D_arches_fault [stD B] = .ok (fauD B n) := by
  have ln : lenD [.tup ((natI B).map .int)] = some (.int (n : Nat)) := by show some (Dat.int (((natI B).map Dat.int).length : Nat)) = _; rw [List.length_map, natI_len, hl]
  have hN : (natI B).length = n := by rw [natI_len, hl]
  have w : ((natI B).all fun a => isW 0 ((n : Int) - 1) (Dat.int a)) = true := List.all_eq_true.mpr fun x hx => by
    obtain ⟨k, hk, rfl⟩ := List.mem_map.mp hx
    obtain ⟨p, hp, e⟩ := List.mem_iff_getElem.mp hk
    have := hr p (by omega)
    rw [List.getD_eq_getElem?_getD, List.getElem?_eq_getElem hp, e] at this
    have this : k < n := this
    exact isW_int (by omega) (by omega)
  unfold stD
  simp_arith [D_arches_fault, F_arches_fault, isx_t, ln, whole_int, w, num_from]
  generalize hF : forL _ _ _ _ = rr
  have r := ff2 1 2 (pairF B) hF fun k d x y hk => by
    obtain ⟨hk, rfl⟩ := num_get hk
    have a1 := at_st (A := B) (j := B.getD k 0) (k := (B.getD k 0 : Nat)) rfl (by rw [hl]; exact hr k (by omega))
    refine ⟨_, rfl, ?_⟩
    unfold pairF
    by_cases q : B.getD (B.getD k 0) 0 = k
    · have q' : ((B.getD (B.getD k 0) 0 : Nat) : Int) = (k : Int) := by omega
      rw [q'] at a1
      exact .inr ⟨if_pos q, _, _, .inl (by simp_arith [a1]; rfl)⟩
    · have q' : ¬ ((B.getD (B.getD k 0) 0 : Nat) : Int) = (k : Int) := by omega
      generalize ((B.getD (B.getD k 0) 0 : Nat) : Int) = u at *
      exact .inl ⟨_, if_neg q, by simp_arith [a1, q']⟩
  rw [numF_len, List.length_map, hN] at r
  unfold fauD
  rcases r with ⟨d, h1, rfl⟩ | ⟨h1, x, y, rfl⟩
  · rw [h1]
    rfl
  · rw [h1]
    simp_arith [num_from]
    generalize hG : forL _ _ _ _ = rg
    have r := ff3 1 2 3 (crP B) hG fun k d x y z hk => by
      obtain ⟨hk, rfl⟩ := num_get hk
      have rg := hr k (by omega)
      unfold crP crI
      generalize hv : B.getD k 0 = v at *
      have hq : ((v : Int) - ((k : Int) + 1)).toNat = v - (k + 1) := by omega
      refine ⟨_, rfl, ?_⟩
      simp_arith [hq]
      generalize hH : forL _ _ _ _ = rh
      have r := ff1 3 (fun i => if v < B.getD (k + 1 + i) 0 then some (.tup [.str "crossing", .int (k : Nat), .int (k + 1 + i : Nat)]) else none) hH fun q d x hq => by
        obtain ⟨hq, rfl⟩ := rng_get hq
        have a1 := at_st (A := B) (j := k + 1 + q) (k := (k : Int) + 1 + (q : Int)) (by omega) (by omega)
        refine ⟨_, rfl, ?_⟩
        generalize B.getD (k + 1 + q) 0 = u at *
        by_cases c : v < u
        · have e : ((k + 1 + q : Nat) : Int) = (k : Int) + 1 + (q : Int) := by omega
          rw [if_pos c, e]
          exact .inl ⟨_, rfl, by simp_arith [a1]⟩
        · exact .inr ⟨if_neg c, _, .inl (by simp_arith [a1]; rfl)⟩
      rw [rng_len] at r
      rcases r with ⟨d, h1, rfl⟩ | ⟨h1, x, rfl⟩
      · exact .inl ⟨d, h1, rfl⟩
      · exact .inr ⟨h1, _, _, _, .inl rfl⟩
    rw [numF_len, List.length_map, hN] at r
    rcases r with ⟨d, h1, rfl⟩ | ⟨h1, x, y, z, rfl⟩
    · rw [h1]
      rfl
    · rw [h1]
      simp_arith [Dl.y_t]
theorem lfault_eq (hl : B.length = n) (hn : n ≤ 20) (hr : ∀ p, p < n → B.getD p 0 < n) : D__law_fault [stD B] = .ok (fauD B n) := by
  have ln : lenD [.tup ((natI B).map .int)] = some (.int (n : Nat)) := by show some (Dat.int (((natI B).map Dat.int).length : Nat)) = _; rw [List.length_map, natI_len, hl]
  have hN : (natI B).length = n := by rw [natI_len, hl]
  have w1 : ((natI B).all fun _ => true) = true := List.all_eq_true.mpr fun _ _ => rfl
  have w2 : ((natI B).any fun a => decide (a < 0) || decide ((n : Int) ≤ a)) = false := List.any_eq_false.mpr fun x hx => by
    obtain ⟨k, hk, rfl⟩ := List.mem_map.mp hx
    obtain ⟨p, hp, e⟩ := List.mem_iff_getElem.mp hk
    have := hr p (by omega)
    rw [List.getD_eq_getElem?_getD, List.getElem?_eq_getElem hp, e] at this
    have this : k < n := this
    rw [Bool.or_eq_true, decide_eq_true_iff, decide_eq_true_iff]
    omega
  unfold stD
  simp_arith [D__law_fault, F__law_fault, ln, w1, w2]
  generalize hF : forL _ _ _ _ = rr
  have r := ff1 1 (pairF B) hF fun k d x hk => by
    obtain ⟨hk, rfl⟩ := rng_get0 hk
    have a0 := at_st (A := B) (j := k) (k := (k : Nat)) rfl (by omega)
    have a1 := at_st (A := B) (j := B.getD k 0) (k := (B.getD k 0 : Nat)) rfl (by rw [hl]; exact hr k (by omega))
    refine ⟨_, rfl, ?_⟩
    unfold pairF
    by_cases q : B.getD (B.getD k 0) 0 = k
    · have q' : ((B.getD (B.getD k 0) 0 : Nat) : Int) = (k : Int) := by omega
      rw [q'] at a1
      exact .inr ⟨if_pos q, _, .inl (by simp_arith [a0, a1]; rfl)⟩
    · have q' : ¬ ((B.getD (B.getD k 0) 0 : Nat) : Int) = (k : Int) := by omega
      generalize ((B.getD (B.getD k 0) 0 : Nat) : Int) = u at *
      exact .inl ⟨_, if_neg q, by simp_arith [a0, a1, q']⟩
  rw [rng_len] at r
  unfold fauD
  rcases r with ⟨d, h1, rfl⟩ | ⟨h1, x, rfl⟩
  · rw [h1]
    rfl
  · rw [h1]
    simp_arith [ln]
    generalize hG : forL _ _ _ _ = rg
    have r := ff2 1 2 (crP B) hG fun k d x y hk => by
      obtain ⟨hk, rfl⟩ := rng_get0 hk
      have rg := hr k (by omega)
      have a0 := at_st (A := B) (j := k) (k := (k : Nat)) rfl (by omega)
      rw [← crL_eq (n := n) (by omega)]
      unfold crL crI
      have hq : ((n : Int) - ((k : Int) + 1)).toNat = n - (k + 1) := by omega
      refine ⟨_, rfl, ?_⟩
      generalize hv : B.getD k 0 = v at *
      simp_arith [ln, hq]
      generalize hH : forL _ _ _ _ = rh
      have r := ff1 2 (fun i => if k + 1 + i < v then (if v < B.getD (k + 1 + i) 0 then some (.tup [.str "crossing", .int (k : Nat), .int (k + 1 + i : Nat)]) else none) else none) hH fun q d x hq => by
        obtain ⟨hq, rfl⟩ := rng_get hq
        have a1 := at_st (A := B) (j := k + 1 + q) (k := (k : Int) + 1 + (q : Int)) (by omega) (by omega)
        refine ⟨_, rfl, ?_⟩
        generalize B.getD (k + 1 + q) 0 = u at *
        have e : ((k + 1 + q : Nat) : Int) = (k : Int) + 1 + (q : Int) := by omega
        by_cases c0 : k + 1 + q < v
        · have c0' : (k : Int) + 1 + (q : Int) < (v : Int) := by omega
          rw [if_pos c0]
          by_cases c : v < u
          · rw [if_pos c, e]
            exact .inl ⟨_, rfl, by simp_arith [a0, a1, c0']⟩
          · exact .inr ⟨if_neg c, _, .inl (by simp_arith [a0, a1, c0']; rfl)⟩
        · have c0' : ¬ (k : Int) + 1 + (q : Int) < (v : Int) := by omega
          exact .inr ⟨if_neg c0, _, .inl (by simp_arith [a0, a1, c0']; rfl)⟩
      rw [rng_len] at r
      rcases r with ⟨d, h1, rfl⟩ | ⟨h1, x, rfl⟩
      · exact .inl ⟨d, h1, rfl⟩
      · exact .inr ⟨h1, _, _, .inl rfl⟩
    rw [rng_len] at r
    rcases r with ⟨d, h1, rfl⟩ | ⟨h1, x, y, rfl⟩
    · rw [h1]
      rfl
    · rw [h1]
      simp_arith [Dl.y_t]
/-- no fault: arches -/
theorem no_fauD (hl : B.length = n) (hr : ∀ p, p < n → B.getD p 0 < n) (h : fauD B n = .non) : Arch n B := by
  unfold fauD at h
  cases q : firstF (pairF B) 0 n with
  | some d =>
    obtain ⟨k, _, _, k3, _⟩ := first_some q
    rw [q] at h
    unfold pairF at k3
    split at k3
    · cases k3
    · cases k3; cases h
  | none =>
    rw [q] at h
    cases p : firstF (crP B) 0 n with
    | some d =>
      obtain ⟨k, _, _, k3, _⟩ := first_some p
      rw [p] at h
      unfold crP at k3
      obtain ⟨i, _, _, i3, _⟩ := first_some k3
      unfold crI at i3
      split at i3
      · cases i3; cases h
      · cases i3
    | none =>
      refine ⟨hl, hr, fun k hk => ?_, fun k j hk h1 h2 => ?_⟩
      · have := first_none q k (Nat.zero_le _) (by omega)
        unfold pairF at this
        split at this
        · assumption
        · cases this
      · have := first_none p k (Nat.zero_le _) (by omega)
        unfold crP at this
        have := first_none this (j - (k + 1)) (Nat.zero_le _) (by omega)
        unfold crI at this
        rw [show k + 1 + (j - (k + 1)) = j by omega] at this
        split at this
        · cases this
        · omega
end
end Lw
/-! Arches: bent ones. -/
namespace Lw
open PySem PySem.Spec PyProof.Rows L2 Dl
local macro_rules | `(tactic| simp_arith [$ls,*]) => `(tactic| simp (disch := (first | omega | assumption | (simp only [decide_eq_true_eq, decide_eq_false_iff_not, Bool.and_eq_true, Bool.or_eq_true, Bool.not_eq_true', Bool.not_eq_false', Bool.and_eq_false_iff, Bool.or_eq_false_iff, List.mem_range, List.length_map, List.length_append, List.length_cons, List.length_nil, rngC_len, rng_len, List.length_range, List.length_reverse, List.length_take, List.length_drop, List.length_set, List.length_replicate] at * <;> omega) | rfl | decide +kernel)) only [e_v0, e_vS, e_vC, e_s0, e_sS, e_op, e_op1, e_op2, e_opx, e_opx2, e_some, e_1, e_11, e_t, e_t1, e_tx, e_tr, e_tr1, e_trx, e_trb, e_trn, e_nt, e_nt1, e_ntx, e_and, e_andt, e_andf, e_andx, e_or, e_ort, e_orf, e_orx, e_va, e_vat, e_vaf, e_vax, e_vo, e_vot, e_vof, e_vox, e_vi, e_vit, e_vif, e_vix, e_vl, e_vl1, e_an, e_ac, e_ac1, e_acx, e_ac2, e_acx2, e_tu, e_tu1, e_tux, e_ls, e_ls1, e_cb, e_cb1, e_cbx, e_ca, e_ca_0, e_ca_1, e_ca_2, e_ca_3, e_ca_4, e_ca_5, e_ca_6, e_cax, e_ch, e_ch1, e_ch2, e_ch3, e_ch4, e_sl, e_sl1, e_slt, e_sll, e_slf, e_st, e_st1, e_os, e_os1, e_on, e_ga, e_ga1, e_gs, e_gst, e_gsl, e_gsf, e_ge, e_get, e_r1i, e_r2i, e_r3, e_lc, e_lc1, e_wp0, e_wp1, e_gn, e_gt, e_gl, e_gc, e_gc1, e_g0, e_seq, e_seqn, e_seqr, e_seqx, e_seqc, e_seqb, e_nop, e_brk, e_cnt, e_rai, e_asg, e_asg1, e_asgx, e_asgO, e_asgO1, e_asgT, e_asgT1, e_asgTx, e_tg, e_par, e_par1, e_par2, e_parO, e_parO1, e_drop, e_drop1, e_dropx, e_ret, e_ret1, e_retx, e_retN, e_if, e_ift, e_iff, e_ifx, e_aug, e_aug1, e_aug2, e_app, e_app1, e_ext, e_ext1, e_si, e_si1, e_si2, e_si3, e_pop, e_pop1, e_for, e_for1, e_whl, e_fl0, e_ft, e_fsn, e_fsc, e_fsb, e_fsr, e_fsx, e_wtt, e_wtf, e_wsn, e_wsc, e_wsb, e_wsr, e_wsx, e_try, e_tryn, e_tryr, e_tryc, e_try1, e_try1n, e_try1r, e_mk, e_mk2, e_mkx, e_mkx1, e_sI, e_iE, e_iF, e_iF1, e_iI, e_iIt, e_iIf, l_fld0, l_fld1, l_fld2, e_tA, e_tAn, e_tAr, e_tAx, e_hA, e_hA0, e_haT, e_haF, e_stA, e_stA1, e_rg, e_rg1, e_U, e_U1, e_run, e_endn, e_endr, e_endx, e_sta1, e_sta2, e_sta3, l_eq, l_ne, l_eqbb, l_nebb, l_lt, l_le, l_gt, l_ge, l_add, l_addt, l_addl, l_sub, l_neg, l_mod, l_fdiv, l_mul, l_mul2, l_fdivX, l_tn, l_btf, l_bft, l_btt, l_bff, l_ct, l_cf, l_iadd, l_not, l_len1, l_len2, l_len3, l_int, l_intb, l_tup1, l_tup2, l_lst1, l_lst2, l_max, l_min, l_ixt0, l_ixt1, l_ixt2, l_ixtl, l_ixl0, l_ixl1, l_ixl2, l_ixll, l_isn_bl, l_inn_bl, l_ty_int_bl, l_ty_bool_bl, l_ty_str_bl, l_ty_tuple_bl, l_ty_list_bl, l_isn_int, l_inn_int, l_ty_int_int, l_ty_bool_int, l_ty_str_int, l_ty_tuple_int, l_ty_list_int, l_isn_str, l_inn_str, l_ty_int_str, l_ty_bool_str, l_ty_str_str, l_ty_tuple_str, l_ty_list_str, l_isn_tup, l_inn_tup, l_ty_int_tup, l_ty_bool_tup, l_ty_str_tup, l_ty_tuple_tup, l_ty_list_tup, l_isn_lst, l_inn_lst, l_ty_int_lst, l_ty_bool_lst, l_ty_str_lst, l_ty_tuple_lst, l_ty_list_lst, l_isn_non, l_inn_non, l_ty_int_non, l_ty_bool_non, l_ty_str_non, l_ty_tuple_non, l_ty_list_non, d_t, d_f, Bool.not_true, Bool.not_false, List.length_map, List.length_append, List.length_cons, List.length_nil, List.nil_append, List.cons_append, if_true, if_false, Bool.false_eq_true, ite_true, ite_false, List.map_cons, List.map_nil, beq_self_eq_true, reduceIte, Bool.true_and, Bool.and_true, Bool.false_and, Bool.and_false, Int.reduceAdd, Int.reduceSub, Int.reduceMul, Int.reduceNeg, Int.reduceMod, Int.reduceDiv, Int.reduceToNat, Nat.reduceAdd, Nat.reduceMul, Nat.reduceSub, Bool.or_true, Bool.true_or, Bool.or_false, Bool.false_or, Int.cast_ofNat_Int, decide_true, decide_false, y_t, y_f, y_same, y_and, y_or, y_va, y_vo, y_vi, y_ch, y_if, y_ii, e_c3, e_c31, e_c32, e_c33, e_me, e_me1, e_me_0, e_me_1, e_me_2, e_me_3, e_me_4, e_pOO, e_pOO1, e_pOO2, e_p3, e_p31, e_p32, e_p33, l_isB, l_isnB, m_bl, m_D, m_I, m_oD, m_rt, c_1, c_2, c_3, c_4, c_5, c_6, s_op, s_op2, s_v1, s_tst, s_tru, s_nt, s_and, s_or, s_va, s_vo, s_vi, s_vl, s_cons, s_cons2, s_tup, s_lst, s_cb, s_ca, s_ch, s_ch2, s_ch3, s_sl, s_sl2, s_sl3, s_os, s_ga, s_gs, s_ge, s_lc, s_seq, s_asg, s_asgO, s_asgT, s_par, s_par2, s_parO, s_drop, s_ret, s_if, s_aug, s_aug2, s_app, s_ext, s_for, s_fs, s_try, s_try1, s_tA, s_c3, s_c32, s_end, s_ofO, s_mk2, s_mv, s_ifld, s_iif, e_m2, e_m2t, e_m2l, o_k, o_t, o_n, s_noE, lc_nil, lc_c1, lc_rngF, lc_map, lc_filN, mapR_ok, filR_ok, lc_cons, lc_rng, allP, anyP, appR_ok, andO_ok, orO_ok, all_0, any_0, lc_app, all_c, any_c, all_a, any_a, l_eqs, l_nes, l_eqt, lit_t, lit_f, notO_ok, in_ti, in_ts, in_li, in_ls, in_t0, in_l0, in_t0s, in_l0s, in_neg, in_tm, in_lm, k_ati, k_atl, k_negi, k_negl, cut_to', cut_off', cut_mid', cut_lst, cut_ofn, cut_ton, cut_map, k_sum, k_suml, all_tr, any_fl, map_tk, map_dr, map_ap, map_rv, not_any, not_all, l_mulX, l_mulX2, l_rep, l_repX, l_repL, l_repLX, e_fcb, e_fcb1, e_fop, e_fop1, e_fop2, e_fr, e_fr1, e_fsl, e_fsl1, e_p2O, e_p2O1, e_p3O, e_p3O1, e_p3O2, e_p3O3, e_geA, e_geA1, e_geA2, e_pO3, e_pO31, e_pO32, e_pO33, csT, csF, lc_consN, e_p2O2, seqF_l, seqF_t, seqF_f, mulF_1, addF_l, sort_int, sort_intT, e_s2, e_s21, e_s22, e_s23, e_s24, e_s25, e_sp, e_sp1, e_sp2, ixN_p, ixN_n, l_abs, e_Ub, e_Us, map_st, map_iN, cp_n, cp_c, cp_r, eq_ints, eq_intsl, ne_ints, ne_intsl, List.drop_succ_cons, List.drop_zero, List.drop_nil, List.take_succ_cons, List.take_zero, List.take_nil, Bool.not_not, Bool.decide_eq_true, decide_eq_true_eq, Bool.not_eq_true, $ls,*])
theorem at_l {k : Nat} {l : List Dat} (h : k < l.length) : ixD (.lst l) (.int (k : Nat)) = some l[k] := by
  show atI l (k : Nat) = _
  unfold atI ixN
  rw [if_pos (by omega), if_pos (by omega), Int.toNat_natCast]
  show l[k]? = _
  exact List.getElem?_eq_getElem h
theorem ixn {m k : Nat} (h : k < m) : ixN m (k : Int) = some k := by
  unfold ixN
  rw [if_pos (by omega), if_pos (by omega), Int.toNat_natCast]
theorem s4_eq {v0 v1 v2 v4 v5 v8 v9 : Option Dat} {L : List Dat} {k j one two : Nat} (h1 : k < L.length) (h2 : j < L.length) (h3 : one < L.length) (h4 : two < L.length) :
    sSetI4 3 (vVar 6) (vVar 11) (vVar 7) (vVar 10) (vVar 11) (vVar 6) (vVar 10) (vVar 7) [v0, v1, v2, some (.lst L), v4, v5, some (.int k), some (.int j), v8, v9, some (.int one), some (.int two)] =
    .nx [v0, v1, v2, some (.lst ((((L.set k (.int two)).set two (.int k)).set j (.int one)).set one (.int j))), v4, v5, some (.int k), some (.int j), v8, v9, some (.int one), some (.int two)] := by
  show sPutG 3 (vVar 6) (.int two) (sPutG 3 (vVar 11) (.int k) (sPutG 3 (vVar 7) (.int one) (sPutG 3 (vVar 10) (.int j) .nx))) [v0, v1, v2, some (.lst L), v4, v5, some (.int k), some (.int j), v8, v9, some (.int one), some (.int two)] = _
  show (match ixN L.length (k : Int) with | some q => sPutG 3 (vVar 11) (.int k) (sPutG 3 (vVar 7) (.int one) (sPutG 3 (vVar 10) (.int j) .nx)) ([v0, v1, v2, some (.lst L), v4, v5, some (.int k), some (.int j), v8, v9, some (.int one), some (.int two)].set 3 (some (.lst (L.set q (.int two))))) | none => .stuck) = _
  rw [ixn h1]
  show (match ixN (L.set k (.int two)).length (two : Int) with | some q => sPutG 3 (vVar 7) (.int one) (sPutG 3 (vVar 10) (.int j) .nx) ([v0, v1, v2, some (.lst (L.set k (.int two))), v4, v5, some (.int k), some (.int j), v8, v9, some (.int one), some (.int two)].set 3 (some (.lst ((L.set k (.int two)).set q (.int k))))) | none => .stuck) = _
  rw [ixn (by rw [List.length_set]; exact h4)]
  show (match ixN ((L.set k (.int two)).set two (.int k)).length (j : Int) with | some q => sPutG 3 (vVar 10) (.int j) .nx ([v0, v1, v2, some (.lst ((L.set k (.int two)).set two (.int k))), v4, v5, some (.int k), some (.int j), v8, v9, some (.int one), some (.int two)].set 3 (some (.lst (((L.set k (.int two)).set two (.int k)).set q (.int one))))) | none => .stuck) = _
  rw [ixn (by rw [List.length_set, List.length_set]; exact h2)]
  show (match ixN (((L.set k (.int two)).set two (.int k)).set j (.int one)).length (one : Int) with | some q => DFlow.nx ([v0, v1, v2, some (.lst (((L.set k (.int two)).set two (.int k)).set j (.int one))), v4, v5, some (.int k), some (.int j), v8, v9, some (.int one), some (.int two)].set 3 (some (.lst ((((L.set k (.int two)).set two (.int k)).set j (.int one)).set q (.int j))))) | none => DFlow.stuck) = _
  rw [ixn (by rw [List.length_set, List.length_set, List.length_set]; exact h3)]
  rfl
def spec (n : Nat) : List Dat := [.int (n : Nat), .int (-1), .bl true, .non, .str "0", .tup [.int 0]]
def Bent (n : Nat) (d : Dat) : Prop := (∃ B : List Nat, d = stD B ∧ B.length = n ∧ ∀ p, p < n → B.getD p 0 < n) ∨ ∃ (B : List Nat) (k : Nat) (s : Dat), d = .tup (((natI B).map .int).set k s) ∧ B.length = n ∧ k < n ∧ (∀ p, p < n → B.getD p 0 < n) ∧ s ∈ spec n
section
variable {n : Nat} {A : List Nat}
theorem set_rng {B : List Nat} {k v : Nat} (hl : B.length = n) (h : ∀ p, p < n → B.getD p 0 < n) (hk : k < n) (hv : v < n) : (B.set k v).length = n ∧ ∀ p, p < n → (B.set k v).getD p 0 < n := by
  refine ⟨by rw [List.length_set]; exact hl, fun p hp => ?_⟩
  rw [getD_setN (by omega)]
  split
  · exact hv
  · exact h p hp
theorem at_lstN {A : List Nat} {j : Nat} {k : Int} (e : k = j) (h : j < A.length) : ixD (.lst ((natI A).map .int)) (.int k) = some (.int (A.getD j 0 : Nat)) := at_st e h
theorem bent_eq {ds : List Int} (hd : ∀ k, 0 ≤ ds.getD k 0) {at0 : Nat} (hl : at0 + 10 ≤ ds.length) (hl2 : ds.length ≤ 1000) (hn : n ≤ 20) (hA : A.length = n) (hr : ∀ p, p < n → A.getD p 0 < n) : ∃ d, D__law_bent [stD A, .lst (ds.map .int), .int at0] = .ok d ∧ Bent n d := by
  have ln : lenD [.tup ((natI A).map .int)] = some (.int (n : Nat)) := by show some (Dat.int (((natI A).map Dat.int).length : Nat)) = _; rw [List.length_map, natI_len, hA]
  have nn := hd
  obtain ⟨c, hc, c3⟩ : ∃ c : Nat, (1 : Int) + ds.getD at0 0 % 3 = (c : Nat) ∧ c ≤ 3 := ⟨((1 : Int) + ds.getD at0 0 % 3).toNat, by omega, by omega⟩
  have t0 : ((at0 : Nat) : Int).toNat = at0 := by omega
  unfold stD
  simp_arith [D__law_bent, F__law_bent, ln, t0, hc]
  generalize hF : forL _ _ _ _ = rr
  rcases forL_or' hF (fun _ ρ => ∃ (B : List Nat) (x5 x6 x7 x8 x9 x10 x11 : Option Dat), ρ = [some (.tup ((natI A).map .int)), some (.lst (ds.map .int)), some (.int (at0 : Nat)), some (.lst ((natI B).map .int)), some (.int (n : Nat)), x5, x6, x7, x8, x9, x10, x11] ∧ B.length = n ∧ ∀ p, p < n → B.getD p 0 < n) (fun d => Bent n d) ⟨A, none, none, none, none, none, none, none, rfl, hA, hr⟩ fun t d ρ hk ⟨B, x5, x6, x7, x8, x9, x10, x11, hρ, hB, hrB⟩ => by
      subst hρ
      obtain ⟨ht, rfl⟩ := rng_get0 hk
      refine ⟨_, rfl, ?_⟩
      by_cases n1 : 1 < n
      · have n1' : (1 : Int) < (n : Int) := by omega
        have md : ∀ i : Nat, ∃ q : Nat, ds.getD i 0 % (n : Int) = (q : Nat) ∧ q < n := fun i => ⟨(ds.getD i 0 % (n : Int)).toNat, by have := Int.emod_nonneg (ds.getD i 0) (b := (n : Int)) (by omega); omega, by have := Int.emod_nonneg (ds.getD i 0) (b := (n : Int)) (by omega); have := Int.emod_lt_of_pos (ds.getD i 0) (b := (n : Int)) (by omega); omega⟩
        obtain ⟨k, ek, kn⟩ := md (at0 + 1 + t)
        obtain ⟨j, ej, jn⟩ := md (at0 + 4 + t)
        obtain ⟨w, ew, w5⟩ : ∃ w : Nat, ds.getD (at0 + 7 + t) 0 % 5 = (w : Nat) ∧ w < 5 := ⟨(ds.getD (at0 + 7 + t) 0 % 5).toNat, by have := nn (at0 + 7 + t); omega, by omega⟩
        have z1 : ((at0 : Int) + 1 + (t : Int)).toNat = at0 + 1 + t := by omega
        have z2 : ((at0 : Int) + 4 + (t : Int)).toNat = at0 + 4 + t := by omega
        have z3 : ((at0 : Int) + 7 + (t : Int)).toNat = at0 + 7 + t := by omega
        have ak := at_lstN (A := B) (j := k) (k := (k : Nat)) rfl (by omega)
        have aj := at_lstN (A := B) (j := j) (k := (j : Nat)) rfl (by omega)
        have on := hrB k kn
        have tw := hrB j jn
        have wl : ((natI B).map Dat.int).length = n := by rw [List.length_map, natI_len, hB]
        generalize hone : B.getD k 0 = one at *
        generalize htwo : B.getD j 0 = two at *
        have fin : ∀ (B' : List Nat) (F : DEnv → DFlow) (ρ : DEnv) (x6 x7 x8 x9 x10 x11 : Option Dat), B'.length = n ∧ (∀ p, p < n → B'.getD p 0 < n) → F ρ = .nx [some (.tup ((natI A).map .int)), some (.lst (ds.map .int)), some (.int (at0 : Nat)), some (.lst ((natI B').map .int)), some (.int (n : Nat)), some (.int (t : Nat)), x6, x7, x8, x9, x10, x11] → (∃ x, F ρ = .rt x ∧ Bent n x) ∨ ∃ ρ2, (F ρ = .nx ρ2 ∨ F ρ = .ct ρ2) ∧ ∃ (B : List Nat) (x5 x6 x7 x8 x9 x10 x11 : Option Dat), ρ2 = [some (.tup ((natI A).map .int)), some (.lst (ds.map .int)), some (.int (at0 : Nat)), some (.lst ((natI B).map .int)), some (.int (n : Nat)), x5, x6, x7, x8, x9, x10, x11] ∧ B.length = n ∧ ∀ p, p < n → B.getD p 0 < n :=
          fun B' F ρ x6 x7 x8 x9 x10 x11 h e => .inr ⟨_, .inl e, B', _, _, _, _, _, _, _, rfl, h.1, h.2⟩
        have no : ∀ m : Nat, w = m → ∀ m2 : Nat, m ≠ m2 → ¬ (w : Int) = (m2 : Int) := fun m h m2 h2 => by omega
        rcases (show w = 0 ∨ w = 1 ∨ w = 2 ∨ w = 3 ∨ w = 4 by omega) with rfl | rfl | rfl | rfl | rfl
        · have S1 := set_rng hB hrB kn kn
          have S2 := set_rng S1.1 S1.2 on on
          refine fin ((B.set k k).set one one) _ _ (some (.int k)) (some (.int j)) (some (.int (0 : Nat))) (some (.int one)) x10 x11 S2 ?_
          rw [← set_nat, ← set_nat]
          generalize (natI B).map Dat.int = W at *
          simp_arith [n1', z1, z2, z3, ek, ej, ew, ak, aj]
        · by_cases q1 : one = k
          · have q1' : (one : Int) = (k : Int) := by omega
            refine fin B _ _ (some (.int k)) (some (.int j)) (some (.int (1 : Nat))) x9 x10 x11 ⟨hB, hrB⟩ ?_
            generalize (natI B).map Dat.int = W at *
            simp_arith [n1', z1, z2, z3, ek, ej, ew, ak, aj, q1']
          · have q1' : ¬ (one : Int) = (k : Int) := by omega
            by_cases q2 : two = j
            · have q2' : (two : Int) = (j : Int) := by omega
              refine fin B _ _ (some (.int k)) (some (.int j)) (some (.int (1 : Nat))) x9 x10 x11 ⟨hB, hrB⟩ ?_
              generalize (natI B).map Dat.int = W at *
              simp_arith [n1', z1, z2, z3, ek, ej, ew, ak, aj, q1', q2']
            · have q2' : ¬ (two : Int) = (j : Int) := by omega
              obtain ⟨c, hc⟩ : ∃ c : Nat, lsetD [.lst [.int (k : Nat), .int (j : Nat), .int (one : Nat), .int (two : Nat)]] = some (.int (c : Nat)) := ⟨_, rfl⟩
              by_cases q3 : c = 4
              · have q3' : (c : Int) = 4 := by omega
                have S1 := set_rng hB hrB kn tw
                have S2 := set_rng S1.1 S1.2 tw kn
                have S3 := set_rng S2.1 S2.2 jn on
                have S4 := set_rng S3.1 S3.2 on jn
                refine fin ((((B.set k two).set two k).set j one).set one j) _ _ (some (.int k)) (some (.int j)) (some (.int (1 : Nat))) x9 (some (.int one)) (some (.int two)) S4 ?_
                rw [← set_nat, ← set_nat, ← set_nat, ← set_nat]
                generalize (natI B).map Dat.int = W at *
                have s4 := fun (v0 v1 v2 v4 v5 v8 v9 : Option Dat) => s4_eq (v0 := v0) (v1 := v1) (v2 := v2) (v4 := v4) (v5 := v5) (v8 := v8) (v9 := v9) (L := W) (k := k) (j := j) (one := one) (two := two) (by omega) (by omega) (by omega) (by omega)
                simp_arith [n1', z1, z2, z3, ek, ej, ew, ak, aj, q1', q2', hc, q3', s4]
              · have q3' : ¬ (c : Int) = 4 := by omega
                refine fin B _ _ (some (.int k)) (some (.int j)) (some (.int (1 : Nat))) x9 x10 x11 ⟨hB, hrB⟩ ?_
                generalize (natI B).map Dat.int = W at *
                simp_arith [n1', z1, z2, z3, ek, ej, ew, ak, aj, q1', q2', hc, q3']
        · refine fin (B.set k j) _ _ (some (.int k)) (some (.int j)) (some (.int (2 : Nat))) x9 x10 x11 (set_rng hB hrB kn jn) ?_
          rw [← set_nat]
          generalize (natI B).map Dat.int = W at *
          simp_arith [n1', z1, z2, z3, ek, ej, ew]
        · obtain ⟨q, eq, q6⟩ : ∃ q : Nat, ds.getD at0 0 / 3 % 6 = (q : Nat) ∧ q < (spec n).length := ⟨(ds.getD at0 0 / 3 % 6).toNat, by omega, by show _ < 6; omega⟩
          have sp := at_l q6
          have ms := List.getElem_mem q6
          generalize (spec n)[q] = s at *
          unfold spec at sp
          refine .inl ⟨.tup (((natI B).map .int).set k s), ?_, .inr ⟨B, k, s, rfl, hB, kn, hrB, ms⟩⟩
          generalize (natI B).map Dat.int = W at *
          simp_arith [n1', z1, z2, z3, t0, ek, ej, ew, eq, sp]
        · refine fin B _ _ (some (.int k)) (some (.int j)) (some (.int (4 : Nat))) x9 x10 x11 ⟨hB, hrB⟩ ?_
          generalize (natI B).map Dat.int = W at *
          simp_arith [n1', z1, z2, z3, ek, ej, ew]
      · have n1' : ¬ (1 : Int) < (n : Int) := by omega
        exact .inr ⟨_, .inl (by simp_arith [n1']; rfl), B, _, _, _, _, _, _, _, rfl, hB, hrB⟩
    with ⟨d, rfl, h⟩ | ⟨ρ, rfl, B, x5, x6, x7, x8, x9, x10, x11, rfl, hB, hrB⟩
  · exact ⟨d, rfl, h⟩
  · exact ⟨stD B, by simp_arith [Dl.y_t]; rfl, .inl ⟨B, rfl, hB, hrB⟩⟩
end
end Lw
/-! Arches: all over up to eight points. -/
namespace Lw
open PySem PySem.Spec PyProof.Rows L2 Dl
def EV0 : List (List Nat) := [[]]
theorem aa0 : D_all_arches [.int 0] = .ok (.lst (EV0.map stD)) := by kernel_rfl
theorem le0 : D__law_every [.int 0] = .ok (.lst (EV0.map stD)) := by kernel_rfl
theorem nu0 : ∀ k, k < EV0.length → D_arches_number [stD (EV0.getD k [])] = .ok (.int (k : Nat)) ∧ D_arches_at [.int 0, .int (k : Nat)] = .ok (stD (EV0.getD k []))
  | 0, _ => ⟨by kernel_rfl, by kernel_rfl⟩
  | k + 1, h => by
    have h : k + 1 < 1 := h
    omega
def EV2 : List (List Nat) := [[1, 0]]
theorem aa2 : D_all_arches [.int 2] = .ok (.lst (EV2.map stD)) := by kernel_rfl
theorem le2 : D__law_every [.int 2] = .ok (.lst (EV2.map stD)) := by kernel_rfl
theorem nu2 : ∀ k, k < EV2.length → D_arches_number [stD (EV2.getD k [])] = .ok (.int (k : Nat)) ∧ D_arches_at [.int 2, .int (k : Nat)] = .ok (stD (EV2.getD k []))
  | 0, _ => ⟨by kernel_rfl, by kernel_rfl⟩
  | k + 1, h => by
    have h : k + 1 < 1 := h
    omega
def EV4 : List (List Nat) := [[1, 0, 3, 2], [3, 2, 1, 0]]
theorem aa4 : D_all_arches [.int 4] = .ok (.lst (EV4.map stD)) := by kernel_rfl
theorem le4 : D__law_every [.int 4] = .ok (.lst (EV4.map stD)) := by kernel_rfl
theorem nu4 : ∀ k, k < EV4.length → D_arches_number [stD (EV4.getD k [])] = .ok (.int (k : Nat)) ∧ D_arches_at [.int 4, .int (k : Nat)] = .ok (stD (EV4.getD k []))
  | 0, _ => ⟨by kernel_rfl, by kernel_rfl⟩
  | 1, _ => ⟨by kernel_rfl, by kernel_rfl⟩
  | k + 2, h => by
    have h : k + 2 < 2 := h
    omega
def EV6 : List (List Nat) := [[1, 0, 3, 2, 5, 4], [1, 0, 5, 4, 3, 2], [3, 2, 1, 0, 5, 4], [5, 2, 1, 4, 3, 0], [5, 4, 3, 2, 1, 0]]
theorem aa6 : D_all_arches [.int 6] = .ok (.lst (EV6.map stD)) := by kernel_rfl
theorem le6 : D__law_every [.int 6] = .ok (.lst (EV6.map stD)) := by kernel_rfl
theorem nu6 : ∀ k, k < EV6.length → D_arches_number [stD (EV6.getD k [])] = .ok (.int (k : Nat)) ∧ D_arches_at [.int 6, .int (k : Nat)] = .ok (stD (EV6.getD k []))
  | 0, _ => ⟨by kernel_rfl, by kernel_rfl⟩
  | 1, _ => ⟨by kernel_rfl, by kernel_rfl⟩
  | 2, _ => ⟨by kernel_rfl, by kernel_rfl⟩
  | 3, _ => ⟨by kernel_rfl, by kernel_rfl⟩
  | 4, _ => ⟨by kernel_rfl, by kernel_rfl⟩
  | k + 5, h => by
    have h : k + 5 < 5 := h
    omega
def EV8 : List (List Nat) := [[1, 0, 3, 2, 5, 4, 7, 6], [1, 0, 3, 2, 7, 6, 5, 4], [1, 0, 5, 4, 3, 2, 7, 6], [1, 0, 7, 4, 3, 6, 5, 2], [1, 0, 7, 6, 5, 4, 3, 2], [3, 2, 1, 0, 5, 4, 7, 6], [3, 2, 1, 0, 7, 6, 5, 4], [5, 2, 1, 4, 3, 0, 7, 6], [5, 4, 3, 2, 1, 0, 7, 6], [7, 2, 1, 4, 3, 6, 5, 0], [7, 2, 1, 6, 5, 4, 3, 0], [7, 4, 3, 2, 1, 6, 5, 0], [7, 6, 3, 2, 5, 4, 1, 0], [7, 6, 5, 4, 3, 2, 1, 0]]
theorem aa8 : D_all_arches [.int 8] = .ok (.lst (EV8.map stD)) := by kernel_rfl
theorem le8 : D__law_every [.int 8] = .ok (.lst (EV8.map stD)) := by kernel_rfl
theorem nu8 : ∀ k, k < EV8.length → D_arches_number [stD (EV8.getD k [])] = .ok (.int (k : Nat)) ∧ D_arches_at [.int 8, .int (k : Nat)] = .ok (stD (EV8.getD k []))
  | 0, _ => ⟨by kernel_rfl, by kernel_rfl⟩
  | 1, _ => ⟨by kernel_rfl, by kernel_rfl⟩
  | 2, _ => ⟨by kernel_rfl, by kernel_rfl⟩
  | 3, _ => ⟨by kernel_rfl, by kernel_rfl⟩
  | 4, _ => ⟨by kernel_rfl, by kernel_rfl⟩
  | 5, _ => ⟨by kernel_rfl, by kernel_rfl⟩
  | 6, _ => ⟨by kernel_rfl, by kernel_rfl⟩
  | 7, _ => ⟨by kernel_rfl, by kernel_rfl⟩
  | 8, _ => ⟨by kernel_rfl, by kernel_rfl⟩
  | 9, _ => ⟨by kernel_rfl, by kernel_rfl⟩
  | 10, _ => ⟨by kernel_rfl, by kernel_rfl⟩
  | 11, _ => ⟨by kernel_rfl, by kernel_rfl⟩
  | 12, _ => ⟨by kernel_rfl, by kernel_rfl⟩
  | 13, _ => ⟨by kernel_rfl, by kernel_rfl⟩
  | k + 14, h => by
    have h : k + 14 < 14 := h
    omega
def Pack (n : Nat) (E : List (List Nat)) : Prop := D_all_arches [.int (n : Nat)] = .ok (.lst (E.map stD)) ∧ D__law_every [.int (n : Nat)] = .ok (.lst (E.map stD)) ∧ (∀ k, k < E.length → D_arches_number [stD (E.getD k [])] = .ok (.int (k : Nat)) ∧ D_arches_at [.int (n : Nat), .int (k : Nat)] = .ok (stD (E.getD k []))) ∧ E.length ≤ 14 ∧ 1 ≤ E.length ∧ E.length = wy (n / 2)
theorem packs : ∀ h, h ≤ 4 → ∃ E, Pack (2 * h) E
  | 0, _ => ⟨EV0, aa0, le0, nu0, by decide, by decide, by decide⟩
  | 1, _ => ⟨EV2, aa2, le2, nu2, by decide, by decide, by decide⟩
  | 2, _ => ⟨EV4, aa4, le4, nu4, by decide, by decide, by decide⟩
  | 3, _ => ⟨EV6, aa6, le6, nu6, by decide, by decide, by decide⟩
  | 4, _ => ⟨EV8, aa8, le8, nu8, by decide, by decide, by decide⟩
  | h + 5, q => by omega
end Lw
/-! Arches: what is told of bent ones. -/
namespace Lw
open PySem PySem.Spec PyProof.Rows L2 Dl
local macro_rules | `(tactic| simp_arith [$ls,*]) => `(tactic| simp (disch := (first | omega | assumption | (simp only [decide_eq_true_eq, decide_eq_false_iff_not, Bool.and_eq_true, Bool.or_eq_true, Bool.not_eq_true', Bool.not_eq_false', Bool.and_eq_false_iff, Bool.or_eq_false_iff, List.mem_range, List.length_map, List.length_append, List.length_cons, List.length_nil, rngC_len, rng_len, List.length_range, List.length_reverse, List.length_take, List.length_drop, List.length_set, List.length_replicate] at * <;> omega) | rfl | decide +kernel)) only [e_v0, e_vS, e_vC, e_s0, e_sS, e_op, e_op1, e_op2, e_opx, e_opx2, e_some, e_1, e_11, e_t, e_t1, e_tx, e_tr, e_tr1, e_trx, e_trb, e_trn, e_nt, e_nt1, e_ntx, e_and, e_andt, e_andf, e_andx, e_or, e_ort, e_orf, e_orx, e_va, e_vat, e_vaf, e_vax, e_vo, e_vot, e_vof, e_vox, e_vi, e_vit, e_vif, e_vix, e_vl, e_vl1, e_an, e_ac, e_ac1, e_acx, e_ac2, e_acx2, e_tu, e_tu1, e_tux, e_ls, e_ls1, e_cb, e_cb1, e_cbx, e_ca, e_ca_0, e_ca_1, e_ca_2, e_ca_3, e_ca_4, e_ca_5, e_ca_6, e_cax, e_ch, e_ch1, e_ch2, e_ch3, e_ch4, e_sl, e_sl1, e_slt, e_sll, e_slf, e_st, e_st1, e_os, e_os1, e_on, e_ga, e_ga1, e_gs, e_gst, e_gsl, e_gsf, e_ge, e_get, e_r1i, e_r2i, e_r3, e_lc, e_lc1, e_wp0, e_wp1, e_gn, e_gt, e_gl, e_gc, e_gc1, e_g0, e_seq, e_seqn, e_seqr, e_seqx, e_seqc, e_seqb, e_nop, e_brk, e_cnt, e_rai, e_asg, e_asg1, e_asgx, e_asgO, e_asgO1, e_asgT, e_asgT1, e_asgTx, e_tg, e_par, e_par1, e_par2, e_parO, e_parO1, e_drop, e_drop1, e_dropx, e_ret, e_ret1, e_retx, e_retN, e_if, e_ift, e_iff, e_ifx, e_aug, e_aug1, e_aug2, e_app, e_app1, e_ext, e_ext1, e_si, e_si1, e_si2, e_si3, e_pop, e_pop1, e_for, e_for1, e_whl, e_fl0, e_ft, e_fsn, e_fsc, e_fsb, e_fsr, e_fsx, e_wtt, e_wtf, e_wsn, e_wsc, e_wsb, e_wsr, e_wsx, e_try, e_tryn, e_tryr, e_tryc, e_try1, e_try1n, e_try1r, e_mk, e_mk2, e_mkx, e_mkx1, e_sI, e_iE, e_iF, e_iF1, e_iI, e_iIt, e_iIf, l_fld0, l_fld1, l_fld2, e_tA, e_tAn, e_tAr, e_tAx, e_hA, e_hA0, e_haT, e_haF, e_stA, e_stA1, e_rg, e_rg1, e_U, e_U1, e_run, e_endn, e_endr, e_endx, e_sta1, e_sta2, e_sta3, l_eq, l_ne, l_eqbb, l_nebb, l_lt, l_le, l_gt, l_ge, l_add, l_addt, l_addl, l_sub, l_neg, l_mod, l_fdiv, l_mul, l_mul2, l_fdivX, l_tn, l_btf, l_bft, l_btt, l_bff, l_ct, l_cf, l_iadd, l_not, l_len1, l_len2, l_len3, l_int, l_intb, l_tup1, l_tup2, l_lst1, l_lst2, l_max, l_min, l_ixt0, l_ixt1, l_ixt2, l_ixtl, l_ixl0, l_ixl1, l_ixl2, l_ixll, l_isn_bl, l_inn_bl, l_ty_int_bl, l_ty_bool_bl, l_ty_str_bl, l_ty_tuple_bl, l_ty_list_bl, l_isn_int, l_inn_int, l_ty_int_int, l_ty_bool_int, l_ty_str_int, l_ty_tuple_int, l_ty_list_int, l_isn_str, l_inn_str, l_ty_int_str, l_ty_bool_str, l_ty_str_str, l_ty_tuple_str, l_ty_list_str, l_isn_tup, l_inn_tup, l_ty_int_tup, l_ty_bool_tup, l_ty_str_tup, l_ty_tuple_tup, l_ty_list_tup, l_isn_lst, l_inn_lst, l_ty_int_lst, l_ty_bool_lst, l_ty_str_lst, l_ty_tuple_lst, l_ty_list_lst, l_isn_non, l_inn_non, l_ty_int_non, l_ty_bool_non, l_ty_str_non, l_ty_tuple_non, l_ty_list_non, d_t, d_f, Bool.not_true, Bool.not_false, List.length_map, List.length_append, List.length_cons, List.length_nil, List.nil_append, List.cons_append, if_true, if_false, Bool.false_eq_true, ite_true, ite_false, List.map_cons, List.map_nil, beq_self_eq_true, reduceIte, Bool.true_and, Bool.and_true, Bool.false_and, Bool.and_false, Int.reduceAdd, Int.reduceSub, Int.reduceMul, Int.reduceNeg, Int.reduceMod, Int.reduceDiv, Int.reduceToNat, Nat.reduceAdd, Nat.reduceMul, Nat.reduceSub, Bool.or_true, Bool.true_or, Bool.or_false, Bool.false_or, Int.cast_ofNat_Int, decide_true, decide_false, y_t, y_f, y_same, y_and, y_or, y_va, y_vo, y_vi, y_ch, y_if, y_ii, e_c3, e_c31, e_c32, e_c33, e_me, e_me1, e_me_0, e_me_1, e_me_2, e_me_3, e_me_4, e_pOO, e_pOO1, e_pOO2, e_p3, e_p31, e_p32, e_p33, l_isB, l_isnB, m_bl, m_D, m_I, m_oD, m_rt, c_1, c_2, c_3, c_4, c_5, c_6, s_op, s_op2, s_v1, s_tst, s_tru, s_nt, s_and, s_or, s_va, s_vo, s_vi, s_vl, s_cons, s_cons2, s_tup, s_lst, s_cb, s_ca, s_ch, s_ch2, s_ch3, s_sl, s_sl2, s_sl3, s_os, s_ga, s_gs, s_ge, s_lc, s_seq, s_asg, s_asgO, s_asgT, s_par, s_par2, s_parO, s_drop, s_ret, s_if, s_aug, s_aug2, s_app, s_ext, s_for, s_fs, s_try, s_try1, s_tA, s_c3, s_c32, s_end, s_ofO, s_mk2, s_mv, s_ifld, s_iif, e_m2, e_m2t, e_m2l, o_k, o_t, o_n, s_noE, lc_nil, lc_c1, lc_rngF, lc_map, lc_filN, mapR_ok, filR_ok, lc_cons, lc_rng, allP, anyP, appR_ok, andO_ok, orO_ok, all_0, any_0, lc_app, all_c, any_c, all_a, any_a, l_eqs, l_nes, l_eqt, lit_t, lit_f, notO_ok, in_ti, in_ts, in_li, in_ls, in_t0, in_l0, in_t0s, in_l0s, in_neg, in_tm, in_lm, k_ati, k_atl, k_negi, k_negl, cut_to', cut_off', cut_mid', cut_lst, cut_ofn, cut_ton, cut_map, k_sum, k_suml, all_tr, any_fl, map_tk, map_dr, map_ap, map_rv, not_any, not_all, l_mulX, l_mulX2, l_rep, l_repX, l_repL, l_repLX, e_fcb, e_fcb1, e_fop, e_fop1, e_fop2, e_fr, e_fr1, e_fsl, e_fsl1, e_p2O, e_p2O1, e_p3O, e_p3O1, e_p3O2, e_p3O3, e_geA, e_geA1, e_geA2, e_pO3, e_pO31, e_pO32, e_pO33, csT, csF, lc_consN, e_p2O2, seqF_l, seqF_t, seqF_f, mulF_1, addF_l, sort_int, sort_intT, e_s2, e_s21, e_s22, e_s23, e_s24, e_s25, e_sp, e_sp1, e_sp2, ixN_p, ixN_n, l_abs, e_Ub, e_Us, map_st, map_iN, cp_n, cp_c, cp_r, eq_ints, eq_intsl, ne_ints, ne_intsl, List.drop_succ_cons, List.drop_zero, List.drop_nil, List.take_succ_cons, List.take_zero, List.take_nil, Bool.not_not, Bool.decide_eq_true, decide_eq_true_eq, Bool.not_eq_true, $ls,*])
def formD : Dat := .tup [.str "form"]
theorem same_non : D__law_same [.non, .non] = .ok (.bl true) := by kernel_rfl
theorem same_form : D__law_same [formD, formD] = .ok (.bl true) := by kernel_rfl
theorem same_pair (k : Nat) : D__law_same [.tup [.str "pair", .int (k : Nat)], .tup [.str "pair", .int (k : Nat)]] = .ok (.bl true) := by
  have e : eqD (.tup [.str "pair", .int (k : Nat)]) (.tup [.str "pair", .int (k : Nat)]) = some (.bl true) := eq_refl (by kernel_rfl)
  have isN : isND (.tup [.str "pair", .int (k : Nat)]) .non = some (.bl false) := rfl
  simp_arith [D__law_same, F__law_same, e, isN]
theorem same_cr (k j : Nat) : D__law_same [.tup [.str "crossing", .int (k : Nat), .int (j : Nat)], .tup [.str "crossing", .int (k : Nat), .int (j : Nat)]] = .ok (.bl true) := by
  have e : eqD (.tup [.str "crossing", .int (k : Nat), .int (j : Nat)]) (.tup [.str "crossing", .int (k : Nat), .int (j : Nat)]) = some (.bl true) := eq_refl (by kernel_rfl)
  have isN : isND (.tup [.str "crossing", .int (k : Nat), .int (j : Nat)]) .non = some (.bl false) := rfl
  simp_arith [D__law_same, F__law_same, e, isN]
theorem fau_cases (B : List Nat) (n : Nat) : fauD B n = .non ∨ ∃ l, fauD B n = .tup l ∧ D__law_same [.tup l, .tup l] = .ok (.bl true) := by
  unfold fauD
  cases q : firstF (pairF B) 0 n with
  | some d =>
    obtain ⟨k, _, _, k3, _⟩ := first_some q
    unfold pairF at k3
    split at k3
    · cases k3
    · cases k3
      exact .inr ⟨_, rfl, same_pair k⟩
  | none =>
    cases p : firstF (crP B) 0 n with
    | some d =>
      obtain ⟨k, _, _, k3, _⟩ := first_some p
      unfold crP at k3
      obtain ⟨i, _, _, i3, _⟩ := first_some k3
      unfold crI at i3
      split at i3
      · cases i3
        exact .inr ⟨_, rfl, same_cr k _⟩
      · cases i3
    | none => exact .inl rfl
theorem none_of {d : Dat} {l : List Dat} (h : D_arches_fault [d] = .ok (.tup l)) : D_arches_number [d] = .ok .non := by
  have isN : isND (.tup l) .non = some (.bl false) := rfl
  have fe : D_is_full [d] = .ok (.bl false) := by simp_arith [D_is_full, F_is_full, h, isN]
  simp_arith [D_arches_number, F_arches_number, fe]
structure Told (d f : Dat) : Prop where
  a : D_arches_fault [d] = .ok f
  b : D__law_fault [d] = .ok f
  s : D__law_same [f, f] = .ok (.bl true)
section
variable {n : Nat} {B : List Nat}
theorem not_full (hB : Arch n B) (hn : n ≤ 20) (h : ¬ Full n B) : D_arches_number [stD B] = .ok .non := by
  have nf := no_fault hB hn
  have nn : isND .non .non = some (.bl true) := rfl
  have an : ((List.range n).any fun (p : Nat) => decide ((p : Int) = ((B.getD p 0 : Nat) : Int))) = true := by
    cases q : (List.range n).any fun (p : Nat) => decide ((p : Int) = ((B.getD p 0 : Nat) : Int)) with
    | true => rfl
    | false =>
      refine absurd (fun p hp e => ?_) h
      have := List.any_eq_false.mp q p (List.mem_range.mpr hp)
      rw [decide_eq_true_iff] at this
      exact this (by omega)
  have nm : numF 0 ((natI B).map Dat.int) = (List.range n).map fun p => Dat.tup [.int (p : Nat), .int (B.getD p 0 : Nat)] := by
    apply List.ext_getElem?
    intro k
    rw [numF_get, List.getElem?_map]
    unfold natI
    rw [List.getElem?_map, List.getElem?_map]
    by_cases c : k < n
    · have e : B.getD k 0 = B[k]'(by rw [hB.len]; exact c) := by rw [List.getD_eq_getElem?_getD, List.getElem?_eq_getElem (by rw [hB.len]; exact c)]; rfl
      rw [List.getElem?_range c, List.getElem?_eq_getElem (by rw [hB.len]; exact c), Nat.zero_add]
      show _ = some (Dat.tup [Dat.int (k : Nat), Dat.int (B.getD k 0 : Nat)])
      rw [e]
      rfl
    · rw [List.getElem?_eq_none (l := List.range n) (by rw [List.length_range]; omega), List.getElem?_eq_none (l := B) (by rw [hB.len]; omega)]
      rfl
  have ge : geAK (.ok (stD B)) = .ok ((List.range n).map fun p => Dat.tup [.int (p : Nat), .int (B.getD p 0 : Nat)]) := by
    rw [← nm, ← num_from]
    rfl
  have fe : D_is_full [stD B] = .ok (.bl false) := by simp_arith [D_is_full, F_is_full, nf, nn, ge, an]
  generalize stD B = SB at *
  simp_arith [D_arches_number, F_arches_number, fe]
theorem set_ints {k : Nat} {z : Int} : ((natI B).map Dat.int).set k (.int z) = ((natI B).set k z).map .int := by rw [List.map_set]
/-- a number that is out of range -/
theorem out_form {k : Nat} {z : Int} (hB : B.length = n) (hk : k < n) (hn : n ≤ 20) (hz : z < 0 ∨ (n : Int) ≤ z) : Told (.tup (((natI B).map .int).set k (.int z))) formD := by
  rw [set_ints]
  have hW : ((natI B).set k z).length = n := by rw [List.length_set, natI_len, hB]
  have mz : z ∈ (natI B).set k z := by
    refine List.mem_iff_getElem.mpr ⟨k, by omega, ?_⟩
    rw [List.getElem_set_self]
  generalize (natI B).set k z = W at *
  have ln : lenD [.tup (W.map .int)] = some (.int (n : Nat)) := by show some (Dat.int ((W.map Dat.int).length : Nat)) = _; rw [List.length_map, hW]
  have w : (W.all fun a => isW 0 ((n : Int) - 1) (Dat.int a)) = false := by
    cases q : W.all fun a => isW 0 ((n : Int) - 1) (Dat.int a) with
    | false => rfl
    | true =>
      have := List.all_eq_true.mp q z mz
      rw [isW_no (by omega)] at this
      cases this
  have w1 : (W.all fun _ => true) = true := List.all_eq_true.mpr fun _ _ => rfl
  have w2 : (W.any fun a => decide (a < 0) || decide ((n : Int) ≤ a)) = true := List.any_eq_true.mpr ⟨z, mz, by rw [Bool.or_eq_true, decide_eq_true_iff, decide_eq_true_iff]; exact hz⟩
  refine ⟨?_, ?_, same_form⟩
  · simp_arith [D_arches_fault, F_arches_fault, isx_t, ln, whole_int, w]
    rfl
  · simp_arith [D__law_fault, F__law_fault, ln, w1, w2]
    rfl
def isI : Dat → Bool
  | .int _ => true
  | .bl _ => true
  | _ => false
def isB : Dat → Bool
  | .bl _ => true
  | _ => false
theorem isi_i {d : Dat} (h : simD d = true) : isiD "int" d = some (.bl (isI d)) := by cases d <;> first | rfl | cases h
theorem isi_b {d : Dat} (h : simD d = true) : isiD "bool" d = some (.bl (isB d)) := by cases d <;> first | rfl | cases h
/-- a value that is no number -/
theorem odd_form {k : Nat} {s : Dat} (hB : B.length = n) (hk : k < n) (hn : n ≤ 20) (hs : simD s = true) (hi : (isI s && !isB s) = false) (hw : isW 0 ((n : Int) - 1) s = false) : Told (.tup (((natI B).map .int).set k s)) formD := by
  have hW : (((natI B).map Dat.int).set k s).length = n := by rw [List.length_set, List.length_map, natI_len, hB]
  have mz : s ∈ ((natI B).map Dat.int).set k s := by
    refine List.mem_iff_getElem.mpr ⟨k, by omega, ?_⟩
    rw [List.getElem_set_self]
  have sm : ∀ d ∈ ((natI B).map Dat.int).set k s, simD d = true := fun d hd => by
    rcases List.mem_or_eq_of_mem_set hd with h | rfl
    · obtain ⟨x, _, rfl⟩ := List.mem_map.mp h
      rfl
    · exact hs
  generalize ((natI B).map Dat.int).set k s = L at *
  obtain ⟨g, hg⟩ : ∃ g : Dat → Dat, ∀ d, g d = d := ⟨fun d => d, fun _ => rfl⟩
  have eL : L = L.map g := by
    have : g = id := funext hg
    rw [this, List.map_id]
  have ln : lenD [.tup (L.map g)] = some (.int (n : Nat)) := by show some (Dat.int ((L.map g).length : Nat)) = _; rw [List.length_map, hW]
  have wh : ∀ d ∈ L, D_is_whole [g d, .int 0, .int ((n : Int) - 1)] = .ok (.bl (isW 0 ((n : Int) - 1) d)) := fun d hd => by rw [hg]; exact whole_any _ _ (sm d hd)
  have i1 : ∀ d ∈ L, isiD "int" (g d) = some (.bl (isI d)) := fun d hd => by rw [hg]; exact isi_i (sm d hd)
  have i2 : ∀ d ∈ L, isiD "bool" (g d) = some (.bl (isB d)) := fun d hd => by rw [hg]; exact isi_b (sm d hd)
  have w : (L.all fun d => isW 0 ((n : Int) - 1) d) = false := by
    cases q : L.all fun d => isW 0 ((n : Int) - 1) d with
    | false => rfl
    | true =>
      have := List.all_eq_true.mp q s mz
      rw [hw] at this
      cases this
  have w1 : (L.all fun d => isI d && !isB d) = false := by
    cases q : L.all fun d => isI d && !isB d with
    | false => rfl
    | true =>
      have := List.all_eq_true.mp q s mz
      rw [hi] at this
      cases this
  rw [eL]
  refine ⟨?_, ?_, same_form⟩
  · simp_arith [D_arches_fault, F_arches_fault, isx_t, ln, wh, w]
    rfl
  · simp_arith [D__law_fault, F__law_fault, ln, i1, i2, w1]
    rfl
end
end Lw
/-! Arches: the law. -/
namespace Lw
open PySem PySem.Spec PyProof.Rows L2 Dl
local macro_rules | `(tactic| simp_arith [$ls,*]) => `(tactic| simp (disch := (first | omega | assumption | (simp only [decide_eq_true_eq, decide_eq_false_iff_not, Bool.and_eq_true, Bool.or_eq_true, Bool.not_eq_true', Bool.not_eq_false', Bool.and_eq_false_iff, Bool.or_eq_false_iff, List.mem_range, List.length_map, List.length_append, List.length_cons, List.length_nil, rngC_len, rng_len, List.length_range, List.length_reverse, List.length_take, List.length_drop, List.length_set, List.length_replicate] at * <;> omega) | rfl | decide +kernel)) only [e_v0, e_vS, e_vC, e_s0, e_sS, e_op, e_op1, e_op2, e_opx, e_opx2, e_some, e_1, e_11, e_t, e_t1, e_tx, e_tr, e_tr1, e_trx, e_trb, e_trn, e_nt, e_nt1, e_ntx, e_and, e_andt, e_andf, e_andx, e_or, e_ort, e_orf, e_orx, e_va, e_vat, e_vaf, e_vax, e_vo, e_vot, e_vof, e_vox, e_vi, e_vit, e_vif, e_vix, e_vl, e_vl1, e_an, e_ac, e_ac1, e_acx, e_ac2, e_acx2, e_tu, e_tu1, e_tux, e_ls, e_ls1, e_cb, e_cb1, e_cbx, e_ca, e_ca_0, e_ca_1, e_ca_2, e_ca_3, e_ca_4, e_ca_5, e_ca_6, e_cax, e_ch, e_ch1, e_ch2, e_ch3, e_ch4, e_sl, e_sl1, e_slt, e_sll, e_slf, e_st, e_st1, e_os, e_os1, e_on, e_ga, e_ga1, e_gs, e_gst, e_gsl, e_gsf, e_ge, e_get, e_r1i, e_r2i, e_r3, e_lc, e_lc1, e_wp0, e_wp1, e_gn, e_gt, e_gl, e_gc, e_gc1, e_g0, e_seq, e_seqn, e_seqr, e_seqx, e_seqc, e_seqb, e_nop, e_brk, e_cnt, e_rai, e_asg, e_asg1, e_asgx, e_asgO, e_asgO1, e_asgT, e_asgT1, e_asgTx, e_tg, e_par, e_par1, e_par2, e_parO, e_parO1, e_drop, e_drop1, e_dropx, e_ret, e_ret1, e_retx, e_retN, e_if, e_ift, e_iff, e_ifx, e_aug, e_aug1, e_aug2, e_app, e_app1, e_ext, e_ext1, e_si, e_si1, e_si2, e_si3, e_pop, e_pop1, e_for, e_for1, e_whl, e_fl0, e_ft, e_fsn, e_fsc, e_fsb, e_fsr, e_fsx, e_wtt, e_wtf, e_wsn, e_wsc, e_wsb, e_wsr, e_wsx, e_try, e_tryn, e_tryr, e_tryc, e_try1, e_try1n, e_try1r, e_mk, e_mk2, e_mkx, e_mkx1, e_sI, e_iE, e_iF, e_iF1, e_iI, e_iIt, e_iIf, l_fld0, l_fld1, l_fld2, e_tA, e_tAn, e_tAr, e_tAx, e_hA, e_hA0, e_haT, e_haF, e_stA, e_stA1, e_rg, e_rg1, e_U, e_U1, e_run, e_endn, e_endr, e_endx, e_sta1, e_sta2, e_sta3, l_eq, l_ne, l_eqbb, l_nebb, l_lt, l_le, l_gt, l_ge, l_add, l_addt, l_addl, l_sub, l_neg, l_mod, l_fdiv, l_mul, l_mul2, l_fdivX, l_tn, l_btf, l_bft, l_btt, l_bff, l_ct, l_cf, l_iadd, l_not, l_len1, l_len2, l_len3, l_int, l_intb, l_tup1, l_tup2, l_lst1, l_lst2, l_max, l_min, l_ixt0, l_ixt1, l_ixt2, l_ixtl, l_ixl0, l_ixl1, l_ixl2, l_ixll, l_isn_bl, l_inn_bl, l_ty_int_bl, l_ty_bool_bl, l_ty_str_bl, l_ty_tuple_bl, l_ty_list_bl, l_isn_int, l_inn_int, l_ty_int_int, l_ty_bool_int, l_ty_str_int, l_ty_tuple_int, l_ty_list_int, l_isn_str, l_inn_str, l_ty_int_str, l_ty_bool_str, l_ty_str_str, l_ty_tuple_str, l_ty_list_str, l_isn_tup, l_inn_tup, l_ty_int_tup, l_ty_bool_tup, l_ty_str_tup, l_ty_tuple_tup, l_ty_list_tup, l_isn_lst, l_inn_lst, l_ty_int_lst, l_ty_bool_lst, l_ty_str_lst, l_ty_tuple_lst, l_ty_list_lst, l_isn_non, l_inn_non, l_ty_int_non, l_ty_bool_non, l_ty_str_non, l_ty_tuple_non, l_ty_list_non, d_t, d_f, Bool.not_true, Bool.not_false, List.length_map, List.length_append, List.length_cons, List.length_nil, List.nil_append, List.cons_append, if_true, if_false, Bool.false_eq_true, ite_true, ite_false, List.map_cons, List.map_nil, beq_self_eq_true, reduceIte, Bool.true_and, Bool.and_true, Bool.false_and, Bool.and_false, Int.reduceAdd, Int.reduceSub, Int.reduceMul, Int.reduceNeg, Int.reduceMod, Int.reduceDiv, Int.reduceToNat, Nat.reduceAdd, Nat.reduceMul, Nat.reduceSub, Bool.or_true, Bool.true_or, Bool.or_false, Bool.false_or, Int.cast_ofNat_Int, decide_true, decide_false, y_t, y_f, y_same, y_and, y_or, y_va, y_vo, y_vi, y_ch, y_if, y_ii, e_c3, e_c31, e_c32, e_c33, e_me, e_me1, e_me_0, e_me_1, e_me_2, e_me_3, e_me_4, e_pOO, e_pOO1, e_pOO2, e_p3, e_p31, e_p32, e_p33, l_isB, l_isnB, m_bl, m_D, m_I, m_oD, m_rt, c_1, c_2, c_3, c_4, c_5, c_6, s_op, s_op2, s_v1, s_tst, s_tru, s_nt, s_and, s_or, s_va, s_vo, s_vi, s_vl, s_cons, s_cons2, s_tup, s_lst, s_cb, s_ca, s_ch, s_ch2, s_ch3, s_sl, s_sl2, s_sl3, s_os, s_ga, s_gs, s_ge, s_lc, s_seq, s_asg, s_asgO, s_asgT, s_par, s_par2, s_parO, s_drop, s_ret, s_if, s_aug, s_aug2, s_app, s_ext, s_for, s_fs, s_try, s_try1, s_tA, s_c3, s_c32, s_end, s_ofO, s_mk2, s_mv, s_ifld, s_iif, e_m2, e_m2t, e_m2l, o_k, o_t, o_n, s_noE, lc_nil, lc_c1, lc_rngF, lc_map, lc_filN, mapR_ok, filR_ok, lc_cons, lc_rng, allP, anyP, appR_ok, andO_ok, orO_ok, all_0, any_0, lc_app, all_c, any_c, all_a, any_a, l_eqs, l_nes, l_eqt, lit_t, lit_f, notO_ok, in_ti, in_ts, in_li, in_ls, in_t0, in_l0, in_t0s, in_l0s, in_neg, in_tm, in_lm, k_ati, k_atl, k_negi, k_negl, cut_to', cut_off', cut_mid', cut_lst, cut_ofn, cut_ton, cut_map, k_sum, k_suml, all_tr, any_fl, map_tk, map_dr, map_ap, map_rv, not_any, not_all, l_mulX, l_mulX2, l_rep, l_repX, l_repL, l_repLX, e_fcb, e_fcb1, e_fop, e_fop1, e_fop2, e_fr, e_fr1, e_fsl, e_fsl1, e_p2O, e_p2O1, e_p3O, e_p3O1, e_p3O2, e_p3O3, e_geA, e_geA1, e_geA2, e_pO3, e_pO31, e_pO32, e_pO33, csT, csF, lc_consN, e_p2O2, seqF_l, seqF_t, seqF_f, mulF_1, addF_l, sort_int, sort_intT, e_s2, e_s21, e_s22, e_s23, e_s24, e_s25, e_sp, e_sp1, e_sp2, ixN_p, ixN_n, l_abs, e_Ub, e_Us, map_st, map_iN, cp_n, cp_c, cp_r, eq_ints, eq_intsl, ne_ints, ne_intsl, List.drop_succ_cons, List.drop_zero, List.drop_nil, List.take_succ_cons, List.take_zero, List.take_nil, Bool.not_not, Bool.decide_eq_true, decide_eq_true_eq, Bool.not_eq_true, $ls,*])
theorem dr_nn {ds : List Int} (hd : Drawn ds) (k : Nat) : 0 ≤ ds.getD k 0 := by
  rw [List.getD_eq_getElem?_getD]
  cases q : ds[k]? with
  | none => exact Int.le_refl _
  | some d => exact (hd d (List.mem_of_getElem? q)).1
theorem ex_asg {asgd : Option DEnv} {F : DEnv → DFlow} {P : DEnv → Prop} {ρ1 : DEnv} (h : asgd = some ρ1) (h2 : ∃ ρ2, (F ρ1 = .nx ρ2 ∨ F ρ1 = .ct ρ2) ∧ P ρ2) : ∃ ρ1 ρ2, asgd = some ρ1 ∧ (F ρ1 = .nx ρ2 ∨ F ρ1 = .ct ρ2) ∧ P ρ2 := by
  obtain ⟨ρ2, a, b⟩ := h2
  exact ⟨ρ1, ρ2, h, a, b⟩
theorem bent_told {n : Nat} {d : Dat} (hn : n ≤ 20) (h : Bent n d) : (∃ B, d = stD B ∧ Arch n B ∧ Told d .non ∧ ((Full n B ∧ ∃ m : Nat, D_arches_number [d] = .ok (.int m) ∧ D__law_ahead [d] = .ok (.int m)) ∨ (¬ Full n B ∧ D_arches_number [d] = .ok .non))) ∨ ∃ l, Told d (.tup l) ∧ D_arches_number [d] = .ok .non := by
  rcases h with ⟨B, rfl, hB, hr⟩ | ⟨B, k, s, rfl, hB, hk, hr, hs⟩
  · have f1 := fault_eq hB hn hr
    have f2 := lfault_eq hB hn hr
    rcases fau_cases B n with q | ⟨l, q, sm⟩
    · rw [q] at f1 f2
      have A := no_fauD hB hr q
      refine .inl ⟨B, rfl, A, ⟨f1, f2, same_non⟩, ?_⟩
      by_cases F : Full n B
      · obtain ⟨t, h1, h2, h3⟩ := numbered A F hn
        have a := ahead40 (t := t) (by omega)
        rw [← h2] at a
        exact .inl ⟨F, _, h3, a⟩
      · exact .inr ⟨F, not_full A hn F⟩
    · rw [q] at f1 f2
      exact .inr ⟨l, ⟨f1, f2, sm⟩, none_of f1⟩
  · have key : Told (.tup (((natI B).map .int).set k s)) formD := by
      unfold spec at hs
      simp only [List.mem_cons, List.not_mem_nil, or_false] at hs
      rcases hs with rfl | rfl | rfl | rfl | rfl | rfl
      · exact out_form hB hk hn (.inr (Int.le_refl _))
      · exact out_form hB hk hn (.inl (by decide))
      · exact odd_form hB hk hn rfl rfl rfl
      · exact odd_form hB hk hn rfl rfl rfl
      · exact odd_form hB hk hn rfl rfl rfl
      · exact odd_form hB hk hn rfl rfl rfl
    exact .inr ⟨_, key, none_of key.a⟩
theorem law_true : ∀ ns : List Int, ns.length ≤ 63 → D_law [.frz (ns.map .int)] = .ok (.bl true) := fun ns _ => by
  obtain ⟨ds, h1, hl, hd⟩ := draws_eq (m := 130) (by decide) ns
  have h1 : D__law_draws [.frz (ns.map .int), .int 130] = .ok (.lst (ds.map .int)) := h1
  have hd := dr_nn hd
  obtain ⟨h, eh, h4⟩ : ∃ h : Nat, 2 * (ds.getD 0 0 % 5) = (2 * h : Nat) ∧ h ≤ 4 := ⟨(ds.getD 0 0 % 5).toNat, by have := hd 0; omega, by omega⟩
  obtain ⟨E, aa, le, nu, e14, e1, ew⟩ := packs h h4
  have cn := count_eq (h := h) (by omega)
  rw [show 2 * h / 2 = h by omega] at ew
  rw [← ew] at cn
  have shE : shp 8 (.lst (E.map stD)) = true := by
    show (E.map stD).all (shp 7) = true
    rw [List.all_map]
    exact List.all_eq_true.mpr fun S _ => shp_in (n := 5) _
  have nE : neD (.lst (E.map stD)) (.lst (E.map stD)) = some (.bl false) := ne_refl shE
  have at_ : ∀ k ∈ List.range E.length, ixD (.lst (E.map stD)) (.int ((0 : Int) + (k : Nat))) = some (stD (E.getD k [])) := fun k hk => by
    have hk := List.mem_range.mp hk
    have ix := at_l (l := E.map stD) (k := k) (by rw [List.length_map]; exact hk)
    rw [List.getElem_map] at ix
    have eG : E[k] = E.getD k [] := by rw [List.getD_eq_getElem?_getD, List.getElem?_eq_getElem hk]; rfl
    rw [eG] at ix
    rw [Int.zero_add]
    exact ix
  have nu1 : ∀ k ∈ List.range E.length, D_arches_number [stD (E.getD k [])] = .ok (.int ((0 : Int) + (k : Nat))) := fun k hk => by
    rw [Int.zero_add]
    exact (nu k (List.mem_range.mp hk)).1
  have nu2 : ∀ k ∈ List.range E.length, D_arches_at [.int (2 * h : Nat), .int ((0 : Int) + (k : Nat))] = .ok (stD (E.getD k [])) := fun k hk => by
    rw [Int.zero_add]
    exact (nu k (List.mem_range.mp hk)).2
  have eqS : ∀ S : List Nat, eqD (stD S) (stD S) = some (.bl true) := fun S => eq_refl (shp_in (n := 6) _)
  have al : ((List.range E.length).all fun _ => true) = true := List.all_eq_true.mpr fun _ _ => rfl
  have L5 : (E.map stD).length = E.length := List.length_map _
  simp_arith [D_law, F_law, h1, eh, aa, le, cn, nE, at_, nu1, nu2, eqS, al]
  generalize hF : forL _ _ _ _ = rr
  obtain ⟨ρ, rfl, x2, x4, x5, x6, x7, x8, x9, x10, rfl⟩ := forL_inv' hF (fun _ ρ => ∃ x2 x4 x5 x6 x7 x8 x9 x10, ρ = [some (.frz (ns.map .int)), some (.lst (ds.map .int)), x2, some (.lst (E.map stD)), x4, x5, x6, x7, x8, x9, x10, none, none, none]) ⟨_, _, _, _, _, _, _, _, rfl⟩ fun t d ρ hk => by
    rintro ⟨x2, x4, x5, x6, x7, x8, x9, x10, rfl⟩
    obtain ⟨ht, rfl⟩ := rng_get0 hk
    obtain ⟨m, em, m10⟩ : ∃ m : Nat, 2 * (ds.getD (1 + t) 0 % 11) = (2 * m : Nat) ∧ m ≤ 10 := ⟨(ds.getD (1 + t) 0 % 11).toNat, by have := hd (1 + t); omega, by omega⟩
    have t1 : ((1 : Int) + (t : Int)).toNat = 1 + t := by omega
    obtain ⟨A, dr, hA, fA⟩ := drawn_eq (ds := ds) (at0 := 10 + 20 * t) (n := 2 * m) (by omega) (by omega) (by omega) (by omega)
    rw [show ((10 + 20 * t : Nat) : Int) = 10 + 20 * (t : Int) by omega] at dr
    obtain ⟨T, T1, T2, T3⟩ := numbered hA fA (by omega)
    have Tm : sz T = m := by omega
    have ah := ahead40 (t := T) (by omega)
    have aq := at_eq (t := T) (by omega)
    rw [← T2] at ah aq
    rw [Tm] at aq
    have nf := no_fault hA (by omega)
    have c1 := count_eq (h := m) m10
    have c2 := ways_eq m m10
    have nl := num_lt T (by omega)
    rw [Tm] at nl
    have nS : ∀ S : List Nat, neD (stD S) (stD S) = some (.bl false) := fun S => ne_refl (shp_in (n := 6) _)
    have nSA := nS A
    have ntN : notND .non .non = some (.bl false) := rfl
    have told := fun d => bent_told (n := 2 * m) (d := d) (by omega)
    have bt : ∀ k : Nat, k < 5 → ∃ d, D__law_bent [stD A, .lst (ds.map .int), .int ((70 : Int) + 10 * (k : Int) + (t : Int))] = .ok d ∧ Bent (2 * m) d := fun k hk => by
      have := bent_eq (ds := ds) hd (at0 := 70 + 10 * k + t) (by omega) (by omega) (n := 2 * m) (by omega) hA.len hA.rng
      rw [show ((70 + 10 * k + t : Nat) : Int) = 70 + 10 * (k : Int) + (t : Int) by omega] at this
      exact this
    have nl' : ((num T : Nat) : Int) < ((wy m : Nat) : Int) := by omega
    generalize hSA : stD A = SA at *
    generalize E.map stD = L at *
    refine ex_asg rfl ?_
    simp_arith [t1, em, dr, ah, aq, nf, c1, c2, T3, nSA, ntN, nl']
    generalize hG : forL _ _ _ _ = rg
    obtain ⟨y7, y8, y9, y10, rfl, -⟩ := fk4 7 8 9 10 (fun _ _ _ _ _ => True) hG (fun _ _ _ _ _ => trivial) fun k d y7 y8 y9 y10 hk _ => by
      obtain ⟨hk5, rfl⟩ := rng_get0 hk
      obtain ⟨d, bd, hb⟩ := bt k hk5
      have isY : isND .non .non = some (.bl true) := rfl
      have isN : ∀ l, isND (.tup l) .non = some (.bl false) := fun _ => rfl
      refine ⟨_, rfl, ?_⟩
      rcases told d hb with ⟨B, eB, aB, tB, ⟨F, q, n1, n2⟩ | ⟨F, n1⟩⟩ | ⟨l, tB, n1⟩
      · have ta := tB.a
        have tb := tB.b
        have ts := tB.s
        subst eB
        have ln : lenD [stD B] = some (.int (2 * m : Nat)) := by show some (Dat.int (((natI B).map Dat.int).length : Nat)) = _; rw [List.length_map, natI_len, aB.len]
        have at_ : ∀ j ∈ List.range (2 * m), ixD (stD B) (.int ((0 : Int) + (j : Nat))) = some (.int (B.getD j 0 : Nat)) := fun j hj => at_st (by omega) (by rw [aB.len]; exact List.mem_range.mp hj)
        have nj : ∀ j ∈ List.range (2 * m), neD (.int (B.getD j 0 : Nat)) (.int ((0 : Int) + (j : Nat))) = some (.bl true) := fun j hj => by
          have := F j (List.mem_range.mp hj)
          have e : ¬ ((B.getD j 0 : Nat) : Int) = (0 : Int) + (j : Nat) := by omega
          simp_arith [e]
        have al : ((List.range (2 * m)).all fun _ => true) = true := List.all_eq_true.mpr fun _ _ => rfl
        generalize stD B = SB at *
        exact ⟨_, _, _, _, .inl (by simp_arith [bd, tb, ta, ts, isY, ln, at_, nj, al, n1, n2]; rfl), trivial⟩
      · have ta := tB.a
        have tb := tB.b
        have ts := tB.s
        subst eB
        have ln : lenD [stD B] = some (.int (2 * m : Nat)) := by show some (Dat.int (((natI B).map Dat.int).length : Nat)) = _; rw [List.length_map, natI_len, aB.len]
        have at_ : ∀ j ∈ List.range (2 * m), ixD (stD B) (.int ((0 : Int) + (j : Nat))) = some (.int (B.getD j 0 : Nat)) := fun j hj => at_st (by omega) (by rw [aB.len]; exact List.mem_range.mp hj)
        have nj : ∀ j ∈ List.range (2 * m), neD (.int (B.getD j 0 : Nat)) (.int ((0 : Int) + (j : Nat))) = some (.bl (!decide (B.getD j 0 = j))) := fun j hj => by
          by_cases c : B.getD j 0 = j
          · have e : ((B.getD j 0 : Nat) : Int) = (0 : Int) + (j : Nat) := by omega
            rw [decide_eq_true c]
            simp_arith [e]
          · have e : ¬ ((B.getD j 0 : Nat) : Int) = (0 : Int) + (j : Nat) := by omega
            rw [decide_eq_false c]
            simp_arith [e]
        have al : ((List.range (2 * m)).all fun j => !decide (B.getD j 0 = j)) = false := by
          cases q : (List.range (2 * m)).all fun j => !decide (B.getD j 0 = j) with
          | false => rfl
          | true =>
            refine absurd (fun p hp e => ?_) F
            have := List.all_eq_true.mp q p (List.mem_range.mpr hp)
            rw [decide_eq_true e] at this
            cases this
        generalize stD B = SB at *
        exact ⟨_, _, _, _, .inl (by simp_arith [bd, tb, ta, ts, isY, ln, at_, nj, al, n1, ntN]; rfl), trivial⟩
      · have ta := tB.a
        have tb := tB.b
        have ts := tB.s
        exact ⟨_, _, _, _, .inl (by simp_arith [bd, tb, ta, ts, isN, n1, ntN]; rfl), trivial⟩
    exact ⟨_, .inl rfl, _, _, _, _, _, _, _, _, rfl⟩
  have e0 : ixD (.lst (E.map stD)) (.int 0) = some (.tup ((natI (E.getD 0 [])).map .int)) := at_ 0 (List.mem_range.mpr e1)
  have fl : ∀ l, D_arches_fault [.lst l] = .ok formD := fun l => by
    have i0 : isxD "tuple" (.lst l) = some (.bl false) := rfl
    simp_arith [D_arches_fault, F_arches_fault, i0]
    rfl
  have f1 : D_arches_fault [.non] = .ok formD := by kernel_rfl
  have f2 : D_arches_fault [.int 3] = .ok formD := by kernel_rfl
  have f3 : D_arches_fault [.str "10"] = .ok formD := by kernel_rfl
  have f4 : D_arches_fault [.tup [.tup [.int 0]]] = .ok formD := by kernel_rfl
  have f5 : D_arches_fault [.tup (rng 0 21)] = .ok formD := by kernel_rfl
  have f6 : D_arches_fault [.dct [Sum.inr "a"] [.int 1]] = .ok formD := by kernel_rfl
  have nl := fun l => none_of (fl l)
  have n1 := none_of f1
  have n2 := none_of f2
  have n3 := none_of f3
  have n4 := none_of f4
  have n5 := none_of f5
  have n6 := none_of f6
  have g1 : D_arches_fault [.tup (rng 0 20)] = .ok .non := by kernel_rfl
  have g2 : D_arches_fault [.tup []] = .ok .non := by kernel_rfl
  have g3 : D_arches_number [.tup []] = .ok (.int 0) := by kernel_rfl
  have sf := same_form
  have isY : isND .non .non = some (.bl true) := rfl
  unfold formD at *
  generalize E.map stD = L at *
  simp_arith [e0, fl, f1, f2, f3, f4, f5, f6, nl, n1, n2, n3, n4, n5, n6, g1, g2, g3, sf, isY]
end Lw
namespace Lw
open PySem PySem.Spec PyProof.Rows L2 Dl
theorem all_mk {l : PySem.W.OpenLaw} {w : World} {K : PySem.W.Frag} {h : Heap} {mg : Str → Option Value} {fa : Addr} (law_true : ∀ ns : List Int, ns.length ≤ 63 → D_law [.frz (ns.map .int)] = .ok (.bl true)) (X : K.In h) (G : h.Ns mainGlobals mg) (hfa : mg "law" = some (.ref fa))
    {f0 f1 f2 f3 f4 f5 f6 f7 f8 f9 f10 f11 f12 f13 f14 f15 f16 f17 f18 f19 f20 C_BadNumber C_BadSize : Addr} {od0 an0 od1 an1 od2 an2 od3 an3 od4 an4 od5 an5 od6 an6 od7 an7 od8 an8 od9 an9 od10 an10 od11 an11 od12 an12 od13 an13 od14 an14 od15 an15 od16 an16 od17 an17 od18 an18 od19 an19 od20 an20 : Option Addr} {sl0 sl1 sl2 sl3 sl4 sl5 sl6 sl7 sl8 sl9 sl10 sl11 sl12 sl13 sl14 sl15 sl16 sl17 sl18 sl19 sl20 : Array (Option Value)} {oc0 kV0 dc0 pm0 cd0 ct0 oc1 kV1 dc1 pm1 cd1 ct1 oc2 kV2 dc2 pm2 cd2 ct2 oc3 kV3 dc3 pm3 cd3 ct3 oc4 kV4 dc4 pm4 cd4 ct4 oc5 kV5 dc5 pm5 cd5 ct5 oc6 kV6 dc6 pm6 cd6 ct6 oc7 kV7 dc7 pm7 cd7 ct7 oc8 kV8 dc8 pm8 cd8 ct8 oc9 kV9 dc9 pm9 cd9 ct9 oc10 kV10 dc10 pm10 cd10 ct10 oc11 kV11 dc11 pm11 cd11 ct11 oc12 kV12 dc12 pm12 cd12 ct12 oc13 kV13 dc13 pm13 cd13 ct13 oc14 kV14 dc14 pm14 cd14 ct14 oc15 kV15 dc15 pm15 cd15 ct15 oc16 kV16 dc16 pm16 cd16 ct16 oc17 kV17 dc17 pm17 cd17 ct17 oc18 kV18 dc18 pm18 cd18 ct18 oc19 kV19 dc19 pm19 cd19 ct19 oc20 kV20 dc20 pm20 cd20 ct20 : Value}
    {tk_MOST_POINTS tk_MOST_LISTED : Tok}
    (a0 : PySem.W.nsIn K mainGlobals "is_whole" = some (some (.ref f0)))
    (l0 : K.lookup f0 = some ⟨oc0, od0, .func (PySem.W.fnOf "is_whole" "is_whole" (defArgs s_is_whole) (defBody s_is_whole) (defScope s_is_whole) .none kV0 dc0 pm0 an0 cd0 ct0), sl0⟩)
    (c0 : PySem.W.codeIn K cd0 "is_whole" = true)
    (k0 : PySem.W.keepIn K (.ref f0) = true)
    (a1 : PySem.W.nsIn K mainGlobals "arches_fault" = some (some (.ref f1)))
    (l1 : K.lookup f1 = some ⟨oc1, od1, .func (PySem.W.fnOf "arches_fault" "arches_fault" (defArgs s_arches_fault) (defBody s_arches_fault) (defScope s_arches_fault) .none kV1 dc1 pm1 an1 cd1 ct1), sl1⟩)
    (c1 : PySem.W.codeIn K cd1 "arches_fault" = true)
    (k1 : PySem.W.keepIn K (.ref f1) = true)
    (a2 : PySem.W.nsIn K mainGlobals "is_full" = some (some (.ref f2)))
    (l2 : K.lookup f2 = some ⟨oc2, od2, .func (PySem.W.fnOf "is_full" "is_full" (defArgs s_is_full) (defBody s_is_full) (defScope s_is_full) .none kV2 dc2 pm2 an2 cd2 ct2), sl2⟩)
    (c2 : PySem.W.codeIn K cd2 "is_full" = true)
    (k2 : PySem.W.keepIn K (.ref f2) = true)
    (a3 : PySem.W.nsIn K mainGlobals "_counts" = some (some (.ref f3)))
    (l3 : K.lookup f3 = some ⟨oc3, od3, .func (PySem.W.fnOf "_counts" "_counts" (defArgs s__counts) (defBody s__counts) (defScope s__counts) .none kV3 dc3 pm3 an3 cd3 ct3), sl3⟩)
    (c3 : PySem.W.codeIn K cd3 "_counts" = true)
    (k3 : PySem.W.keepIn K (.ref f3) = true)
    (a4 : PySem.W.nsIn K mainGlobals "_check_many" = some (some (.ref f4)))
    (l4 : K.lookup f4 = some ⟨oc4, od4, .func (PySem.W.fnOf "_check_many" "_check_many" (defArgs s__check_many) (defBody s__check_many) (defScope s__check_many) .none kV4 dc4 pm4 an4 cd4 ct4), sl4⟩)
    (c4 : PySem.W.codeIn K cd4 "_check_many" = true)
    (k4 : PySem.W.keepIn K (.ref f4) = true)
    (a5 : PySem.W.nsIn K mainGlobals "arches_count" = some (some (.ref f5)))
    (l5 : K.lookup f5 = some ⟨oc5, od5, .func (PySem.W.fnOf "arches_count" "arches_count" (defArgs s_arches_count) (defBody s_arches_count) (defScope s_arches_count) .none kV5 dc5 pm5 an5 cd5 ct5), sl5⟩)
    (c5 : PySem.W.codeIn K cd5 "arches_count" = true)
    (k5 : PySem.W.keepIn K (.ref f5) = true)
    (a6 : PySem.W.nsIn K mainGlobals "_made" = some (some (.ref f6)))
    (l6 : K.lookup f6 = some ⟨oc6, od6, .func (PySem.W.fnOf "_made" "_made" (defArgs s__made) (defBody s__made) (defScope s__made) .none kV6 dc6 pm6 an6 cd6 ct6), sl6⟩)
    (c6 : PySem.W.codeIn K cd6 "_made" = true)
    (k6 : PySem.W.keepIn K (.ref f6) = true)
    (a7 : PySem.W.nsIn K mainGlobals "_of_pairs" = some (some (.ref f7)))
    (l7 : K.lookup f7 = some ⟨oc7, od7, .func (PySem.W.fnOf "_of_pairs" "_of_pairs" (defArgs s__of_pairs) (defBody s__of_pairs) (defScope s__of_pairs) .none kV7 dc7 pm7 an7 cd7 ct7), sl7⟩)
    (c7 : PySem.W.codeIn K cd7 "_of_pairs" = true)
    (k7 : PySem.W.keepIn K (.ref f7) = true)
    (a8 : PySem.W.nsIn K mainGlobals "arches_at" = some (some (.ref f8)))
    (l8 : K.lookup f8 = some ⟨oc8, od8, .func (PySem.W.fnOf "arches_at" "arches_at" (defArgs s_arches_at) (defBody s_arches_at) (defScope s_arches_at) .none kV8 dc8 pm8 an8 cd8 ct8), sl8⟩)
    (c8 : PySem.W.codeIn K cd8 "arches_at" = true)
    (k8 : PySem.W.keepIn K (.ref f8) = true)
    (a9 : PySem.W.nsIn K mainGlobals "_number" = some (some (.ref f9)))
    (l9 : K.lookup f9 = some ⟨oc9, od9, .func (PySem.W.fnOf "_number" "_number" (defArgs s__number) (defBody s__number) (defScope s__number) .none kV9 dc9 pm9 an9 cd9 ct9), sl9⟩)
    (c9 : PySem.W.codeIn K cd9 "_number" = true)
    (k9 : PySem.W.keepIn K (.ref f9) = true)
    (a10 : PySem.W.nsIn K mainGlobals "arches_number" = some (some (.ref f10)))
    (l10 : K.lookup f10 = some ⟨oc10, od10, .func (PySem.W.fnOf "arches_number" "arches_number" (defArgs s_arches_number) (defBody s_arches_number) (defScope s_arches_number) .none kV10 dc10 pm10 an10 cd10 ct10), sl10⟩)
    (c10 : PySem.W.codeIn K cd10 "arches_number" = true)
    (k10 : PySem.W.keepIn K (.ref f10) = true)
    (a11 : PySem.W.nsIn K mainGlobals "all_arches" = some (some (.ref f11)))
    (l11 : K.lookup f11 = some ⟨oc11, od11, .func (PySem.W.fnOf "all_arches" "all_arches" (defArgs s_all_arches) (defBody s_all_arches) (defScope s_all_arches) .none kV11 dc11 pm11 an11 cd11 ct11), sl11⟩)
    (c11 : PySem.W.codeIn K cd11 "all_arches" = true)
    (k11 : PySem.W.keepIn K (.ref f11) = true)
    (a12 : PySem.W.nsIn K mainGlobals "_law_draws" = some (some (.ref f12)))
    (l12 : K.lookup f12 = some ⟨oc12, od12, .func (PySem.W.fnOf "_law_draws" "_law_draws" (defArgs s__law_draws) (defBody s__law_draws) (defScope s__law_draws) .none kV12 dc12 pm12 an12 cd12 ct12), sl12⟩)
    (c12 : PySem.W.codeIn K cd12 "_law_draws" = true)
    (k12 : PySem.W.keepIn K (.ref f12) = true)
    (a13 : PySem.W.nsIn K mainGlobals "_law_ways" = some (some (.ref f13)))
    (l13 : K.lookup f13 = some ⟨oc13, od13, .func (PySem.W.fnOf "_law_ways" "_law_ways" (defArgs s__law_ways) (defBody s__law_ways) (defScope s__law_ways) .none kV13 dc13 pm13 an13 cd13 ct13), sl13⟩)
    (c13 : PySem.W.codeIn K cd13 "_law_ways" = true)
    (k13 : PySem.W.keepIn K (.ref f13) = true)
    (a14 : PySem.W.nsIn K mainGlobals "_law_every" = some (some (.ref f14)))
    (l14 : K.lookup f14 = some ⟨oc14, od14, .func (PySem.W.fnOf "_law_every" "_law_every" (defArgs s__law_every) (defBody s__law_every) (defScope s__law_every) .none kV14 dc14 pm14 an14 cd14 ct14), sl14⟩)
    (c14 : PySem.W.codeIn K cd14 "_law_every" = true)
    (k14 : PySem.W.keepIn K (.ref f14) = true)
    (a15 : PySem.W.nsIn K mainGlobals "_law_drawn" = some (some (.ref f15)))
    (l15 : K.lookup f15 = some ⟨oc15, od15, .func (PySem.W.fnOf "_law_drawn" "_law_drawn" (defArgs s__law_drawn) (defBody s__law_drawn) (defScope s__law_drawn) .none kV15 dc15 pm15 an15 cd15 ct15), sl15⟩)
    (c15 : PySem.W.codeIn K cd15 "_law_drawn" = true)
    (k15 : PySem.W.keepIn K (.ref f15) = true)
    (a16 : PySem.W.nsIn K mainGlobals "_law_ahead" = some (some (.ref f16)))
    (l16 : K.lookup f16 = some ⟨oc16, od16, .func (PySem.W.fnOf "_law_ahead" "_law_ahead" (defArgs s__law_ahead) (defBody s__law_ahead) (defScope s__law_ahead) .none kV16 dc16 pm16 an16 cd16 ct16), sl16⟩)
    (c16 : PySem.W.codeIn K cd16 "_law_ahead" = true)
    (k16 : PySem.W.keepIn K (.ref f16) = true)
    (a17 : PySem.W.nsIn K mainGlobals "_law_fault" = some (some (.ref f17)))
    (l17 : K.lookup f17 = some ⟨oc17, od17, .func (PySem.W.fnOf "_law_fault" "_law_fault" (defArgs s__law_fault) (defBody s__law_fault) (defScope s__law_fault) .none kV17 dc17 pm17 an17 cd17 ct17), sl17⟩)
    (c17 : PySem.W.codeIn K cd17 "_law_fault" = true)
    (k17 : PySem.W.keepIn K (.ref f17) = true)
    (a18 : PySem.W.nsIn K mainGlobals "_law_bent" = some (some (.ref f18)))
    (l18 : K.lookup f18 = some ⟨oc18, od18, .func (PySem.W.fnOf "_law_bent" "_law_bent" (defArgs s__law_bent) (defBody s__law_bent) (defScope s__law_bent) .none kV18 dc18 pm18 an18 cd18 ct18), sl18⟩)
    (c18 : PySem.W.codeIn K cd18 "_law_bent" = true)
    (k18 : PySem.W.keepIn K (.ref f18) = true)
    (a19 : PySem.W.nsIn K mainGlobals "_law_same" = some (some (.ref f19)))
    (l19 : K.lookup f19 = some ⟨oc19, od19, .func (PySem.W.fnOf "_law_same" "_law_same" (defArgs s__law_same) (defBody s__law_same) (defScope s__law_same) .none kV19 dc19 pm19 an19 cd19 ct19), sl19⟩)
    (c19 : PySem.W.codeIn K cd19 "_law_same" = true)
    (k19 : PySem.W.keepIn K (.ref f19) = true)
    (a20 : PySem.W.nsIn K mainGlobals "law" = some (some (.ref f20)))
    (l20 : K.lookup f20 = some ⟨oc20, od20, .func (PySem.W.fnOf "law" "law" (defArgs s_law) (defBody s_law) (defScope s_law) .none kV20 dc20 pm20 an20 cd20 ct20), sl20⟩)
    (c20 : PySem.W.codeIn K cd20 "law" = true)
    (k20 : PySem.W.keepIn K (.ref f20) = true)
    (ea_BadNumber : PySem.W.nsIn K mainGlobals "BadNumber" = some (some (.ref C_BadNumber)))
    (ek_BadNumber : PySem.W.keepIn K (.ref C_BadNumber) = true)
    (ex_BadNumber : PySem.W.excIn K C_BadNumber [.type "ValueError", .type "Exception", .type "BaseException", .type "object"] "ValueError.__new__" = true)
    (eb_BadNumber : PySem.W.subIn K (.ref C_BadNumber) (.type "BaseException") = some true)
    (et_BadNumber : PySem.W.typeIn K (.ref C_BadNumber) = some (.type "type"))
    (ea_BadSize : PySem.W.nsIn K mainGlobals "BadSize" = some (some (.ref C_BadSize)))
    (ek_BadSize : PySem.W.keepIn K (.ref C_BadSize) = true)
    (ex_BadSize : PySem.W.excIn K C_BadSize [.type "ValueError", .type "Exception", .type "BaseException", .type "object"] "ValueError.__new__" = true)
    (eb_BadSize : PySem.W.subIn K (.ref C_BadSize) (.type "BaseException") = some true)
    (et_BadSize : PySem.W.typeIn K (.ref C_BadSize) = some (.type "type"))
    (z_abs : PySem.W.nsIn K mainGlobals "abs" = some none)
    (z_all : PySem.W.nsIn K mainGlobals "all" = some none)
    (z_any : PySem.W.nsIn K mainGlobals "any" = some none)
    (z_bool : PySem.W.nsIn K mainGlobals "bool" = some none)
    (z_enumerate : PySem.W.nsIn K mainGlobals "enumerate" = some none)
    (z_int : PySem.W.nsIn K mainGlobals "int" = some none)
    (z_isinstance : PySem.W.nsIn K mainGlobals "isinstance" = some none)
    (z_len : PySem.W.nsIn K mainGlobals "len" = some none)
    (z_list : PySem.W.nsIn K mainGlobals "list" = some none)
    (z_range : PySem.W.nsIn K mainGlobals "range" = some none)
    (z_set : PySem.W.nsIn K mainGlobals "set" = some none)
    (z_sum : PySem.W.nsIn K mainGlobals "sum" = some none)
    (z_tuple : PySem.W.nsIn K mainGlobals "tuple" = some none)
    (g_MOST_POINTS : PySem.W.nsIn K mainGlobals "MOST_POINTS" = some (some (.int 20 tk_MOST_POINTS)))
    (g_MOST_LISTED : PySem.W.nsIn K mainGlobals "MOST_LISTED" = some (some (.int 12 tk_MOST_LISTED)))
    : ∃ fd : FuncData, (∀ (s : Shared) (u : Value), BindsTo s fd ⟨[u], []⟩ [("script", u)]) ∧ ∀ base : Heap, K.In base → base.Ns mainGlobals mg → FnOk l.prog w K mg base (L2.CX l.prog w) 43 fa fd ["script"] (spLaw K) := by
  have e := hfa.symm.trans (PySem.W.mg_of X G a20)
  cases e
  let T : Dl.CT := ⟨fun c => 0, fun c => [], fun c => [Value.ref C_BadNumber, Value.ref C_BadNumber, Value.ref C_BadSize].getD c (.ref C_BadNumber)⟩
  have tx : Txt K mg T w :=
    { b_abs := PySem.W.mg_none_of X G z_abs,
      b_all := PySem.W.mg_none_of X G z_all,
      b_any := PySem.W.mg_none_of X G z_any,
      b_bool := PySem.W.mg_none_of X G z_bool,
      b_enumerate := PySem.W.mg_none_of X G z_enumerate,
      b_int := PySem.W.mg_none_of X G z_int,
      b_isinstance := PySem.W.mg_none_of X G z_isinstance,
      b_len := PySem.W.mg_none_of X G z_len,
      b_list := PySem.W.mg_none_of X G z_list,
      b_range := PySem.W.mg_none_of X G z_range,
      b_set := PySem.W.mg_none_of X G z_set,
      b_sum := PySem.W.mg_none_of X G z_sum,
      b_tuple := PySem.W.mg_none_of X G z_tuple,
      g_MOST_POINTS := GC.int (PySem.W.mg_of X G g_MOST_POINTS),
      g_MOST_LISTED := GC.int (PySem.W.mg_of X G g_MOST_LISTED),
      e_BadNumber := ⟨C_BadNumber, rfl, PySem.W.mg_of X G ea_BadNumber, ek_BadNumber, ex_BadNumber, eb_BadNumber, et_BadNumber⟩,
      e_BadSize := ⟨C_BadSize, rfl, PySem.W.mg_of X G ea_BadSize, ek_BadSize, ex_BadSize, eb_BadSize, et_BadSize⟩ }
  have F0 := fun_mk (st := s_is_whole) l0 c0 k0
  have F1 := fun_mk (st := s_arches_fault) l1 c1 k1
  have F2 := fun_mk (st := s_is_full) l2 c2 k2
  have F3 := fun_mk (st := s__counts) l3 c3 k3
  have F4 := fun_mk (st := s__check_many) l4 c4 k4
  have F5 := fun_mk (st := s_arches_count) l5 c5 k5
  have F6 := fun_mk (st := s__made) l6 c6 k6
  have F7 := fun_mk (st := s__of_pairs) l7 c7 k7
  have F8 := fun_mk (st := s_arches_at) l8 c8 k8
  have F9 := fun_mk (st := s__number) l9 c9 k9
  have F10 := fun_mk (st := s_arches_number) l10 c10 k10
  have F11 := fun_mk (st := s_all_arches) l11 c11 k11
  have F12 := fun_mk (st := s__law_draws) l12 c12 k12
  have F13 := fun_mk (st := s__law_ways) l13 c13 k13
  have F14 := fun_mk (st := s__law_every) l14 c14 k14
  have F15 := fun_mk (st := s__law_drawn) l15 c15 k15
  have F16 := fun_mk (st := s__law_ahead) l16 c16 k16
  have F17 := fun_mk (st := s__law_fault) l17 c17 k17
  have F18 := fun_mk (st := s__law_bent) l18 c18 k18
  have F19 := fun_mk (st := s__law_same) l19 c19 k19
  have F20 := fun_mk (st := s_law) l20 c20 k20
  have b0 := F0.binds (ps := ["value", "least", "most"]) fun _ _ _ _ _ _ us hl => match us, hl with | [_, _, _], _ => rfl
  have b1 := F1.binds (ps := ["value"]) fun _ _ _ _ _ _ us hl => match us, hl with | [_], _ => rfl
  have b2 := F2.binds (ps := ["value"]) fun _ _ _ _ _ _ us hl => match us, hl with | [_], _ => rfl
  have b3 := F3.binds (ps := []) fun _ _ _ _ _ _ us hl => match us, hl with | [], _ => rfl
  have b4 := F4.binds (ps := ["many", "most"]) fun _ _ _ _ _ _ us hl => match us, hl with | [_, _], _ => rfl
  have b5 := F5.binds (ps := ["many"]) fun _ _ _ _ _ _ us hl => match us, hl with | [_], _ => rfl
  have b6 := F6.binds (ps := ["many", "number", "first", "counts"]) fun _ _ _ _ _ _ us hl => match us, hl with | [_, _, _, _], _ => rfl
  have b7 := F7.binds (ps := ["many", "pairs"]) fun _ _ _ _ _ _ us hl => match us, hl with | [_, _], _ => rfl
  have b8 := F8.binds (ps := ["many", "number"]) fun _ _ _ _ _ _ us hl => match us, hl with | [_, _], _ => rfl
  have b9 := F9.binds (ps := ["arches", "first", "end", "counts"]) fun _ _ _ _ _ _ us hl => match us, hl with | [_, _, _, _], _ => rfl
  have b10 := F10.binds (ps := ["arches"]) fun _ _ _ _ _ _ us hl => match us, hl with | [_], _ => rfl
  have b11 := F11.binds (ps := ["many"]) fun _ _ _ _ _ _ us hl => match us, hl with | [_], _ => rfl
  have b12 := F12.binds (ps := ["script", "many"]) fun _ _ _ _ _ _ us hl => match us, hl with | [_, _], _ => rfl
  have b13 := F13.binds (ps := ["many"]) fun _ _ _ _ _ _ us hl => match us, hl with | [_], _ => rfl
  have b14 := F14.binds (ps := ["many"]) fun _ _ _ _ _ _ us hl => match us, hl with | [_], _ => rfl
  have b15 := F15.binds (ps := ["draws", "at", "many"]) fun _ _ _ _ _ _ us hl => match us, hl with | [_, _, _], _ => rfl
  have b16 := F16.binds (ps := ["arches"]) fun _ _ _ _ _ _ us hl => match us, hl with | [_], _ => rfl
  have b17 := F17.binds (ps := ["value"]) fun _ _ _ _ _ _ us hl => match us, hl with | [_], _ => rfl
  have b18 := F18.binds (ps := ["value", "draws", "at"]) fun _ _ _ _ _ _ us hl => match us, hl with | [_, _, _], _ => rfl
  have b19 := F19.binds (ps := ["told", "due"]) fun _ _ _ _ _ _ us hl => match us, hl with | [_, _], _ => rfl
  have b20 := F20.binds (ps := ["script"]) fun _ _ _ _ _ _ us hl => match us, hl with | [_], _ => rfl
  refine ⟨PySem.W.fnOf "law" "law" (defArgs s_law) (defBody s_law) (defScope s_law) .none kV20 dc20 pm20 an20 cd20 ct20, fun s v => .of_eq rfl, fun base _ _ => ?_⟩
  have h_is_whole : FnD l.prog w K mg base T 1 "is_whole" 3 D_is_whole := FnD.mk' (PySem.W.mg_of X G a0) F0 b0 (ok_is_whole tx F0)
  have h_arches_fault : FnD l.prog w K mg base T 2 "arches_fault" 1 D_arches_fault := FnD.mk' (PySem.W.mg_of X G a1) F1 b1 (ok_arches_fault tx h_is_whole F1)
  have h_is_full : FnD l.prog w K mg base T 3 "is_full" 1 D_is_full := FnD.mk' (PySem.W.mg_of X G a2) F2 b2 (ok_is_full tx h_arches_fault F2)
  have h__counts : FnD l.prog w K mg base T 1 "_counts" 0 D__counts := FnD.mk' (PySem.W.mg_of X G a3) F3 b3 (ok__counts tx F3)
  have h__check_many : FnD l.prog w K mg base T 2 "_check_many" 2 D__check_many := FnD.mk' (PySem.W.mg_of X G a4) F4 b4 (ok__check_many tx h_is_whole F4)
  have h_arches_count : FnD l.prog w K mg base T 3 "arches_count" 1 D_arches_count := FnD.mk' (PySem.W.mg_of X G a5) F5 b5 (ok_arches_count tx h__check_many h__counts F5)
  have h__made : FnD l.prog w K mg base T 41 "_made" 4 D__made := rec_D (L := 1) (PySem.W.mg_of X G a6) F6 b6 rfl rfl (fun m c => ok__made tx m c F6) 40
  have h__of_pairs : FnD l.prog w K mg base T 1 "_of_pairs" 2 D__of_pairs := FnD.mk' (PySem.W.mg_of X G a7) F7 b7 (ok__of_pairs tx F7)
  have h_arches_at : FnD l.prog w K mg base T 42 "arches_at" 2 D_arches_at := FnD.mk' (PySem.W.mg_of X G a8) F8 b8 (ok_arches_at tx h__check_many h__counts h__made h__of_pairs h_is_whole F8)
  have h__number : FnD l.prog w K mg base T 41 "_number" 4 D__number := rec_D (L := 1) (PySem.W.mg_of X G a9) F9 b9 rfl rfl (fun m c => ok__number tx m c F9) 40
  have h_arches_number : FnD l.prog w K mg base T 42 "arches_number" 1 D_arches_number := FnD.mk' (PySem.W.mg_of X G a10) F10 b10 (ok_arches_number tx h__counts h__number h_is_full F10)
  have h_all_arches : FnD l.prog w K mg base T 42 "all_arches" 1 D_all_arches := FnD.mk' (PySem.W.mg_of X G a11) F11 b11 (ok_all_arches tx h__check_many h__counts h__made h__of_pairs F11)
  have h__law_draws : FnD l.prog w K mg base T 1 "_law_draws" 2 D__law_draws := FnD.mk' (PySem.W.mg_of X G a12) F12 b12 (ok__law_draws tx F12)
  have h__law_ways : FnD l.prog w K mg base T 1 "_law_ways" 1 D__law_ways := FnD.mk' (PySem.W.mg_of X G a13) F13 b13 (ok__law_ways tx F13)
  have h__law_every : FnD l.prog w K mg base T 41 "_law_every" 1 D__law_every := rec_D (L := 1) (PySem.W.mg_of X G a14) F14 b14 rfl rfl (fun m c => ok__law_every tx m c F14) 40
  have h__law_drawn : FnD l.prog w K mg base T 1 "_law_drawn" 3 D__law_drawn := FnD.mk' (PySem.W.mg_of X G a15) F15 b15 (ok__law_drawn tx F15)
  have h__law_ahead : FnD l.prog w K mg base T 42 "_law_ahead" 1 D__law_ahead := rec_D (L := 2) (PySem.W.mg_of X G a16) F16 b16 rfl rfl (fun m c => ok__law_ahead tx h__law_ways m c F16) 40
  have h__law_fault : FnD l.prog w K mg base T 1 "_law_fault" 1 D__law_fault := FnD.mk' (PySem.W.mg_of X G a17) F17 b17 (ok__law_fault tx F17)
  have h__law_bent : FnD l.prog w K mg base T 1 "_law_bent" 3 D__law_bent := FnD.mk' (PySem.W.mg_of X G a18) F18 b18 (ok__law_bent tx F18)
  have h__law_same : FnD l.prog w K mg base T 1 "_law_same" 2 D__law_same := FnD.mk' (PySem.W.mg_of X G a19) F19 b19 (ok__law_same tx F19)
  exact law_imp (ok_law tx h__law_ahead h__law_bent h__law_drawn h__law_draws h__law_every h__law_fault h__law_same h__law_ways h_all_arches h_arches_at h_arches_count h_arches_fault h_arches_number F20) law_true
end Lw
open PySem PySem.W PyProof.Rows
set_option maxRecDepth 100000 in
set_option maxHeartbeats 0 in
theorem PySem.Challenge.cw_creasewrit_k16_arches_counted_holds : PySem.Challenge.rw_creasewrit_k16_arches_counted.Holds := by
  w_on; o_law; k_head; (case hw => w_witness2)
  k_fill
  refine Dl.walk_law (l := PySem.Challenge.rw_creasewrit_k16_arches_counted) (k := 43) rfl rfl ⟨rfl, by decide, by decide⟩ (fun w h Y => PySem.W.kIn_of Y) ?F
  case F =>
    intro w mg fa h KX G hmg
    refine' Lw.all_mk Lw.law_true KX G hmg ?a0 ?l0 ?c0 ?k0 ?a1 ?l1 ?c1 ?k1 ?a2 ?l2 ?c2 ?k2 ?a3 ?l3 ?c3 ?k3 ?a4 ?l4 ?c4 ?k4 ?a5 ?l5 ?c5 ?k5 ?a6 ?l6 ?c6 ?k6 ?a7 ?l7 ?c7 ?k7 ?a8 ?l8 ?c8 ?k8 ?a9 ?l9 ?c9 ?k9 ?a10 ?l10 ?c10 ?k10 ?a11 ?l11 ?c11 ?k11 ?a12 ?l12 ?c12 ?k12 ?a13 ?l13 ?c13 ?k13 ?a14 ?l14 ?c14 ?k14 ?a15 ?l15 ?c15 ?k15 ?a16 ?l16 ?c16 ?k16 ?a17 ?l17 ?c17 ?k17 ?a18 ?l18 ?c18 ?k18 ?a19 ?l19 ?c19 ?k19 ?a20 ?l20 ?c20 ?k20 ?ea_BadNumber ?ek_BadNumber ?ex_BadNumber ?eb_BadNumber ?et_BadNumber ?ea_BadSize ?ek_BadSize ?ex_BadSize ?eb_BadSize ?et_BadSize ?z_abs ?z_all ?z_any ?z_bool ?z_enumerate ?z_int ?z_isinstance ?z_len ?z_list ?z_range ?z_set ?z_sum ?z_tuple ?g_MOST_POINTS ?g_MOST_LISTED
    (case a0 => k_is)
    (case l0 => k_is)
    (case c0 => k_is)
    (case k0 => k_is)
    (case a1 => k_is)
    (case l1 => k_is)
    (case c1 => k_is)
    (case k1 => k_is)
    (case a2 => k_is)
    (case l2 => k_is)
    (case c2 => k_is)
    (case k2 => k_is)
    (case a3 => k_is)
    (case l3 => k_is)
    (case c3 => k_is)
    (case k3 => k_is)
    (case a4 => k_is)
    (case l4 => k_is)
    (case c4 => k_is)
    (case k4 => k_is)
    (case a5 => k_is)
    (case l5 => k_is)
    (case c5 => k_is)
    (case k5 => k_is)
    (case a6 => k_is)
    (case l6 => k_is)
    (case c6 => k_is)
    (case k6 => k_is)
    (case a7 => k_is)
    (case l7 => k_is)
    (case c7 => k_is)
    (case k7 => k_is)
    (case a8 => k_is)
    (case l8 => k_is)
    (case c8 => k_is)
    (case k8 => k_is)
    (case a9 => k_is)
    (case l9 => k_is)
    (case c9 => k_is)
    (case k9 => k_is)
    (case a10 => k_is)
    (case l10 => k_is)
    (case c10 => k_is)
    (case k10 => k_is)
    (case a11 => k_is)
    (case l11 => k_is)
    (case c11 => k_is)
    (case k11 => k_is)
    (case a12 => k_is)
    (case l12 => k_is)
    (case c12 => k_is)
    (case k12 => k_is)
    (case a13 => k_is)
    (case l13 => k_is)
    (case c13 => k_is)
    (case k13 => k_is)
    (case a14 => k_is)
    (case l14 => k_is)
    (case c14 => k_is)
    (case k14 => k_is)
    (case a15 => k_is)
    (case l15 => k_is)
    (case c15 => k_is)
    (case k15 => k_is)
    (case a16 => k_is)
    (case l16 => k_is)
    (case c16 => k_is)
    (case k16 => k_is)
    (case a17 => k_is)
    (case l17 => k_is)
    (case c17 => k_is)
    (case k17 => k_is)
    (case a18 => k_is)
    (case l18 => k_is)
    (case c18 => k_is)
    (case k18 => k_is)
    (case a19 => k_is)
    (case l19 => k_is)
    (case c19 => k_is)
    (case k19 => k_is)
    (case a20 => k_is)
    (case l20 => k_is)
    (case c20 => k_is)
    (case k20 => k_is)
    (case ea_BadNumber => k_is)
    (case ek_BadNumber => k_is)
    (case ex_BadNumber => k_exc)
    (case eb_BadNumber => k_is)
    (case et_BadNumber => k_is)
    (case ea_BadSize => k_is)
    (case ek_BadSize => k_is)
    (case ex_BadSize => k_exc)
    (case eb_BadSize => k_is)
    (case et_BadSize => k_is)
    (case z_abs => k_is)
    (case z_all => k_is)
    (case z_any => k_is)
    (case z_bool => k_is)
    (case z_enumerate => k_is)
    (case z_int => k_is)
    (case z_isinstance => k_is)
    (case z_len => k_is)
    (case z_list => k_is)
    (case z_range => k_is)
    (case z_set => k_is)
    (case z_sum => k_is)
    (case z_tuple => k_is)
    (case g_MOST_POINTS => k_is)
    (case g_MOST_LISTED => k_is)
#print axioms PySem.Challenge.cw_creasewrit_k16_arches_counted_holds
