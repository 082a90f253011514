import PyProof.Rows.All
import Wide.All
import OpenK.AllK
import Wide.FinOn
import HandS.ForMost
import HandS.Exc
import HandS.TryOnly
import HandS.ExcOwn
import HandS.WordsExc
import HandS.Walk
import HandS.Wide
import HandS.TupAny
import HandS.TupMul
import HandS.TupLe
import HandS.Flow
import HandS.Deep
import HandS.IsInst
import HandS.Style
import HandS.Conv
import HandS.SortInts
import HandS.CallSlots
import HandS.Codes
import HandS.WideMore
import HandS.More
import HandS.TryMany
import HandS.Replace
import HandS.Text
import HandS.ExcIs
import HandS.Iter
import HandS.Zip0
import PyProof.Draws
import PyProof.EnumMake
import PyProof.EnumFor
import PySem.Challenge.RW_creasewrit_k57_whole_long_windows
set_option Elab.async false
set_option linter.all false
set_option maxRecDepth 100000
set_option maxHeartbeats 4000000
/-! The D layer, part 1: pure data, how values bear it, environments, judgements. -/
namespace Dl
open PySem PySem.Spec PyProof.Rows L2

/-! ### data -/
inductive Dat where
  | non | bl (b : Bool) | int (i : Int) | str (s : Str)
  | tup (l : List Dat) | lst (l : List Dat) | frz (l : List Dat) | obj (c : Nat) (l : List Dat)
inductive Res (α : Type) where
  | ok (a : α) | exc (c : Nat) | stuck
def Res.bind {α β : Type} : Res α → (α → Res β) → Res β
  | .ok a, k => k a
  | .exc c, _ => .exc c
  | .stuck, _ => .stuck
def ofO {α : Type} : Option α → Res α
  | some a => .ok a
  | none => .stuck
abbrev Sg := L2.St
abbrev DEnv := List (Option Dat)
/-- classes of objects, their attributes in order; classes of exceptions -/
structure CT where
  addr : Nat → Addr
  names : Nat → List Str
  exc : Nat → Value

/-! ### heaps -/
def Ex (H H' : Hp) : Prop := ∀ a o, H a = some o → H' a = some o
theorem Ex.refl (H : Hp) : Ex H H := fun _ _ h => h
theorem Ex.trans {H H1 H2 : Hp} (a : Ex H H1) (b : Ex H1 H2) : Ex H H2 := fun x o h => b x o (a x o h)
theorem Ex.new {H : Hp} {p : Addr} {o : HO} (h : H p = none) : Ex H (upd H p o) := fun a u e => by
  rw [upd_ne (ne_of_none e h)]
  exact e
theorem Ex.fresh {H H' : Hp} {p : Addr} (e : Ex H H') (h : H' p = none) : H p = none := by
  cases h1 : H p with
  | none => rfl
  | some o =>
    rw [e p o h1] at h
    cases h
def hide (H : Hp) (S : List Addr) : Hp := fun a => if a ∈ S then none else H a
theorem hide_ex {H : Hp} {S : List Addr} : Ex (hide H S) H := fun a o h => by
  unfold hide at h
  split at h
  · cases h
  · exact h
theorem hide_get {H : Hp} {S : List Addr} {a : Addr} {o : HO} (h : H a = some o) (n : a ∉ S) : hide H S a = some o := by
  unfold hide
  rw [if_neg n]
  exact h
theorem hide_mono {H H' : Hp} {S : List Addr} (e : Ex H H') : Ex (hide H S) (hide H' S) := fun a o h => by
  unfold hide at h ⊢
  split at h
  · cases h
  · rename_i n
    rw [if_neg n]
    exact e a o h
theorem hide_sub {H : Hp} {S S' : List Addr} (h : ∀ p ∈ S, p ∈ S') : Ex (hide H S') (hide H S) := fun a o e => by
  unfold hide at e ⊢
  split at e
  · cases e
  · rename_i n
    rw [if_neg fun z => n (h a z)]
    exact e
theorem hide_upd {H : Hp} {S : List Addr} {p : Addr} {o : HO} (h : p ∈ S) : hide (upd H p o) S = hide H S := by
  funext a
  unfold hide
  by_cases z : a ∈ S
  · rw [if_pos z, if_pos z]
  · rw [if_neg z, if_neg z, upd_ne fun e => z (by rw [e]; exact h)]
/-- one more is hidden that was not there -/
theorem hide_new {H H' : Hp} {S : List Addr} {p : Addr} (e : Ex H H') (h : H p = none) : Ex (hide H S) (hide H' (p :: S)) := fun a o q => by
  have n : a ∉ S := fun z => by
    unfold hide at q
    rw [if_pos z] at q
    cases q
  have q' := hide_ex a o q
  refine hide_get (e a o q') ?_
  intro z
  rcases List.mem_cons.mp z with z | z
  · exact ne_of_none q' h z
  · exact n z
theorem ex_rd {H H' : Hp} {a : Addr} {u : HO} (e : Ex H H') (h : Rd H a u) : Rd H' a u := by
  rcases h with h | ⟨o, h⟩
  · exact Or.inl (e a _ h)
  · exact Or.inr ⟨o, e a _ h⟩
theorem ex_l {K : PySem.W.Frag} {H H' : Hp} {a : Addr} {xs : List V} (e : Ex H H') (h : SqL K H a xs) : SqL K H' a xs := by
  rcases h with h | h
  · exact Or.inl (ex_rd e h)
  · exact Or.inr h
theorem ex_t {K : PySem.W.Frag} {H H' : Hp} {a : Addr} {xs : List V} (e : Ex H H') (h : SqT K H a xs) : SqT K H' a xs := by
  rcases h with h | h
  · exact Or.inl (ex_rd e h)
  · exact Or.inr h

/-! ### values that bear data -/
mutual
inductive Rep (K : PySem.W.Frag) (T : CT) (H : Hp) : V → Dat → Prop
  | non : Rep K T H .non .non
  | bl (b : Bool) : Rep K T H (.bl b) (.bl b)
  | int (i : Int) : Rep K T H (.int i) (.int i)
  | str (x : Str) : Rep K T H (.str x) (.str x)
  | tup {a : Addr} {vs : List V} {ds : List Dat} : SqT K H a vs → Reps K T H vs ds → Rep K T H (.ref a) (.tup ds)
  | lst {a : Addr} {vs : List V} {ds : List Dat} : H a = some (.lst vs) → Reps K T H vs ds → Rep K T H (.ref a) (.lst ds)
  | frz {a : Addr} {vs : List V} {ds : List Dat} : SqL K H a vs → Reps K T H vs ds → Rep K T H (.ref a) (.frz ds)
  | obj {a dx : Addr} {c : Nat} {fs : List (Str × V)} {ds : List Dat} : H a = some (.ins (T.addr c) dx fs) → fs.map (·.1) = T.names c → Reps K T H (fs.map (·.2)) ds → Rep K T H (.ref a) (.obj c ds)
inductive Reps (K : PySem.W.Frag) (T : CT) (H : Hp) : List V → List Dat → Prop
  | nil : Reps K T H [] []
  | cons {v : V} {vs : List V} {d : Dat} {ds : List Dat} : Rep K T H v d → Reps K T H vs ds → Reps K T H (v :: vs) (d :: ds)
end
section
variable {K : PySem.W.Frag} {T : CT} {H H' : Hp}
mutual
theorem Rep.mono (e : Ex H H') : ∀ {v : V} {d : Dat}, Rep K T H v d → Rep K T H' v d
  | _, _, .non => .non
  | _, _, .bl b => .bl b
  | _, _, .int i => .int i
  | _, _, .str x => .str x
  | _, _, .tup h r => .tup (ex_t e h) (Reps.mono e r)
  | _, _, .lst h r => .lst (e _ _ h) (Reps.mono e r)
  | _, _, .frz h r => .frz (ex_l e h) (Reps.mono e r)
  | _, _, .obj h n r => .obj (e _ _ h) n (Reps.mono e r)
theorem Reps.mono (e : Ex H H') : ∀ {vs : List V} {ds : List Dat}, Reps K T H vs ds → Reps K T H' vs ds
  | _, _, .nil => .nil
  | _, _, .cons h r => .cons (Rep.mono e h) (Reps.mono e r)
end
theorem Reps.length : ∀ {vs : List V} {ds : List Dat}, Reps K T H vs ds → vs.length = ds.length
  | _, _, .nil => rfl
  | _, _, .cons _ r => by simp [Reps.length r]
theorem Reps.get : ∀ {vs : List V} {ds : List Dat} {i : Nat} {d : Dat}, Reps K T H vs ds → ds[i]? = some d → ∃ v, vs[i]? = some v ∧ Rep K T H v d
  | _, _, _, _, .nil, e => by simp at e
  | _, _, 0, _, .cons h _, e => by
    simp at e
    subst e
    exact ⟨_, rfl, h⟩
  | _, _, i + 1, _, .cons _ r, e => by
    obtain ⟨v, h1, h2⟩ := Reps.get (i := i) r (by simpa using e)
    exact ⟨v, by simpa using h1, h2⟩
theorem Reps.getV : ∀ {vs : List V} {ds : List Dat} {i : Nat} {v : V}, Reps K T H vs ds → vs[i]? = some v → ∃ d, ds[i]? = some d ∧ Rep K T H v d
  | _, _, _, _, .nil, e => by simp at e
  | _, _, 0, _, .cons h _, e => by
    simp at e
    subst e
    exact ⟨_, rfl, h⟩
  | _, _, i + 1, _, .cons _ r, e => by
    obtain ⟨v, h1, h2⟩ := Reps.getV (i := i) r (by simpa using e)
    exact ⟨v, by simpa using h1, h2⟩
theorem Reps.append : ∀ {vs ws : List V} {ds es : List Dat}, Reps K T H vs ds → Reps K T H ws es → Reps K T H (vs ++ ws) (ds ++ es)
  | _, _, _, _, .nil, s => s
  | _, _, _, _, .cons h r, s => .cons h (Reps.append r s)
theorem Reps.take : ∀ {vs : List V} {ds : List Dat} (n : Nat), Reps K T H vs ds → Reps K T H (vs.take n) (ds.take n)
  | _, _, 0, _ => .nil
  | _, _, _ + 1, .nil => .nil
  | _, _, n + 1, .cons h r => .cons h (Reps.take n r)
theorem Reps.drop : ∀ {vs : List V} {ds : List Dat} (n : Nat), Reps K T H vs ds → Reps K T H (vs.drop n) (ds.drop n)
  | _, _, 0, r => r
  | _, _, _ + 1, .nil => .nil
  | _, _, n + 1, .cons _ r => Reps.drop n r
theorem Reps.set {v : V} {d : Dat} (h : Rep K T H v d) : ∀ {vs : List V} {ds : List Dat} (i : Nat), Reps K T H vs ds → Reps K T H (vs.set i v) (ds.set i d)
  | _, _, _, .nil => .nil
  | _, _, 0, .cons _ r => .cons h r
  | _, _, i + 1, .cons q r => .cons q (Reps.set h i r)
theorem Reps.reverse : ∀ {vs : List V} {ds : List Dat}, Reps K T H vs ds → Reps K T H vs.reverse ds.reverse
  | _, _, .nil => .nil
  | _, _, .cons h r => by
    rw [List.reverse_cons, List.reverse_cons]
    exact Reps.append (Reps.reverse r) (.cons h .nil)
theorem Reps.flatten_replicate {vs : List V} {ds : List Dat} (r : Reps K T H vs ds) : ∀ n : Nat, Reps K T H (List.replicate n vs).flatten (List.replicate n ds).flatten
  | 0 => .nil
  | n + 1 => by
    rw [List.replicate_succ, List.replicate_succ, List.flatten_cons, List.flatten_cons]
    exact Reps.append r (Reps.flatten_replicate r n)
theorem Reps.one {v : V} {d : Dat} (h : Rep K T H v d) : Reps K T H [v] [d] := .cons h .nil

/-! ### what may change: hidden -/
def mutO : HO → Bool
  | .lst _ => true
  | .ins _ _ _ => true
  | .dK _ => true
  | .dT _ => true
  | .set _ _ => true
  | _ => false
def Hid (H : Hp) (S : List Addr) : Prop := ∀ p ∈ S, ∃ o, H p = some o ∧ mutO o = true
theorem Hid.mono {S : List Addr} (h : Hid H S) (e : Ex H H') : Hid H' S := fun p hp => let ⟨o, a, b⟩ := h p hp; ⟨o, e p o a, b⟩
theorem Hid.not {S : List Addr} {p : Addr} (h : Hid H S) (n : H p = none) : p ∉ S := fun z => by
  obtain ⟨o, a, _⟩ := h p z
  rw [n] at a
  cases a
theorem Hid.notTup {S : List Addr} {p : Addr} {xs : List V} (h : Hid H S) (n : Rd H p (.tup xs)) : p ∉ S := fun z => by
  obtain ⟨o, a, b⟩ := h p z
  rcases n with n | ⟨q, n⟩
  · rw [n] at a
    cases a
    cases b
  · rw [n] at a
    cases a
    cases b
theorem rep_newL {S : List Addr} {p : Addr} {vs : List V} {ds : List Dat} (m : Hid H S) (n : H p = none) (r : Reps K T (hide H S) vs ds) : Rep K T (hide (upd H p (.lst vs)) S) (.ref p) (.lst ds) :=
  .lst (hide_get upd_same (m.not n)) (r.mono (hide_mono (Ex.new n)))
theorem rep_newT {S : List Addr} {p : Addr} {vs : List V} {ds : List Dat} (m : Hid H S) (n : H p = none) (r : Reps K T (hide H S) vs ds) : Rep K T (hide (upd H p (.tup vs)) S) (.ref p) (.tup ds) :=
  .tup (.inl (.inl (hide_get upd_same (m.not n)))) (r.mono (hide_mono (Ex.new n)))
/-- data without lists and objects: what is hidden does not touch it -/
def flat : Dat → Bool
  | .lst _ => false
  | .frz _ => false
  | .obj _ _ => false
  | .tup l => flats l
  | _ => true
where flats : List Dat → Bool
  | [] => true
  | d :: r => flat d && flats r
mutual
theorem Rep.bare {S : List Addr} (m : Hid H S) : ∀ {v : V} {d : Dat}, flat d = true → Rep K T H v d → Rep K T (hide H S) v d
  | _, _, _, .non => .non
  | _, _, _, .bl b => .bl b
  | _, _, _, .int i => .int i
  | _, _, _, .str x => .str x
  | _, .tup ds, f, .tup h r => by
    have f' : flat.flats ds = true := by simpa [flat] using f
    refine .tup ?_ (Reps.bare m f' r)
    rcases h with h | h
    · have z := m.notTup h
      rcases h with h | ⟨o, h⟩
      · exact .inl (.inl (hide_get h z))
      · exact .inl (.inr ⟨o, hide_get h z⟩)
    · exact .inr h
  | _, _, f, .lst _ _ => by simp [flat] at f
  | _, _, f, .frz _ _ => by simp [flat] at f
  | _, _, f, .obj _ _ _ => by simp [flat] at f
theorem Reps.bare {S : List Addr} (m : Hid H S) : ∀ {vs : List V} {ds : List Dat}, flat.flats ds = true → Reps K T H vs ds → Reps K T (hide H S) vs ds
  | _, _, _, .nil => .nil
  | _, d :: ds, f, .cons h r => by
    have f' : flat d = true ∧ flat.flats ds = true := by simpa [flat.flats] using f
    exact .cons (Rep.bare m f'.1 h) (Reps.bare m f'.2 r)
end
end

/-! ### environments -/
structure RE (K : PySem.W.Frag) (T : CT) (ow : List Nat) (σ : Sg) (ρ : DEnv) (H : Hp) (S : List Addr) : Prop where
  mt : Hid H S
  len : σ.length = ρ.length
  fro : ∀ (i : Nat) (d : Dat), i ∉ ow → ρ[i]? = some (some d) → ∃ v, σ[i]? = some (some v) ∧ Rep K T (hide H S) v d
  own : ∀ (i : Nat) (d : Dat), i ∈ ow → ρ[i]? = some (some d) → ∃ (p : Addr) (vs : List V) (ds : List Dat), σ[i]? = some (some (.ref p)) ∧ d = .lst ds ∧ p ∈ S ∧ H p = some (.lst vs) ∧ Reps K T (hide H S) vs ds
  inj : ∀ (i j : Nat) (d e : Dat) (p : Addr), i ∈ ow → j ∈ ow → ρ[i]? = some (some d) → ρ[j]? = some (some e) → σ[i]? = some (some (.ref p)) → σ[j]? = some (some (.ref p)) → i = j
section
variable {K : PySem.W.Frag} {T : CT} {H H' : Hp} {ow : List Nat} {σ : Sg} {ρ : DEnv} {S : List Addr}
theorem RE.mono (r : RE K T ow σ ρ H S) (e : Ex H H') : RE K T ow σ ρ H' S :=
  ⟨r.mt.mono e, r.len, fun i d hi hd => let ⟨v, a, b⟩ := r.fro i d hi hd; ⟨v, a, b.mono (hide_mono e)⟩,
    fun i d hi hd => let ⟨p, vs, ds, a, b, c, x, y⟩ := r.own i d hi hd; ⟨p, vs, ds, a, b, c, e p _ x, y.mono (hide_mono e)⟩, r.inj⟩

/-! ### what is wanted behind an expression -/
def Want (K : PySem.W.Frag) (T : CT) (W : WX) (σ : Sg) (H : Hp) (S : List Addr) : Res Dat → VK → Prop
  | .ok d, Q => ∀ v H', Ex H H' → Rep K T (hide H' S) v d → Q v H'
  | .exc c, _ => ∀ H', Ex H H' → W (T.exc c) none σ H'
  | .stuck, _ => False
def WantB (T : CT) (W : WX) (σ : Sg) (H : Hp) : Res Bool → (Bool → Hp → Prop) → Prop
  | .ok d, Q => ∀ H', Ex H H' → Q d H'
  | .exc c, _ => ∀ H', Ex H H' → W (T.exc c) none σ H'
  | .stuck, _ => False
def WantA (K : PySem.W.Frag) (T : CT) (W : WX) (σ : Sg) (H : Hp) (S : List Addr) : Res (List Dat) → (List V → Hp → Prop) → Prop
  | .ok ds, Q => ∀ vs H', Ex H H' → Reps K T (hide H' S) vs ds → Q vs H'
  | .exc c, _ => ∀ H', Ex H H' → W (T.exc c) none σ H'
  | .stuck, _ => False
/-- a new list -/
def WantF (K : PySem.W.Frag) (T : CT) (W : WX) (σ : Sg) (H : Hp) (S : List Addr) : Res (List Dat) → VK → Prop
  | .ok ds, Q => ∀ p vs H', Ex H H' → H p = none → H' p = some (.lst vs) → Reps K T (hide H' (p :: S)) vs ds → Q (.ref p) H'
  | .exc c, _ => ∀ H', Ex H H' → W (T.exc c) none σ H'
  | .stuck, _ => False
def tD (K : PySem.W.Frag) (T : CT) (W : WX) (ow : List Nat) (f : DEnv → Res Dat) : TE := fun σ H Q => ∃ ρ S, RE K T ow σ ρ H S ∧ Want K T W σ H S (f ρ) Q
def tDF (K : PySem.W.Frag) (T : CT) (W : WX) (ow : List Nat) (f : DEnv → Res (List Dat)) : TE := fun σ H Q => ∃ ρ S, RE K T ow σ ρ H S ∧ WantF K T W σ H S (f ρ) Q
def tDB (K : PySem.W.Frag) (T : CT) (W : WX) (ow : List Nat) (f : DEnv → Res Bool) : TT := fun σ H Q => ∃ ρ S, RE K T ow σ ρ H S ∧ WantB T W σ H (f ρ) Q
def tDA (K : PySem.W.Frag) (T : CT) (W : WX) (ow : List Nat) (f : DEnv → Res (List Dat)) : TA := fun σ H Q => ∃ ρ S, RE K T ow σ ρ H S ∧ WantA K T W σ H S (f ρ) Q
end
def DE (X : Cx) (T : CT) (W : WX) (ow : List Nat) (e : Expr) (f : DEnv → Res Dat) : Prop := PE X e (tD X.K T W ow f)
def DF (X : Cx) (T : CT) (W : WX) (ow : List Nat) (e : Expr) (f : DEnv → Res (List Dat)) : Prop := PE X e (tDF X.K T W ow f)
def DT (X : Cx) (T : CT) (W : WX) (ow : List Nat) (e : Expr) (f : DEnv → Res Bool) : Prop := PT X e (tDB X.K T W ow f)
def DA (X : Cx) (T : CT) (W : WX) (ow : List Nat) (es : List Expr) (f : DEnv → Res (List Dat)) : Prop := PA X es (tDA X.K T W ow f)

section
variable {X : Cx} {T : CT} {W : WX} {ow : List Nat} {e a b : Expr} {es : List Expr} {pos : Pos}
theorem pe_imp {t t' : TE} (h : PE X e t) (i : ∀ σ H Q, t' σ H Q → t σ H Q) : PE X e t' := ⟨fun pins s σ H Q I q => h.run pins s σ H Q I (i σ H Q q)⟩
theorem pt_imp {t t' : TT} (h : PT X e t) (i : ∀ σ H Q, t' σ H Q → t σ H Q) : PT X e t' := ⟨fun pins s σ H Q I q => h.run pins s σ H Q I (i σ H Q q)⟩
theorem pw_imp {t t' : TT} (h : PW X e t) (i : ∀ σ H Q, t' σ H Q → t σ H Q) : PW X e t' := ⟨fun wh pins s σ H Q I q => h.run wh pins s σ H Q I (i σ H Q q)⟩
theorem pa_imp {t t' : TA} (h : PA X es t) (i : ∀ σ H Q, t' σ H Q → t σ H Q) : PA X es t' := ⟨fun pos pins s σ H Q I q => h.run pos pins s σ H Q I (i σ H Q q)⟩
theorem ps_imp {st : Stmt} {t t' : TS} (h : PS X st t) (i : ∀ D σ H, t' D σ H → t D σ H) : PS X st t' := ⟨fun pins s σ H D I q => h.run pins s σ H D I (i D σ H q)⟩
theorem pss_imp {st : List Stmt} {t t' : TS} (h : PSs X st t) (i : ∀ D σ H, t' D σ H → t D σ H) : PSs X st t' := ⟨fun pins s σ H D I q => h.run pins s σ H D I (i D σ H q)⟩
end

section
variable {K : PySem.W.Frag} {T : CT} {W : WX} {H : Hp} {ow : List Nat} {σ : Sg} {ρ : DEnv} {S : List Addr}
/-- the first part of a bind, then the rest -/
theorem tD_bind {α : Type} {fa : DEnv → Res Dat} {k : Dat → Res α} {P : Hp → Res α → Prop} {R : VK} (re : RE K T ow σ ρ H S) (w : P H ((fa ρ).bind k)) (hx : ∀ c, P H (.exc c) → ∀ H', Ex H H' → W (T.exc c) none σ H') (hs : ¬ P H .stuck)
    (hk : ∀ v d H1, P H (k d) → Ex H H1 → Rep K T (hide H1 S) v d → R v H1) : tD K T W ow fa σ H R := by
  refine ⟨ρ, S, re, ?_⟩
  cases q : fa ρ with
  | ok d =>
    rw [q] at w
    exact fun v H' e r => hk v d H' w e r
  | exc c =>
    rw [q] at w
    exact hx c w
  | stuck =>
    rw [q] at w
    exact absurd w hs
theorem Want.mono {r : Res Dat} {Q : VK} {H' : Hp} (w : Want K T W σ H S r Q) (e : Ex H H') : Want K T W σ H' S r Q := by
  cases r with
  | ok d => exact fun v H2 e2 q => w v H2 (e.trans e2) q
  | exc c => exact fun H2 e2 => w H2 (e.trans e2)
  | stuck => exact w
theorem WantB.mono {r : Res Bool} {Q : Bool → Hp → Prop} {H' : Hp} (w : WantB T W σ H r Q) (e : Ex H H') : WantB T W σ H' r Q := by
  cases r with
  | ok d => exact fun H2 e2 => w H2 (e.trans e2)
  | exc c => exact fun H2 e2 => w H2 (e.trans e2)
  | stuck => exact w
theorem WantA.mono {r : Res (List Dat)} {Q : List V → Hp → Prop} {H' : Hp} (w : WantA K T W σ H S r Q) (e : Ex H H') : WantA K T W σ H' S r Q := by
  cases r with
  | ok d => exact fun v H2 e2 q => w v H2 (e.trans e2) q
  | exc c => exact fun H2 e2 => w H2 (e.trans e2)
  | stuck => exact w
theorem WantF.mono {r : Res (List Dat)} {Q : VK} {H' : Hp} (w : WantF K T W σ H S r Q) (e : Ex H H') : WantF K T W σ H' S r Q := by
  cases r with
  | ok d => exact fun p v H2 e2 n h q => w p v H2 (e.trans e2) (e.fresh n) h q
  | exc c => exact fun H2 e2 => w H2 (e.trans e2)
  | stuck => exact w
/-- the parts of an expression, one after the other -/
theorem Want.part {fa : DEnv → Res Dat} {k : Dat → Res Dat} {Q R : VK} (re : RE K T ow σ ρ H S) (w : Want K T W σ H S ((fa ρ).bind k) Q)
    (hk : ∀ v d H1, Want K T W σ H1 S (k d) Q → RE K T ow σ ρ H1 S → Ex H H1 → Rep K T (hide H1 S) v d → R v H1) : tD K T W ow fa σ H R :=
  tD_bind (P := fun H r => Want K T W σ H S r Q) re w (fun _ w => w) (fun w => w) fun v d H1 w e r => hk v d H1 (w.mono e) (re.mono e) e r
theorem WantB.part {fa : DEnv → Res Dat} {k : Dat → Res Bool} {Q : Bool → Hp → Prop} {R : VK} (re : RE K T ow σ ρ H S) (w : WantB T W σ H ((fa ρ).bind k) Q)
    (hk : ∀ v d H1, WantB T W σ H1 (k d) Q → RE K T ow σ ρ H1 S → Ex H H1 → Rep K T (hide H1 S) v d → R v H1) : tD K T W ow fa σ H R :=
  tD_bind (P := fun H r => WantB T W σ H r Q) re w (fun _ w => w) (fun w => w) fun v d H1 w e r => hk v d H1 (w.mono e) (re.mono e) e r
theorem WantA.part {fa : DEnv → Res Dat} {k : Dat → Res (List Dat)} {Q : List V → Hp → Prop} {R : VK} (re : RE K T ow σ ρ H S) (w : WantA K T W σ H S ((fa ρ).bind k) Q)
    (hk : ∀ v d H1, WantA K T W σ H1 S (k d) Q → RE K T ow σ ρ H1 S → Ex H H1 → Rep K T (hide H1 S) v d → R v H1) : tD K T W ow fa σ H R :=
  tD_bind (P := fun H r => WantA K T W σ H S r Q) re w (fun _ w => w) (fun w => w) fun v d H1 w e r => hk v d H1 (w.mono e) (re.mono e) e r
theorem WantF.part {fa : DEnv → Res Dat} {k : Dat → Res (List Dat)} {Q R : VK} (re : RE K T ow σ ρ H S) (w : WantF K T W σ H S ((fa ρ).bind k) Q)
    (hk : ∀ v d H1, WantF K T W σ H1 S (k d) Q → RE K T ow σ ρ H1 S → Ex H H1 → Rep K T (hide H1 S) v d → R v H1) : tD K T W ow fa σ H R :=
  tD_bind (P := fun H r => WantF K T W σ H S r Q) re w (fun _ w => w) (fun w => w) fun v d H1 w e r => hk v d H1 (w.mono e) (re.mono e) e r
/-- a test first -/
theorem Want.partB {fa : DEnv → Res Bool} {k : Bool → Res Dat} {Q : VK} {R : Bool → Hp → Prop} (re : RE K T ow σ ρ H S) (w : Want K T W σ H S ((fa ρ).bind k) Q)
    (hk : ∀ d H1, Want K T W σ H1 S (k d) Q → RE K T ow σ ρ H1 S → Ex H H1 → R d H1) : tDB K T W ow fa σ H R := by
  refine ⟨ρ, S, re, ?_⟩
  cases q : fa ρ with
  | ok d =>
    rw [q] at w
    exact fun H' e => hk d H' (w.mono e) (re.mono e) e
  | exc c =>
    rw [q] at w
    exact w
  | stuck =>
    rw [q] at w
    exact w.elim
theorem WantB.partB {fa : DEnv → Res Bool} {k : Bool → Res Bool} {Q R : Bool → Hp → Prop} (re : RE K T ow σ ρ H S) (w : WantB T W σ H ((fa ρ).bind k) Q)
    (hk : ∀ d H1, WantB T W σ H1 (k d) Q → RE K T ow σ ρ H1 S → Ex H H1 → R d H1) : tDB K T W ow fa σ H R := by
  refine ⟨ρ, S, re, ?_⟩
  cases q : fa ρ with
  | ok d =>
    rw [q] at w
    exact fun H' e => hk d H' (w.mono e) (re.mono e) e
  | exc c =>
    rw [q] at w
    exact w
  | stuck =>
    rw [q] at w
    exact w.elim
theorem WantF.partB {fa : DEnv → Res Bool} {k : Bool → Res (List Dat)} {Q : VK} {R : Bool → Hp → Prop} (re : RE K T ow σ ρ H S) (w : WantF K T W σ H S ((fa ρ).bind k) Q)
    (hk : ∀ d H1, WantF K T W σ H1 S (k d) Q → RE K T ow σ ρ H1 S → Ex H H1 → R d H1) : tDB K T W ow fa σ H R := by
  refine ⟨ρ, S, re, ?_⟩
  cases q : fa ρ with
  | ok d =>
    rw [q] at w
    exact fun H' e => hk d H' (w.mono e) (re.mono e) e
  | exc c =>
    rw [q] at w
    exact w
  | stuck =>
    rw [q] at w
    exact w.elim
/-- arguments first -/
theorem Want.partA {fa : DEnv → Res (List Dat)} {k : List Dat → Res Dat} {Q : VK} {R : List V → Hp → Prop} (re : RE K T ow σ ρ H S) (w : Want K T W σ H S ((fa ρ).bind k) Q)
    (hk : ∀ vs ds H1, Want K T W σ H1 S (k ds) Q → RE K T ow σ ρ H1 S → Ex H H1 → Reps K T (hide H1 S) vs ds → R vs H1) : tDA K T W ow fa σ H R := by
  refine ⟨ρ, S, re, ?_⟩
  cases q : fa ρ with
  | ok d =>
    rw [q] at w
    exact fun vs H' e r => hk vs d H' (w.mono e) (re.mono e) e r
  | exc c =>
    rw [q] at w
    exact w
  | stuck =>
    rw [q] at w
    exact w.elim
theorem WantA.partA {fa : DEnv → Res (List Dat)} {k : List Dat → Res (List Dat)} {Q R : List V → Hp → Prop} (re : RE K T ow σ ρ H S) (w : WantA K T W σ H S ((fa ρ).bind k) Q)
    (hk : ∀ vs ds H1, WantA K T W σ H1 S (k ds) Q → RE K T ow σ ρ H1 S → Ex H H1 → Reps K T (hide H1 S) vs ds → R vs H1) : tDA K T W ow fa σ H R := by
  refine ⟨ρ, S, re, ?_⟩
  cases q : fa ρ with
  | ok d =>
    rw [q] at w
    exact fun vs H' e r => hk vs d H' (w.mono e) (re.mono e) e r
  | exc c =>
    rw [q] at w
    exact w
  | stuck =>
    rw [q] at w
    exact w.elim
theorem WantF.partA {fa : DEnv → Res (List Dat)} {k : List Dat → Res (List Dat)} {Q : VK} {R : List V → Hp → Prop} (re : RE K T ow σ ρ H S) (w : WantF K T W σ H S ((fa ρ).bind k) Q)
    (hk : ∀ vs ds H1, WantF K T W σ H1 S (k ds) Q → RE K T ow σ ρ H1 S → Ex H H1 → Reps K T (hide H1 S) vs ds → R vs H1) : tDA K T W ow fa σ H R := by
  refine ⟨ρ, S, re, ?_⟩
  cases q : fa ρ with
  | ok d =>
    rw [q] at w
    exact fun vs H' e r => hk vs d H' (w.mono e) (re.mono e) e r
  | exc c =>
    rw [q] at w
    exact w
  | stuck =>
    rw [q] at w
    exact w.elim
/-- a new list is a value like others -/
theorem WantF.of {r : Res (List Dat)} {Q : VK} (w : Want K T W σ H S (r.bind fun l => .ok (.lst l)) Q) (m : Hid H S) : WantF K T W σ H S r Q := by
  cases r with
  | ok l =>
    intro p vs H' e n h q
    refine w (.ref p) H' e (.lst (hide_get h (m.not n)) (q.mono (hide_sub fun x hx => List.mem_cons_of_mem _ hx)))
  | exc c => exact w
  | stuck => exact w
end
end Dl
/-! The D layer, part 2: expressions. -/
namespace Dl
open PySem PySem.Spec PyProof.Rows L2

/-! ### names and constants -/
def vVar (i : Nat) : DEnv → Res Dat := fun ρ => match ρ[i]? with
  | some (some d) => .ok d
  | _ => .stuck
def vC (d : Dat) : DEnv → Res Dat := fun _ => .ok d
section
variable {X : Cx} {T : CT} {W : WX} {ow : List Nat} {e a b c : Expr} {es : List Expr} {pos : Pos} {fa fb fc : DEnv → Res Dat}
theorem de_var (i : Nat) {x : Str} (hN : X.N[i]? = some x := by rfl) (hv : Vis X.env.scope x := by first | exact Or.inl rfl | exact Or.inr (Or.inl rfl) | exact Or.inr (Or.inr rfl)) (hi : i ∉ ow := by decide) (hd : (x == ("__debug__" : Str)) = false := by decide)
    (hcd : (x == ("__classdict__" : Str)) = false := by decide) : DE X T W ow (.Name x pos) (vVar i) := pe_imp (pe_var hN hv hd hcd) fun σ H Q h => by
  obtain ⟨ρ, S, re, w⟩ := h
  unfold vVar at w
  split at w
  · rename_i d e
    obtain ⟨v, h1, h2⟩ := re.fro i d hi e
    exact ⟨v, h1, w v H (Ex.refl H) h2⟩
  · exact w.elim
theorem de_const {v : V} {d : Dat} (h : PE X e (tC v)) (r : ∀ H, Rep X.K T H v d) : DE X T W ow e (vC d) := pe_imp h fun σ H Q h => by
  obtain ⟨ρ, S, re, w⟩ := h
  exact w v H (Ex.refl H) (r _)
theorem de_int {i : Int} {j} : DE X T W ow (.Constant (.int i) j pos) (vC (.int i)) := de_const pe_int fun _ => .int i
theorem de_bl {k : Bool} {j} : DE X T W ow (.Constant (.bool k) j pos) (vC (.bl k)) := de_const pe_bl fun _ => .bl k
theorem de_non {j} : DE X T W ow (.Constant .none j pos) (vC .non) := de_const pe_non fun _ => .non
theorem de_str {x : Str} {j} : DE X T W ow (.Constant (.str x) j pos) (vC (.str x)) := de_const pe_str fun _ => .str x
/-- a constant of the module -/
structure GC (K : PySem.W.Frag) (T : CT) (mg : Str → Option Value) (x : Str) (d : Dat) : Prop where
  ex : ∃ v u, mg x = some u ∧ RelV v u ∧ ∀ H, Rep K T H v d
theorem GC.int {K : PySem.W.Frag} {T : CT} {mg : Str → Option Value} {x : Str} {i : Int} {t : Tok} (h : mg x = some (.int i t)) : GC K T mg x (.int i) := ⟨.int i, _, h, ⟨t, rfl⟩, fun _ => .int i⟩
theorem GC.str {K : PySem.W.Frag} {T : CT} {mg : Str → Option Value} {x : Str} {i : Str} {t : Tok} (h : mg x = some (.str i t)) : GC K T mg x (.str i) := ⟨.str i, _, h, ⟨t, rfl⟩, fun _ => .str i⟩
theorem de_glob {x : Str} {d : Dat} (g : GC X.K T X.mg x d) (hg : Gl X x := by rfl) (hd : (x == ("__debug__" : Str)) = false := by decide) : DE X T W ow (.Name x pos) (vC d) := by
  obtain ⟨v, u, h1, h2, h3⟩ := g.ex
  exact de_const (pe_glob hg h1 h2 hd) h3

/-! ### two-place operators -/
def R2D (K : PySem.W.Frag) (T : CT) (r : R2) (g : Dat → Dat → Option Dat) : Prop := ∀ (S : List Addr) (H : Hp) (x y : V) (dx dy d : Dat) (Q : VK), Hid H S → Rep K T (hide H S) x dx → Rep K T (hide H S) y dy → g dx dy = some d →
  (∀ v H', Ex H H' → Rep K T (hide H' S) v d → Q v H') → r x y H Q
def vOp (g : Dat → Dat → Option Dat) (fa fb : DEnv → Res Dat) : DEnv → Res Dat := fun ρ => (fa ρ).bind fun x => (fb ρ).bind fun y => ofO (g x y)
theorem R2D.read {r : R2} {g : Dat → Dat → Option Dat} {K : PySem.W.Frag} {σ : Sg} {H : Hp} {Q : VK} (rd : R2D K T r g) (h : tD K T W ow (vOp g fa fb) σ H Q) :
    tD K T W ow fa σ H fun x H1 => tD K T W ow fb σ H1 fun y H2 => r x y H2 Q := by
  obtain ⟨ρ, S, re, w⟩ := h
  refine Want.part re w fun x dx H1 w1 re1 e1 rx => ?_
  refine Want.part re1 w1 fun y dy H2 w2 re2 e2 ry => ?_
  cases q : g dx dy with
  | none =>
    rw [q] at w2
    exact w2.elim
  | some d =>
    rw [q] at w2
    exact rd S H2 x y dx dy d Q re2.mt (rx.mono (hide_mono e2)) ry q w2
theorem de_op {op : Operator} {r : R2} {g : Dat → Dat → Option Dat} (ho : OpR X (binaryOp op) r) (rd : R2D X.K T r g) (ha : DE X T W ow a fa) (hb : DE X T W ow b fb) : DE X T W ow (.BinOp a op b pos) (vOp g fa fb) :=
  pe_imp (pe_op ho ha hb) fun _ _ _ h => rd.read h
theorem de_cmp {op : CmpOp} {r : R2} {g : Dat → Dat → Option Dat} (ho : OpR X (compareOp op) r) (rd : R2D X.K T r g) (ha : DE X T W ow a fa) (hb : DE X T W ow b fb) (hm : behindInMarks op b = false) : DE X T W ow (.Compare a [op] [b] pos) (vOp g fa fb) :=
  pe_imp (pe_cmpR ho ha hb hm) fun _ _ _ h => rd.read h

/-- what a test asks of a value -/
def blOf : Dat → Option Bool
  | .bl b => some b
  | _ => none
def vTest (fa : DEnv → Res Dat) : DEnv → Res Bool := fun ρ => (fa ρ).bind fun x => ofO (blOf x)
theorem test_read {K : PySem.W.Frag} {σ : Sg} {H : Hp} {Q : Bool → Hp → Prop} (h : tDB K T W ow (vTest fa) σ H Q) : tD K T W ow fa σ H fun x H' => ∃ k, x = .bl k ∧ Q k H' := by
  obtain ⟨ρ, S, re, w⟩ := h
  refine WantB.part re w fun x dx H1 w1 re1 e1 rx => ?_
  cases rx with
  | bl k => exact ⟨k, rfl, w1 H1 (Ex.refl H1)⟩
  | _ => exact w1.elim
theorem dt_cmp {op : CmpOp} {r : R2} {g : Dat → Dat → Option Dat} (ho : OpR X (compareOp op) r) (rd : R2D X.K T r g) (ha : DE X T W ow a fa) (hb : DE X T W ow b fb) (hm : behindInMarks op b = false) : DT X T W ow (.Compare a [op] [b] pos) (vTest (vOp g fa fb)) :=
  pt_imp (pt_cmpR ho ha hb hm) fun σ H Q h => by
    obtain ⟨ρ, S, re, w⟩ := h
    refine rd.read (Q := fun x H' => ∃ k, x = .bl k ∧ Q k H') ?_
    exact test_read ⟨ρ, S, re, w⟩
/-- an expression that gives a bool, as a test -/
theorem dt_val (ha : DE X T W ow e fa) (he : ∀ whole, isTrue e X.env whole = (do let v ← whole; standAt e.pos; holding [v] (truthy v)) := by intro _; rfl) : DT X T W ow e (vTest fa) :=
  pt_imp (pt_val ha he) fun _ _ _ h => test_read h
/-- by truth -/
def truD : Dat → Option Bool
  | .non => some false
  | .bl b => some b
  | .int i => some (i != 0)
  | .str s => if s.length ≤ sizeLine then some ((s.length : Int) != 0) else none
  | .tup l => some !l.isEmpty
  | .lst l => some !l.isEmpty
  | _ => none
theorem truD_ok {K : PySem.W.Frag} {H H' : Hp} {x : V} {d : Dat} {k : Bool} (e : Ex H H') (r : Rep K T H x d) (h : truD d = some k) : TruV K x H' k := by
  have emp : ∀ {vs : List V} {ds : List Dat}, Reps K T H vs ds → (!vs.isEmpty) = !ds.isEmpty := fun r => by cases r <;> rfl
  cases r with
  | non => exact (Option.some.inj h).symm
  | bl b => exact (Option.some.inj h).symm
  | int i => exact (Option.some.inj h).symm
  | str s =>
    simp only [truD] at h
    by_cases z : s.length ≤ sizeLine
    · rw [if_pos z] at h
      exact ⟨z, (Option.some.inj h).symm⟩
    · rw [if_neg z] at h
      cases h
  | tup hs r => exact .inr (.inl ⟨_, ex_t e hs, by rw [emp r]; exact (Option.some.inj h).symm⟩)
  | lst hs r => exact .inl ⟨_, .inl (.inl (e _ _ hs)), by rw [emp r]; exact (Option.some.inj h).symm⟩
  | frz hs r => cases h
  | obj _ _ _ => cases h
def vTru (fa : DEnv → Res Dat) : DEnv → Res Bool := fun ρ => (fa ρ).bind fun x => ofO (truD x)
theorem dt_truth (ha : DE X T W ow e fa) (he : ∀ whole, isTrue e X.env whole = (do let v ← whole; standAt e.pos; holding [v] (truthy v)) := by intro _; rfl) : DT X T W ow e (vTru fa) :=
  pt_imp (pt_truth ha he) fun σ H Q h => by
    obtain ⟨ρ, S, re, w⟩ := h
    refine WantB.part re w fun x dx H1 w1 re1 e1 rx => ?_
    cases q : truD dx with
    | none =>
      rw [q] at w1
      exact w1.elim
    | some k =>
      rw [q] at w1
      exact ⟨k, truD_ok hide_ex rx q, w1 H1 (Ex.refl H1)⟩
/-- and, or, not as tests -/
def vAndT (f g : DEnv → Res Bool) : DEnv → Res Bool := fun ρ => (f ρ).bind fun x => if x = true then g ρ else .ok false
def vOrT (f g : DEnv → Res Bool) : DEnv → Res Bool := fun ρ => (f ρ).bind fun x => if x = true then .ok true else g ρ
def vNotT (f : DEnv → Res Bool) : DEnv → Res Bool := fun ρ => (f ρ).bind fun x => .ok (!x)
/-- a chain of and, or -/
def DW (X : Cx) (T : CT) (W : WX) (ow : List Nat) (e : Expr) (f : DEnv → Res Bool) : Prop := PW X e (tDB X.K T W ow f)
theorem DW.dt {f : DEnv → Res Bool} (h : DW X T W ow e f) : DT X T W ow e f := PW.pt h
variable {ta tb : DEnv → Res Bool} {rest : List Expr}
theorem dw_and1 (ha : DT X T W ow a ta) : DW X T W ow (.BoolOp .And [a] pos) ta := pw_and1 ha
theorem dw_or1 (ha : DT X T W ow a ta) : DW X T W ow (.BoolOp .Or [a] pos) ta := pw_or1 ha
theorem dw_and (ha : DT X T W ow a ta) (hb : DW X T W ow (.BoolOp .And (b :: rest) pos) tb) : DW X T W ow (.BoolOp .And (a :: b :: rest) pos) (vAndT ta tb) := pw_imp (pw_and ha hb) fun σ H Q h => by
  obtain ⟨ρ, S, re, w⟩ := h
  refine WantB.partB re w fun k H1 w1 re1 e1 => ?_
  cases k with
  | true => exact ⟨ρ, S, re1, w1⟩
  | false => exact w1 H1 (Ex.refl H1)
theorem dw_or (ha : DT X T W ow a ta) (hb : DW X T W ow (.BoolOp .Or (b :: rest) pos) tb) : DW X T W ow (.BoolOp .Or (a :: b :: rest) pos) (vOrT ta tb) := pw_imp (pw_or ha hb) fun σ H Q h => by
  obtain ⟨ρ, S, re, w⟩ := h
  refine WantB.partB re w fun k H1 w1 re1 e1 => ?_
  cases k with
  | true => exact w1 H1 (Ex.refl H1)
  | false => exact ⟨ρ, S, re1, w1⟩
theorem dt_not (ha : DT X T W ow a ta) : DT X T W ow (.UnaryOp .Not a pos) (vNotT ta) := pt_imp (pt_not ha) fun σ H Q h => by
  obtain ⟨ρ, S, re, w⟩ := h
  exact WantB.partB re w fun k H1 w1 re1 e1 => w1 H1 (Ex.refl H1)
/-- and, or, not as values: all but the last are bools -/
def vAnd (fa fb : DEnv → Res Dat) : DEnv → Res Dat := fun ρ => (fa ρ).bind fun x => match x with
  | .bl true => fb ρ
  | .bl false => .ok (.bl false)
  | _ => .stuck
def vOr (fa fb : DEnv → Res Dat) : DEnv → Res Dat := fun ρ => (fa ρ).bind fun x => match x with
  | .bl true => .ok (.bl true)
  | .bl false => fb ρ
  | _ => .stuck
def notD : Dat → Option Dat
  | .bl b => some (.bl !b)
  | _ => none
def v1 (g : Dat → Option Dat) (fa : DEnv → Res Dat) : DEnv → Res Dat := fun ρ => (fa ρ).bind fun x => ofO (g x)
theorem de_one {op} (h : DE X T W ow a fa) : DE X T W ow (.BoolOp op [a] pos) fa := pe_one h
theorem de_and (ha : DE X T W ow a fa) (hb : DE X T W ow (.BoolOp .And (b :: rest) pos) fb) : DE X T W ow (.BoolOp .And (a :: b :: rest) pos) (vAnd fa fb) := pe_imp (pe_and ha hb) fun σ H Q h => by
  obtain ⟨ρ, S, re, w⟩ := h
  refine Want.part re w fun x dx H1 w1 re1 e1 rx => ?_
  cases rx with
  | bl k =>
    cases k with
    | true => exact ⟨true, rfl, ρ, S, re1, w1⟩
    | false => exact ⟨false, rfl, w1 _ H1 (Ex.refl H1) (.bl false)⟩
  | _ => exact w1.elim
theorem de_or (ha : DE X T W ow a fa) (hb : DE X T W ow (.BoolOp .Or (b :: rest) pos) fb) : DE X T W ow (.BoolOp .Or (a :: b :: rest) pos) (vOr fa fb) := pe_imp (pe_or ha hb) fun σ H Q h => by
  obtain ⟨ρ, S, re, w⟩ := h
  refine Want.part re w fun x dx H1 w1 re1 e1 rx => ?_
  cases rx with
  | bl k =>
    cases k with
    | true => exact ⟨true, rfl, w1 _ H1 (Ex.refl H1) (.bl true)⟩
    | false => exact ⟨false, rfl, ρ, S, re1, w1⟩
  | _ => exact w1.elim
theorem de_not (ha : DE X T W ow a fa) : DE X T W ow (.UnaryOp .Not a pos) (v1 notD fa) := pe_imp (pe_not ha) fun σ H Q h => by
  obtain ⟨ρ, S, re, w⟩ := h
  refine Want.part re w fun x dx H1 w1 re1 e1 rx => ?_
  cases rx with
  | bl k => exact ⟨k, rfl, w1 _ H1 (Ex.refl H1) (.bl _)⟩
  | _ => exact w1.elim
/-- a if t else b -/
def vIf (t : DEnv → Res Bool) (fa fb : DEnv → Res Dat) : DEnv → Res Dat := fun ρ => (t ρ).bind fun x => if x = true then fa ρ else fb ρ
theorem de_if (hc : DT X T W ow c ta) (ha : DE X T W ow a fa) (hb : DE X T W ow b fb) : DE X T W ow (.IfExp c a b pos) (vIf ta fa fb) := pe_imp (pe_ifExp hc ha hb) fun σ H Q h => by
  obtain ⟨ρ, S, re, w⟩ := h
  refine Want.partB re w fun k H1 w1 re1 e1 => ?_
  cases k with
  | true => exact ⟨ρ, S, re1, w1⟩
  | false => exact ⟨ρ, S, re1, w1⟩
def vIfF (t : DEnv → Res Bool) (fa fb : DEnv → Res (List Dat)) : DEnv → Res (List Dat) := fun ρ => (t ρ).bind fun x => if x = true then fa ρ else fb ρ
theorem df_if {fa fb : DEnv → Res (List Dat)} (hc : DT X T W ow c ta) (ha : DF X T W ow a fa) (hb : DF X T W ow b fb) : DF X T W ow (.IfExp c a b pos) (vIfF ta fa fb) := pe_imp (pe_ifExp hc ha hb) fun σ H Q h => by
  obtain ⟨ρ, S, re, w⟩ := h
  refine WantF.partB re w fun k H1 w1 re1 e1 => ?_
  cases k with
  | true => exact ⟨ρ, S, re1, w1⟩
  | false => exact ⟨ρ, S, re1, w1⟩
/-- a new list as a value -/
def vL (f : DEnv → Res (List Dat)) : DEnv → Res Dat := fun ρ => (f ρ).bind fun l => .ok (.lst l)
theorem de_f {f : DEnv → Res (List Dat)} (h : DF X T W ow e f) : DE X T W ow e (vL f) := pe_imp h fun σ H Q h => by
  obtain ⟨ρ, S, re, w⟩ := h
  exact ⟨ρ, S, re, WantF.of w re.mt⟩
/-! ### arguments, displays -/
def aNil : DEnv → Res (List Dat) := fun _ => .ok []
def aCons (f : DEnv → Res Dat) (g : DEnv → Res (List Dat)) : DEnv → Res (List Dat) := fun ρ => (f ρ).bind fun x => (g ρ).bind fun l => .ok (x :: l)
theorem da_nil : DA X T W ow [] aNil := pa_imp pa_nil fun σ H Q h => by
  obtain ⟨ρ, S, re, w⟩ := h
  exact w [] H (Ex.refl H) .nil
theorem da_cons {fs : DEnv → Res (List Dat)} (h : DE X T W ow e fa) (hs : DA X T W ow es fs) (hst : starEach (e :: es) X.env = (false, eval e X.env) :: starEach es X.env := by rfl) : DA X T W ow (e :: es) (aCons fa fs) := pa_imp (pa_cons h hs hst) fun σ H Q h => by
  obtain ⟨ρ, S, re, w⟩ := h
  refine WantA.part re w fun x dx H1 w1 re1 e1 rx => ?_
  refine WantA.partA re1 w1 fun vs ds H2 w2 re2 e2 rs => ?_
  exact w2 _ H2 (Ex.refl H2) (.cons (rx.mono (hide_mono e2)) rs)
def vTup (f : DEnv → Res (List Dat)) : DEnv → Res Dat := fun ρ => (f ρ).bind fun l => if l.length ≤ 1000 then .ok (.tup l) else .stuck
def fLst (f : DEnv → Res (List Dat)) : DEnv → Res (List Dat) := fun ρ => (f ρ).bind fun l => if l.length ≤ 1000 then .ok l else .stuck
theorem de_tup {x1} {fs : DEnv → Res (List Dat)} (hs : DA X T W ow es fs) : DE X T W ow (.Tuple es x1 pos) (vTup fs) := pe_imp (pe_tup hs) fun σ H Q h => by
  obtain ⟨ρ, S, re, w⟩ := h
  refine Want.partA re w fun vs ds H1 w1 re1 e1 rs => ?_
  split at w1
  · rename_i hl
    refine ⟨Nat.le_trans (by rw [rs.length]; exact hl) (by decide : 1000 ≤ sizeLine), fun p hp => ?_⟩
    exact w1 _ _ (Ex.new hp) (rep_newT re1.mt hp rs)
  · exact w1.elim
theorem df_lst {fs : DEnv → Res (List Dat)} (hs : DA X T W ow es fs) : DF X T W ow (.List es pos) (fLst fs) := pe_imp (pe_lst hs) fun σ H Q h => by
  obtain ⟨ρ, S, re, w⟩ := h
  refine WantF.partA re w fun vs ds H1 w1 re1 e1 rs => ?_
  split at w1
  · rename_i hl
    refine ⟨Nat.le_trans (by rw [rs.length]; exact hl) (by decide : 1000 ≤ sizeLine), fun p hp => ?_⟩
    exact w1 p vs _ (Ex.new hp) hp upd_same (rs.mono (hide_new (Ex.new hp) hp))
  · exact w1.elim
end
end Dl
/-! The D layer, part 3: operators, items, slices, built-ins. -/
namespace Dl
open PySem PySem.Spec PyProof.Rows L2

/-! ### arithmetic -/
def addD : Dat → Dat → Option Dat
  | .int i, .int j => some (.int (i + j))
  | .str a, .str b => if a.length + b.length ≤ sizeLine then some (.str (a ++ b)) else none
  | .tup a, .tup b => if a.length + b.length ≤ sizeLine then some (.tup (a ++ b)) else none
  | .lst a, .lst b => if a.length + b.length ≤ sizeLine then some (.lst (a ++ b)) else none
  | _, _ => none
def intOp (g : Int → Int → Option Int) : Dat → Dat → Option Dat
  | .int i, .int j => (g i j).map .int
  | _, _ => none
def subD := intOp fun i j => some (i - j)
def fdivI (i j : Int) : Option Int := if 0 < j then (if j.natAbs.log2 < 9000 then some (i / j) else none) else if j ≠ 0 ∧ j.natAbs < 1073741824 then some (i.fdiv j) else none
def fdivD := intOp fdivI
def modI (i j : Int) : Option Int := if 0 < j then some (i % j) else if j ≠ 0 then some (i.fmod j) else none
def modD := intOp modI
def powI (i j : Int) : Option Int := if 0 ≤ j ∧ j ≤ 1000 ∧ i.natAbs < 2 ^ 64 then some (i ^ j.toNat) else none
def powD := intOp powI
def mulOk (i j : Int) : Bool := decide (i.natAbs < 2 ^ 64) || decide (j.natAbs < 2 ^ 64) || decide (i.natAbs.log2 + j.natAbs.log2 < 1000000)
def mulD : Dat → Dat → Option Dat
  | .int i, .int j => if mulOk i j then some (.int (i * j)) else none
  | .lst l, .int k => if k ≤ 100000 ∧ -100000 ≤ k ∧ l.length ≤ 100 then some (.lst (List.replicate k.toNat l).flatten) else none
  | .tup l, .int k => if 2 ≤ k ∧ k ≤ 1000 ∧ l.length ≤ 1000 ∧ l.isEmpty = false then some (.tup (List.replicate k.toNat l).flatten) else none
  | _, _ => none
def negD : Dat → Option Dat
  | .int i => some (.int (-i))
  | _ => none
section
variable {K : PySem.W.Frag} {T : CT}
theorem intOp_some {g : Int → Int → Option Int} {dx dy d : Dat} (h : intOp g dx dy = some d) : ∃ i j k, dx = .int i ∧ dy = .int j ∧ g i j = some k ∧ d = .int k := by
  unfold intOp at h
  split at h
  · rename_i i j
    cases q : g i j with
    | none =>
      rw [q] at h
      cases h
    | some k =>
      rw [q] at h
      exact ⟨i, j, k, rfl, rfl, q, (Option.some.inj h).symm⟩
  · cases h
theorem rd_int {r : R2} {g : Int → Int → Option Int} (h : ∀ i j k H (Q : VK), g i j = some k → Q (.int k) H → r (.int i) (.int j) H Q) : R2D K T r (intOp g) := fun S H x y dx dy d Q m rx ry e q => by
  obtain ⟨i, j, k, rfl, rfl, e2, rfl⟩ := intOp_some e
  cases rx
  cases ry
  exact h i j k H Q e2 (q _ H (Ex.refl H) (.int k))
theorem rd_sub : R2D K T (rI0 fun i j => .int (i - j)) subD := rd_int fun i j k H Q e q => ⟨i, j, rfl, rfl, by cases e; exact q⟩
def rFdivAll : R2 := fun x y H Q => rI CDivW (fun i j => .int (i / j)) x y H Q ∨ rI CDivN (fun i j => .int (i.fdiv j)) x y H Q
theorem op_fdivAll {X : Cx} : OpR X (binaryOp .FloorDiv) rFdivAll := op_fdivW.or op_fdivN
theorem rd_fdiv : R2D K T rFdivAll fdivD := rd_int fun i j k H Q e q => by
  unfold fdivI at e
  split at e
  · split at e
    · rename_i h1 h2
      exact .inl ⟨i, j, rfl, rfl, ⟨h1, h2⟩, by cases e; exact q⟩
    · cases e
  · split at e
    · rename_i h1 h2
      exact .inr ⟨i, j, rfl, rfl, h2, by cases e; exact q⟩
    · cases e
def rModAll : R2 := fun x y H Q => rI (fun _ j => 0 < j) (fun i j => .int (i % j)) x y H Q ∨ rI (fun _ j => j ≠ 0) (fun i j => .int (i.fmod j)) x y H Q
theorem op_modAll {X : Cx} : OpR X (binaryOp .Mod) rModAll := op_mod.or op_modN
theorem rd_mod : R2D K T rModAll modD := rd_int fun i j k H Q e q => by
  unfold modI at e
  split at e
  · rename_i h1
    exact .inl ⟨i, j, rfl, rfl, h1, by cases e; exact q⟩
  · split at e
    · rename_i h1 h2
      exact .inr ⟨i, j, rfl, rfl, h2, by cases e; exact q⟩
    · cases e
theorem rd_pow : R2D K T (rI CPow fun i j => .int (i ^ j.toNat)) powD := rd_int fun i j k H Q e q => by
  unfold powI at e
  split at e
  · rename_i h1
    exact ⟨i, j, rfl, rfl, ⟨h1.1, by omega, h1.2.2⟩, by cases e; exact q⟩
  · cases e
def rAddAll (K : PySem.W.Frag) : R2 := fun x y H Q => rI0 (fun i j => .int (i + j)) x y H Q ∨ ((∃ i j, x = .str i ∧ y = .str j ∧ i.length + j.length ≤ sizeLine ∧ Q (.str (i ++ j)) H) ∨ (rCatA K x y H Q ∨ rCat x y H Q))
theorem op_addAll {X : Cx} : OpR X (binaryOp .Add) (rAddAll X.K) := op_add.or (op_add_str.or (op_catA.or op_cat))
theorem rd_add : R2D K T (rAddAll K) addD := fun S H x y dx dy d Q m rx ry e q => by
  cases rx with
  | int i =>
    cases ry with
    | int j => exact .inl ⟨i, j, rfl, rfl, by cases e; exact q _ H (Ex.refl H) (.int _)⟩
    | _ => cases e
  | str a =>
    cases ry with
    | str b =>
      simp only [addD] at e
      by_cases z : a.length + b.length ≤ sizeLine
      · rw [if_pos z] at e
        exact .inr (.inl ⟨a, b, rfl, rfl, z, by cases e; exact q _ H (Ex.refl H) (.str _)⟩)
      · rw [if_neg z] at e
        cases e
    | _ => cases e
  | @tup p vs ds hs rs =>
    cases ry with
    | @tup p' ws es ht ss =>
      simp only [addD] at e
      by_cases z : ds.length + es.length ≤ sizeLine
      · rw [if_pos z] at e
        cases e
        refine .inr (.inr (.inl ⟨p, p', vs, ws, rfl, rfl, ex_t hide_ex hs, ex_t hide_ex ht, by rw [rs.length, ss.length]; exact z, fun h => ?_, fun _ h => ?_, fun _ _ p2 np => ?_⟩))
        · subst h
          cases rs
          exact q _ H (Ex.refl H) (.tup ht ss)
        · subst h
          cases ss
          rw [List.append_nil] at q
          exact q _ H (Ex.refl H) (.tup hs rs)
        · exact q _ _ (Ex.new np) (rep_newT m np (rs.append ss))
      · rw [if_neg z] at e
        cases e
    | _ => cases e
  | @lst p vs ds hs rs =>
    cases ry with
    | @lst p' ws es ht ss =>
      simp only [addD] at e
      by_cases z : ds.length + es.length ≤ sizeLine
      · rw [if_pos z] at e
        cases e
        refine .inr (.inr (.inr ⟨p, p', vs, ws, rfl, rfl, hide_ex _ _ hs, hide_ex _ _ ht, by rw [rs.length, ss.length]; exact z, fun p2 np => ?_⟩))
        exact q _ _ (Ex.new np) (rep_newL m np (rs.append ss))
      · rw [if_neg z] at e
        cases e
    | _ => cases e
  | _ => cases e
def rMulAll (K : PySem.W.Frag) : R2 := fun x y H Q => rI CMul (fun i j => .int (i * j)) x y H Q ∨ (rI CMulW (fun i j => .int (i * j)) x y H Q ∨ (rRep x y H Q ∨ rRepT K x y H Q))
theorem op_mulAll {X : Cx} : OpR X (binaryOp .Mult) (rMulAll X.K) := op_mul.or (op_mulW.or (op_rep.or op_repT))
theorem mul64 {i : Int} (h : i.natAbs < 2 ^ 64) : -(2 ^ 64) < i ∧ i < 2 ^ 64 := by omega
theorem rd_mul : R2D K T (rMulAll K) mulD := fun S H x y dx dy d Q m rx ry e q => by
  cases rx with
  | int i =>
    cases ry with
    | int j =>
      simp only [mulD] at e
      by_cases z : mulOk i j = true
      · rw [if_pos z] at e
        cases e
        unfold mulOk at z
        rw [Bool.or_eq_true, Bool.or_eq_true] at z
        rcases z with (z | z) | z
        · exact .inl ⟨i, j, rfl, rfl, .inl (mul64 (of_decide_eq_true z)), q _ H (Ex.refl H) (.int _)⟩
        · exact .inl ⟨i, j, rfl, rfl, .inr (mul64 (of_decide_eq_true z)), q _ H (Ex.refl H) (.int _)⟩
        · have z' := of_decide_eq_true z
          exact .inr (.inl ⟨i, j, rfl, rfl, z', q _ H (Ex.refl H) (.int _)⟩)
      · rw [if_neg z] at e
        cases e
    | _ => cases e
  | @lst p vs ds hs rs =>
    cases ry with
    | int k =>
      simp only [mulD] at e
      by_cases z : k ≤ 100000 ∧ -100000 ≤ k ∧ ds.length ≤ 100
      · rw [if_pos z] at e
        cases e
        obtain ⟨z1, z2, z3⟩ := z
        have hk : k.toNat ≤ 100000 := by omega
        refine .inr (.inr (.inl ⟨p, k, vs, rfl, rfl, hide_ex _ _ hs, by omega, by omega, ?_, fun p2 np => ?_⟩))
        · rw [rs.length]
          exact Nat.le_trans (Nat.mul_le_mul z3 hk) (by decide)
        · exact q _ _ (Ex.new np) (rep_newL m np (rs.flatten_replicate _))
      · rw [if_neg z] at e
        cases e
    | _ => cases e
  | @tup p vs ds hs rs =>
    cases ry with
    | int k =>
      simp only [mulD] at e
      by_cases z : 2 ≤ k ∧ k ≤ 1000 ∧ ds.length ≤ 1000 ∧ ds.isEmpty = false
      · rw [if_pos z] at e
        cases e
        obtain ⟨z1, z2, z3, z4⟩ := z
        refine .inr (.inr (.inr ⟨p, k, vs, rfl, rfl, ex_t hide_ex hs, ?_, z1, z2, by rw [rs.length]; exact z3, fun p2 np => ?_⟩))
        · rintro rfl
          cases rs
          cases z4
        · exact q _ _ (Ex.new np) (rep_newT m np (rs.flatten_replicate _))
      · rw [if_neg z] at e
        cases e
    | _ => cases e
  | _ => cases e
end

/-! ### == at any depth -/
mutual
def toPy : Dat → PyData
  | .non => .none
  | .bl b => .bool b
  | .int i => .int i
  | .str s => .str s
  | .tup l => .tuple (toPys l)
  | .lst l => .list (toPys l)
  | .frz _ => .none
  | .obj _ _ => .none
def toPys : List Dat → List PyData
  | [] => []
  | d :: r => toPy d :: toPys r
end
mutual
def eqvD : Dat → Dat → Bool
  | .non, .non => true
  | .bl a, .bl b => a == b
  | .bl a, .int j => (if a then 1 else 0) == j
  | .int i, .bl b => i == (if b then 1 else 0)
  | .int i, .int j => i == j
  | .str x, .str y => x == y
  | .lst xs, .lst ys => eqvDs xs ys
  | .tup xs, .tup ys => eqvDs xs ys
  | _, _ => false
def eqvDs : List Dat → List Dat → Bool
  | [], [] => true
  | x :: xs, y :: ys => eqvD x y && eqvDs xs ys
  | _, _ => false
end
/-- what may be compared: none, bools, ints, texts, lists and tuples of these, n deep -/
def shp : Nat → Dat → Bool
  | _, .non => true
  | _, .bl _ => true
  | _, .int _ => true
  | _, .str s => s.cps.all fun c => decide (c < 0x110000)
  | n + 1, .tup l => l.all (shp n)
  | n + 1, .lst l => l.all (shp n)
  | _, _ => false
theorem toPys_map (l : List Dat) : toPys l = l.map toPy := by
  induction l with
  | nil => rfl
  | cons d r ih => rw [toPys, ih]; rfl
theorem canAll_of {l : List PyData} (h : ∀ d ∈ l, d.canLay0 = true) : PyData.canLayAll0 l = true := by
  induction l with
  | nil => simp [PyData.canLayAll0]
  | cons d r ih =>
    rw [PyData.canLayAll0, h d List.mem_cons_self, ih fun e he => h e (List.mem_cons_of_mem _ he)]
    rfl
theorem depthAll_of {l : List PyData} {n : Nat} (h : ∀ d ∈ l, d.depth ≤ n) : PyData.depthAll l ≤ n := by
  induction l with
  | nil => simp [PyData.depthAll]
  | cons d r ih =>
    rw [PyData.depthAll]
    exact Nat.max_le.mpr ⟨h d List.mem_cons_self, ih fun e he => h e (List.mem_cons_of_mem _ he)⟩
theorem shp_ok : ∀ (n : Nat) (d : Dat), shp n d = true → (toPy d).canLay0 = true ∧ (toPy d).depth ≤ n
  | n, .non, _ => ⟨by simp [toPy, PyData.canLay0], by simp [toPy, PyData.depth]⟩
  | n, .bl _, _ => ⟨by simp [toPy, PyData.canLay0], by simp [toPy, PyData.depth]⟩
  | n, .int _, _ => ⟨by simp [toPy, PyData.canLay0], by simp [toPy, PyData.depth]⟩
  | n, .str s, h => by
    have h' : s.cps.all (fun c => decide (c < 0x110000)) = true := by
      cases n <;> exact h
    exact ⟨by simp only [toPy, PyData.canLay0]; exact h', by simp [toPy, PyData.depth]⟩
  | 0, .tup _, h => by cases h
  | 0, .lst _, h => by cases h
  | n + 1, .tup l, h => by
    have h' : ∀ d ∈ l, shp n d = true := List.all_eq_true.mp h
    have ih : ∀ p ∈ toPys l, p.canLay0 = true ∧ p.depth ≤ n := fun p hp => by
      rw [toPys_map] at hp
      obtain ⟨d, hd, rfl⟩ := List.mem_map.mp hp
      exact shp_ok n d (h' d hd)
    refine ⟨?_, ?_⟩
    · simp only [toPy, PyData.canLay0]
      exact canAll_of fun p hp => (ih p hp).1
    · simp only [toPy, PyData.depth]
      exact Nat.succ_le_succ (depthAll_of fun p hp => (ih p hp).2)
  | n + 1, .lst l, h => by
    have h' : ∀ d ∈ l, shp n d = true := List.all_eq_true.mp h
    have ih : ∀ p ∈ toPys l, p.canLay0 = true ∧ p.depth ≤ n := fun p hp => by
      rw [toPys_map] at hp
      obtain ⟨d, hd, rfl⟩ := List.mem_map.mp hp
      exact shp_ok n d (h' d hd)
    refine ⟨?_, ?_⟩
    · simp only [toPy, PyData.canLay0]
      exact canAll_of fun p hp => (ih p hp).1
    · simp only [toPy, PyData.depth]
      exact Nat.succ_le_succ (depthAll_of fun p hp => (ih p hp).2)
  | 0, .frz _, h => by cases h
  | n + 1, .frz _, h => by cases h
  | 0, .obj _ _, h => by cases h
  | n + 1, .obj _ _, h => by cases h
theorem shaped_of {n : Nat} {d : Dat} (h : shp n d = true) (hn : n ≤ 64) : SeqAt.shaped (toPy d) = true := by
  obtain ⟨a, b⟩ := shp_ok n d h
  unfold SeqAt.shaped
  rw [a, decide_eq_true (Nat.le_trans b hn)]
  rfl
mutual
theorem eqv_toPy : ∀ (n : Nat) (d e : Dat), shp n d = true → shp n e = true → PyData.eqv (toPy d) (toPy e) = eqvD d e
  | n, .non, e, _, he => by cases e <;> first | rfl | (cases n <;> cases he)
  | n, .bl _, e, _, he => by cases e <;> first | rfl | (cases n <;> cases he)
  | n, .int _, e, _, he => by cases e <;> first | rfl | (cases n <;> cases he)
  | n, .str _, e, _, he => by cases e <;> first | rfl | (cases n <;> cases he)
  | 0, .tup _, _, hd, _ => by cases hd
  | 0, .lst _, _, hd, _ => by cases hd
  | n + 1, .tup l, e, hd, he => by
    cases e with
    | tup m =>
      simp only [toPy, PyData.eqv, eqvD]
      exact eqvs_toPy n l m (List.all_eq_true.mp hd) (List.all_eq_true.mp he)
    | frz _ => cases he
    | obj _ _ => cases he
    | _ => simp [toPy, PyData.eqv, eqvD]
  | n + 1, .lst l, e, hd, he => by
    cases e with
    | lst m =>
      simp only [toPy, PyData.eqv, eqvD]
      exact eqvs_toPy n l m (List.all_eq_true.mp hd) (List.all_eq_true.mp he)
    | frz _ => cases he
    | obj _ _ => cases he
    | _ => simp [toPy, PyData.eqv, eqvD]
  | 0, .frz _, _, hd, _ => by cases hd
  | n + 1, .frz _, _, hd, _ => by cases hd
  | 0, .obj _ _, _, hd, _ => by cases hd
  | n + 1, .obj _ _, _, hd, _ => by cases hd
theorem eqvs_toPy : ∀ (n : Nat) (l m : List Dat), (∀ d ∈ l, shp n d = true) → (∀ d ∈ m, shp n d = true) → PyData.eqvAll (toPys l) (toPys m) = eqvDs l m
  | _, [], [], _, _ => by simp [toPys, PyData.eqvAll, eqvDs]
  | _, [], _ :: _, _, _ => by simp [toPys, PyData.eqvAll, eqvDs]
  | _, _ :: _, [], _, _ => by simp [toPys, PyData.eqvAll, eqvDs]
  | n, d :: l, e :: m, h1, h2 => by
    simp only [toPys, PyData.eqvAll, eqvDs]
    rw [eqv_toPy n d e (h1 d List.mem_cons_self) (h2 e List.mem_cons_self), eqvs_toPy n l m (fun x hx => h1 x (List.mem_cons_of_mem _ hx)) fun x hx => h2 x (List.mem_cons_of_mem _ hx)]
end
section
variable {K : PySem.W.Frag} {T : CT} {H : Hp}
mutual
theorem Rep.dp : ∀ {n : Nat} {v : V} {d : Dat}, shp n d = true → Rep K T H v d → Dp K H v (toPy d)
  | _, _, _, _, .non => .non
  | _, _, _, _, .bl b => .bl b
  | _, _, _, _, .int i => .int i
  | _, _, _, _, .str x => .str x
  | n + 1, _, .tup l, h, .tup hs r => .tup hs (Reps.dp (List.all_eq_true.mp h) r)
  | n + 1, _, .lst l, h, .lst hs r => .lst (.inl (.inl hs)) (Reps.dp (List.all_eq_true.mp h) r)
  | 0, _, _, h, .tup _ _ => by cases h
  | 0, _, _, h, .lst _ _ => by cases h
  | 0, _, _, h, .frz _ _ => by cases h
  | _ + 1, _, _, h, .frz _ _ => by cases h
  | 0, _, _, h, .obj _ _ _ => by cases h
  | _ + 1, _, _, h, .obj _ _ _ => by cases h
theorem Reps.dp : ∀ {n : Nat} {vs : List V} {ds : List Dat}, (∀ d ∈ ds, shp n d = true) → Reps K T H vs ds → DpAll K H vs (toPys ds)
  | _, _, _, _, .nil => .nil
  | _, _, _, h, .cons r rs => .cons (Rep.dp (h _ List.mem_cons_self) r) (Reps.dp (fun d hd => h d (List.mem_cons_of_mem _ hd)) rs)
end
end
def eqD (d e : Dat) : Option Dat := if (shp 8 d && shp 8 e) = true then some (.bl (eqvD d e)) else none
def neD (d e : Dat) : Option Dat := if (shp 8 d && shp 8 e) = true then some (.bl (!eqvD d e)) else none
section
variable {K : PySem.W.Frag} {T : CT}
theorem rd_eq : R2D K T (rEqD K) eqD := fun S H x y dx dy d Q m rx ry e q => by
  unfold eqD at e
  split at e
  · rename_i z
    rw [Bool.and_eq_true] at z
    cases e
    refine ⟨toPy dx, toPy dy, (rx.mono hide_ex).dp z.1, (ry.mono hide_ex).dp z.2, shaped_of z.1 (by decide), shaped_of z.2 (by decide), ?_⟩
    rw [eqv_toPy 8 _ _ z.1 z.2]
    exact q _ H (Ex.refl H) (.bl _)
  · cases e
theorem rd_ne : R2D K T (rNeD K) neD := fun S H x y dx dy d Q m rx ry e q => by
  unfold neD at e
  split at e
  · rename_i z
    rw [Bool.and_eq_true] at z
    cases e
    refine ⟨toPy dx, toPy dy, (rx.mono hide_ex).dp z.1, (ry.mono hide_ex).dp z.2, shaped_of z.1 (by decide), shaped_of z.2 (by decide), ?_⟩
    rw [eqv_toPy 8 _ _ z.1 z.2]
    exact q _ H (Ex.refl H) (.bl _)
  · cases e
/-! ### order of ints, is, in -/
def cmpI (g : Int → Int → Bool) : Dat → Dat → Option Dat
  | .int i, .int j => some (.bl (g i j))
  | _, _ => none
def ltD := cmpI fun i j => decide (i < j)
def leD := cmpI fun i j => decide (i ≤ j)
def gtD := cmpI fun i j => decide (j < i)
def geD := cmpI fun i j => decide (j ≤ i)
theorem rd_cmp {g : Int → Int → Bool} : R2D K T (rI0 fun i j => .bl (g i j)) (cmpI g) := fun S H x y dx dy d Q m rx ry e q => by
  cases rx with
  | int i =>
    cases ry with
    | int j => exact ⟨i, j, rfl, rfl, by cases e; exact q _ H (Ex.refl H) (.bl _)⟩
    | _ => cases e
  | _ => cases e
def isNonD : Dat → Bool
  | .non => true
  | _ => false
def isND : Dat → Dat → Option Dat
  | d, .non => some (.bl (isNonD d))
  | _, _ => none
def notND : Dat → Dat → Option Dat
  | d, .non => some (.bl (!isNonD d))
  | _, _ => none
theorem isNon_rep {H : Hp} {x : V} {d : Dat} (r : Rep K T H x d) : decide (x = V.non) = isNonD d := by cases r <;> rfl
theorem rd_isN : R2D K T (fun x y H Q => y = .non ∧ Q (.bl (decide (x = .non))) H) isND := fun S H x y dx dy d Q m rx ry e q => by
  cases ry with
  | non =>
    refine ⟨rfl, ?_⟩
    rw [isNon_rep rx]
    have e' : some (Dat.bl (isNonD dx)) = some d := by cases dx <;> exact e
    cases e'
    exact q _ H (Ex.refl H) (.bl _)
  | _ => cases dx <;> cases e
theorem rd_notN : R2D K T (fun x y H Q => y = .non ∧ Q (.bl (!decide (x = .non))) H) notND := fun S H x y dx dy d Q m rx ry e q => by
  cases ry with
  | non =>
    refine ⟨rfl, ?_⟩
    rw [isNon_rep rx]
    have e' : some (Dat.bl (!isNonD dx)) = some d := by cases dx <;> exact e
    cases e'
    exact q _ H (Ex.refl H) (.bl _)
  | _ => cases dx <;> cases e
def isFlat : Dat → Bool
  | .non => true
  | .bl _ => true
  | .int _ => true
  | .str _ => true
  | _ => false
/-- one sign in a text -/
def oneIn (x z : Str) : Option Bool := match x.cps.toList with
  | [c] => some (decide (c ∈ z.cps.toList))
  | _ => none
def inD (neg : Bool) : Dat → Dat → Option Dat
  | x, .tup l => if (isFlat x && l.all isFlat) = true then some (.bl (if neg then !l.any (fun y => eqvD y x) else l.any (fun y => eqvD y x))) else none
  | x, .lst l => if (shp 8 x && shp 8 (.lst l)) = true then some (.bl (if neg then !l.any (fun y => eqvD y x) else l.any (fun y => eqvD y x))) else none
  | .str x, .str z => (oneIn x z).map fun b => .bl (if neg then !b else b)
  | _, _ => none
theorem flat_rep {H : Hp} {x : V} {d : Dat} (r : Rep K T H x d) : flatV x = isFlat d := by cases r <;> rfl
theorem flats_rep {H : Hp} : ∀ {xs : List V} {ds : List Dat}, Reps K T H xs ds → xs.all flatV = ds.all isFlat
  | _, _, .nil => rfl
  | _, _, .cons r s => by rw [List.all_cons, List.all_cons, flat_rep r, flats_rep s]
theorem eqV_rep {H : Hp} {x y : V} {d e : Dat} (r : Rep K T H y e) (s : Rep K T H x d) (f : isFlat d = true) (g : isFlat e = true) : eqV y x = eqvD e d := by
  cases r <;> cases s <;> first | rfl | (cases f) | (cases g) | skip
theorem inV_rep {H : Hp} {x : V} {d : Dat} (s : Rep K T H x d) (f : isFlat d = true) : ∀ {xs : List V} {ds : List Dat}, Reps K T H xs ds → ds.all isFlat = true → inV x xs = ds.any fun y => eqvD y d
  | _, _, .nil, _ => rfl
  | _, e :: es, .cons r rs, g => by
    have g' : isFlat e = true ∧ es.all isFlat = true := by
      rw [List.all_cons, Bool.and_eq_true] at g
      exact g
    have ih := inV_rep s f rs g'.2
    unfold inV at ih ⊢
    rw [List.any_cons, List.any_cons, eqV_rep r s f g'.1, ih]
def rInAll (K : PySem.W.Frag) (neg : Bool) : R2 := fun x y H Q => rIn K neg x y H Q ∨ ((∃ d ds, Dp K H x d ∧ Dp K H y (.list ds) ∧ SeqAt.shaped d = true ∧ SeqAt.shaped (.list ds) = true ∧ Q (.bl (if neg then !ds.any fun z => PyData.eqv z d else ds.any fun z => PyData.eqv z d)) H) ∨
  ∃ (c : Nat) (z : Str), x = .str ⟨#[c]⟩ ∧ y = .str z ∧ Q (.bl (if neg then !decide (c ∈ z.cps.toList) else decide (c ∈ z.cps.toList))) H)
theorem op_inAll {X : Cx} (hu : X.A.units + 65 < cLine) : OpR X (compareOp .In) (rInAll X.K false) := op_in_seq.or ((op_inD hu).or op_in_sign)
theorem op_notInAll {X : Cx} (hu : X.A.units + 65 < cLine) : OpR X (compareOp .NotIn) (rInAll X.K true) := op_notIn_seq.or ((op_notInD hu).or op_notIn_sign)
theorem any_toPy {n : Nat} {d : Dat} (h : shp n d = true) : ∀ {l : List Dat}, (∀ e ∈ l, shp n e = true) → (toPys l).any (fun z => PyData.eqv z (toPy d)) = l.any fun y => eqvD y d
  | [], _ => rfl
  | e :: l, hl => by rw [toPys, List.any_cons, List.any_cons, eqv_toPy n e d (hl e List.mem_cons_self) h, any_toPy h fun x hx => hl x (List.mem_cons_of_mem _ hx)]
theorem shp_up : ∀ (n : Nat) (d : Dat), shp n d = true → shp (n + 1) d = true
  | n, .non, _ => rfl
  | n, .bl _, _ => rfl
  | n, .int _, _ => rfl
  | n, .str s, h => by cases n <;> exact h
  | 0, .tup _, h => by cases h
  | 0, .lst _, h => by cases h
  | n + 1, .tup l, h => by
    have h' : ∀ d ∈ l, shp n d = true := List.all_eq_true.mp h
    exact List.all_eq_true.mpr fun d hd => shp_up n d (h' d hd)
  | n + 1, .lst l, h => by
    have h' : ∀ d ∈ l, shp n d = true := List.all_eq_true.mp h
    exact List.all_eq_true.mpr fun d hd => shp_up n d (h' d hd)
  | 0, .frz _, h => by cases h
  | n + 1, .frz _, h => by cases h
  | 0, .obj _ _, h => by cases h
  | n + 1, .obj _ _, h => by cases h
theorem rd_in {neg : Bool} : R2D K T (rInAll K neg) (inD neg) := fun S H x y dx dy d Q m rx ry e q => by
  cases ry with
  | @tup p vs ds hs rs =>
    have e' : (if (isFlat dx && ds.all isFlat) = true then some (Dat.bl (if neg then !ds.any (fun y => eqvD y dx) else ds.any (fun y => eqvD y dx))) else none) = some d := by cases dx <;> exact e
    split at e'
    · rename_i z
      rw [Bool.and_eq_true] at z
      cases e'
      refine .inl ⟨p, vs, rfl, .inr (ex_t hide_ex hs), by rw [flat_rep rx]; exact z.1, by rw [flats_rep rs]; exact z.2, ?_⟩
      rw [inV_rep rx z.1 rs z.2]
      exact q _ H (Ex.refl H) (.bl _)
    · cases e'
  | @lst p vs ds hs rs =>
    have e' : (if (shp 8 dx && shp 8 (.lst ds)) = true then some (Dat.bl (if neg then !ds.any (fun y => eqvD y dx) else ds.any (fun y => eqvD y dx))) else none) = some d := by cases dx <;> exact e
    split at e'
    · rename_i z
      rw [Bool.and_eq_true] at z
      cases e'
      have za : ∀ d ∈ ds, shp 8 d = true := fun d hd => shp_up 7 d (List.all_eq_true.mp z.2 d hd)
      refine .inr (.inl ⟨toPy dx, toPys ds, (rx.mono hide_ex).dp z.1, ?_, shaped_of z.1 (by decide), ?_, ?_⟩)
      · exact (Rep.mono hide_ex (.lst hs rs)).dp (d := .lst ds) z.2
      · exact shaped_of (d := .lst ds) z.2 (by decide)
      · rw [any_toPy z.1 za]
        exact q _ H (Ex.refl H) (.bl _)
    · cases e'
  | str z =>
    cases rx with
    | str w =>
      obtain ⟨⟨l⟩⟩ := w
      simp only [inD, oneIn] at e
      match l, e with
      | [], e => cases e
      | [c], e =>
        cases e
        exact .inr (.inr ⟨c, z, rfl, rfl, q _ H (Ex.refl H) (.bl _)⟩)
      | _ :: _ :: _, e => cases e
    | _ => cases e
  | _ => cases dx <;> cases e
/-! ### items -/
def ixD : Dat → Dat → Option Dat
  | .lst l, .int i => atI l i
  | .frz l, .int i => atI l i
  | .tup l, .int i => atI l i
  | .str z, .int i => if z.length ≤ sizeLine then (atI z.cps.toList i).map fun c => .str ⟨#[c]⟩ else none
  | _, _ => none
theorem atI_rep {H : Hp} {vs : List V} {ds : List Dat} {i : Int} {d : Dat} (r : Reps K T H vs ds) (h : atI ds i = some d) : ∃ v, atI vs i = some v ∧ Rep K T H v d := by
  unfold atI at h ⊢
  rw [r.length]
  cases q : ixN ds.length i with
  | none =>
    rw [q] at h
    cases h
  | some j =>
    rw [q] at h
    obtain ⟨v, h1, h2⟩ := r.get h
    exact ⟨v, h1, h2⟩
theorem rd_ix : R2D K T (rIx K) ixD := fun S H x y dx dy d Q m rx ry e q => by
  cases rx with
  | @lst p vs ds hs rs =>
    cases ry with
    | int i =>
      obtain ⟨v, h1, h2⟩ := atI_rep rs e
      exact .inl ⟨p, vs, i, v, rfl, rfl, .inl (.inl (hide_ex _ _ hs)), h1, q v H (Ex.refl H) h2⟩
    | _ => cases e
  | @frz p vs ds hs rs =>
    cases ry with
    | int i =>
      obtain ⟨v, h1, h2⟩ := atI_rep rs e
      exact .inl ⟨p, vs, i, v, rfl, rfl, ex_l hide_ex hs, h1, q v H (Ex.refl H) h2⟩
    | _ => cases e
  | @tup p vs ds hs rs =>
    cases ry with
    | int i =>
      obtain ⟨v, h1, h2⟩ := atI_rep rs e
      exact .inr (.inl ⟨p, vs, i, v, rfl, rfl, ex_t hide_ex hs, h1, q v H (Ex.refl H) h2⟩)
    | _ => cases e
  | str z =>
    cases ry with
    | int i =>
      simp only [ixD] at e
      split at e
      · rename_i hz
        cases h : atI z.cps.toList i with
        | none =>
          rw [h] at e
          cases e
        | some c =>
          rw [h] at e
          cases e
          exact .inr (.inr ⟨z, i, c, rfl, rfl, hz, h, q _ H (Ex.refl H) (.str _)⟩)
      · cases e
    | _ => cases e
  | _ => cases e
end
section
variable {X : Cx} {T : CT} {W : WX} {ow : List Nat} {e a b c : Expr} {es : List Expr} {pos : Pos} {fa fb fc : DEnv → Res Dat}
theorem de_ix (ha : DE X T W ow a fa) (hb : DE X T W ow b fb) (hs : PlainIx b := by exact fun _ _ => rfl) : DE X T W ow (.Subscript a b pos) (vOp ixD fa fb) := pe_imp (pe_ix ix_seq ha hb hs) fun _ _ _ h => rd_ix.read h
theorem de_neg (ha : DE X T W ow a fa) : DE X T W ow (.UnaryOp .USub a pos) (v1 negD fa) := pe_imp (pe_un un_neg ha) fun σ H Q h => by
  obtain ⟨ρ, S, re, w⟩ := h
  refine Want.part re w fun x dx H1 w1 re1 e1 rx => ?_
  cases rx with
  | int i => exact ⟨i, rfl, w1 _ H1 (Ex.refl H1) (.int _)⟩
  | _ => exact w1.elim
/-- a < b < c -/
def vChainK (h : Dat → Dat → Option Dat) (fc : DEnv → Res Dat) (ρ : DEnv) (y : Dat) : Dat → Res Dat
  | .bl true => (fc ρ).bind fun w => ofO (h y w)
  | .bl false => .ok (.bl false)
  | _ => .stuck
def vChain (g h : Dat → Dat → Option Dat) (fa fb fc : DEnv → Res Dat) : DEnv → Res Dat := fun ρ => (fa ρ).bind fun x => (fb ρ).bind fun y => (ofO (g x y)).bind fun z => vChainK h fc ρ y z
theorem chain_read {r r' : R2} {g h : Dat → Dat → Option Dat} {K : PySem.W.Frag} {σ : Sg} {H : Hp} {Q : VK} (rd : R2D K T r g) (rd' : R2D K T r' h) (q : tD K T W ow (vChain g h fa fb fc) σ H Q) :
    tChain r r' (tD K T W ow fa) (tD K T W ow fb) (tD K T W ow fc) σ H Q := by
  obtain ⟨ρ, S, re, w⟩ := q
  refine Want.part re w fun x dx H1 w1 re1 e1 rx => ?_
  refine Want.part re1 w1 fun y dy H2 w2 re2 e2 ry => ?_
  cases q : g dx dy with
  | none =>
    rw [q] at w2
    exact w2.elim
  | some d =>
    rw [q] at w2
    refine rd S H2 x y dx dy d _ re2.mt (rx.mono (hide_mono e2)) ry q fun v H3 e3 rv => ?_
    have w3 : Want K T W σ H3 S (vChainK h fc ρ dy d) Q := Want.mono w2 e3
    cases rv with
    | bl k =>
      refine ⟨k, rfl, ?_⟩
      cases k with
      | false => exact w3 _ H3 (Ex.refl H3) (.bl false)
      | true =>
        show tD K T W ow fc σ H3 _
        refine Want.part (re2.mono e3) w3 fun z dz H4 w4 re4 e4 rz => ?_
        cases q' : h dy dz with
        | none =>
          rw [q'] at w4
          exact w4.elim
        | some d' =>
          rw [q'] at w4
          exact rd' S H4 y z dy dz d' Q re4.mt ((ry.mono (hide_mono e3)).mono (hide_mono e4)) rz q' w4
    | _ => exact w3.elim
end
end Dl
/-! The D layer, part 4: slices, attributes, built-ins, calls, comprehensions. -/
namespace Dl
open PySem PySem.Spec PyProof.Rows L2

/-! ### slices -/
def WantO (T : CT) (W : WX) (σ : Sg) (H : Hp) : Res (Option Int) → (Option Int → Hp → Prop) → Prop
  | .ok d, Q => ∀ H', Ex H H' → Q d H'
  | .exc c, _ => ∀ H', Ex H H' → W (T.exc c) none σ H'
  | .stuck, _ => False
def tDO (K : PySem.W.Frag) (T : CT) (W : WX) (ow : List Nat) (f : DEnv → Res (Option Int)) : TO := fun σ H Q => ∃ ρ S, RE K T ow σ ρ H S ∧ WantO T W σ H (f ρ) Q
def DO (X : Cx) (T : CT) (W : WX) (ow : List Nat) (e : Option Expr) (f : DEnv → Res (Option Int)) : Prop := PO X e (tDO X.K T W ow f)
theorem po_imp {X : Cx} {e : Option Expr} {t t' : TO} (h : PO X e t) (i : ∀ σ H Q, t' σ H Q → t σ H Q) : PO X e t' := ⟨fun pins s σ H Q I q => h.run pins s σ H Q I (i σ H Q q)⟩
def oNone : DEnv → Res (Option Int) := fun _ => .ok none
def oInt : Dat → Res (Option Int)
  | .int i => .ok (some i)
  | _ => .stuck
def oSome (f : DEnv → Res Dat) : DEnv → Res (Option Int) := fun ρ => (f ρ).bind oInt
def cutD {α : Type} (xs : List α) (lo hi : Option Int) : List α := (xs.drop (HT.sIx xs.length 0 lo)).take (HT.sIx xs.length xs.length hi - HT.sIx xs.length 0 lo)
def slD : Dat → Option Int → Option Int → Option Dat
  | .lst l, lo, hi => some (.lst (cutD l lo hi))
  | .frz l, lo, hi => some (.lst (cutD l lo hi))
  | .tup l, lo, hi => some (.tup (cutD l lo hi))
  | .str z, lo, hi => if z.length ≤ sizeLine then some (.str (cutS z lo hi)) else none
  | _, _, _ => none
def vSl (fa : DEnv → Res Dat) (fl fh : DEnv → Res (Option Int)) : DEnv → Res Dat := fun ρ => (fa ρ).bind fun x => (fl ρ).bind fun l => (fh ρ).bind fun h => ofO (slD x l h)
def fSl (fa : DEnv → Res Dat) (fl fh : DEnv → Res (Option Int)) : DEnv → Res (List Dat) := fun ρ => (fa ρ).bind fun x => (fl ρ).bind fun l => (fh ρ).bind fun h => match x with
  | .lst xs => .ok (cutD xs l h)
  | .frz xs => .ok (cutD xs l h)
  | _ => .stuck
section
variable {K : PySem.W.Frag} {T : CT} {W : WX} {H : Hp} {ow : List Nat} {σ : Sg} {ρ : DEnv} {S : List Addr}
theorem Reps.cut {vs : List V} {ds : List Dat} (r : Reps K T H vs ds) (lo hi : Option Int) : Reps K T H (cutV vs lo hi) (cutD ds lo hi) := by
  unfold cutV cutD
  rw [r.length]
  exact (r.drop _).take _
theorem Want.partO {fa : DEnv → Res (Option Int)} {k : Option Int → Res Dat} {Q : VK} {R : Option Int → Hp → Prop} (re : RE K T ow σ ρ H S) (w : Want K T W σ H S ((fa ρ).bind k) Q)
    (hk : ∀ d H1, Want K T W σ H1 S (k d) Q → RE K T ow σ ρ H1 S → Ex H H1 → R d H1) : tDO K T W ow fa σ H R := by
  refine ⟨ρ, S, re, ?_⟩
  cases q : fa ρ with
  | ok d =>
    rw [q] at w
    exact fun H' e => hk d H' (w.mono e) (re.mono e) e
  | exc c =>
    rw [q] at w
    exact w
  | stuck =>
    rw [q] at w
    exact w.elim
theorem WantF.partO {fa : DEnv → Res (Option Int)} {k : Option Int → Res (List Dat)} {Q : VK} {R : Option Int → Hp → Prop} (re : RE K T ow σ ρ H S) (w : WantF K T W σ H S ((fa ρ).bind k) Q)
    (hk : ∀ d H1, WantF K T W σ H1 S (k d) Q → RE K T ow σ ρ H1 S → Ex H H1 → R d H1) : tDO K T W ow fa σ H R := by
  refine ⟨ρ, S, re, ?_⟩
  cases q : fa ρ with
  | ok d =>
    rw [q] at w
    exact fun H' e => hk d H' (w.mono e) (re.mono e) e
  | exc c =>
    rw [q] at w
    exact w
  | stuck =>
    rw [q] at w
    exact w.elim
end
section
variable {X : Cx} {T : CT} {W : WX} {ow : List Nat} {e a b c : Expr} {es : List Expr} {pos p2 : Pos} {fa fb fc : DEnv → Res Dat} {lo hi : Option Expr} {fl fh : DEnv → Res (Option Int)}
theorem do_none : DO X T W ow none oNone := po_imp po_none fun σ H Q h => by
  obtain ⟨ρ, S, re, w⟩ := h
  exact w H (Ex.refl H)
theorem do_some (h : DE X T W ow e fa) : DO X T W ow (some e) (oSome fa) := po_imp (po_some h) fun σ H Q h => by
  obtain ⟨ρ, S, re, w⟩ := h
  refine ⟨ρ, S, re, ?_⟩
  unfold oSome at w
  cases q : fa ρ with
  | ok d =>
    rw [q] at w
    intro v H' e r
    cases r with
    | int i => exact ⟨i, rfl, w H' e⟩
    | _ => exact w.elim
  | exc c =>
    rw [q] at w
    exact w
  | stuck =>
    rw [q] at w
    exact w.elim
theorem de_slice (ha : DE X T W ow e fa) (hl : DO X T W ow lo fl) (hh : DO X T W ow hi fh) : DE X T W ow (.Subscript e (.Slice lo hi none p2) pos) (vSl fa fl fh) := pe_imp (pe_slice (sl_list.or (sl_tupA.or sl_str)) ha hl hh) fun σ H Q h => by
  obtain ⟨ρ, S, re, w⟩ := h
  refine Want.part re w fun x dx H1 w1 re1 e1 rx => ?_
  refine Want.partO re1 w1 fun l H2 w2 re2 e2 => ?_
  refine Want.partO re2 w2 fun h H3 w3 re3 e3 => ?_
  have rx3 := (rx.mono (hide_mono e2)).mono (hide_mono e3)
  cases rx3 with
  | @lst p vs ds hs rs => exact .inl ⟨p, vs, rfl, .inl (.inl (hide_ex _ _ hs)), fun p2 np => w3 _ _ (Ex.new np) (rep_newL re3.mt np (rs.cut l h))⟩
  | @frz p vs ds hs rs => exact .inl ⟨p, vs, rfl, ex_l hide_ex hs, fun p2 np => w3 _ _ (Ex.new np) (rep_newL re3.mt np (rs.cut l h))⟩
  | @tup p vs ds hs rs =>
    refine .inr (.inl ⟨p, vs, rfl, ex_t hide_ex hs, fun hw => ?_, fun hw p2 np => w3 _ _ (Ex.new np) (rep_newT re3.mt np (rs.cut l h))⟩)
    have e0 : cutD ds l h = ds := by
      unfold cutD
      rw [rs.length] at hw
      rw [hw.1, hw.2, List.drop_zero, Nat.sub_zero, List.take_length]
    have w4 : Want X.K T W σ H3 S (.ok (.tup (cutD ds l h))) Q := w3
    rw [e0] at w4
    exact w4 _ H3 (Ex.refl H3) (.tup hs rs)
  | str z =>
    have w4 : Want X.K T W σ H3 S (ofO (if z.length ≤ sizeLine then some (.str (cutS z l h)) else none)) Q := w3
    by_cases hz : z.length ≤ sizeLine
    · rw [if_pos hz] at w4
      exact .inr (.inr ⟨z, rfl, hz, w4 _ H3 (Ex.refl H3) (.str _)⟩)
    · rw [if_neg hz] at w4
      exact w4.elim
  | _ => exact w3.elim
theorem df_slice (ha : DE X T W ow e fa) (hl : DO X T W ow lo fl) (hh : DO X T W ow hi fh) : DF X T W ow (.Subscript e (.Slice lo hi none p2) pos) (fSl fa fl fh) := pe_imp (pe_slice sl_list ha hl hh) fun σ H Q h => by
  obtain ⟨ρ, S, re, w⟩ := h
  refine WantF.part re w fun x dx H1 w1 re1 e1 rx => ?_
  refine WantF.partO re1 w1 fun l H2 w2 re2 e2 => ?_
  refine WantF.partO re2 w2 fun h H3 w3 re3 e3 => ?_
  have rx3 := (rx.mono (hide_mono e2)).mono (hide_mono e3)
  cases rx3 with
  | @lst p vs ds hs rs => exact ⟨p, vs, rfl, .inl (.inl (hide_ex _ _ hs)), fun p2 np => w3 p2 _ _ (Ex.new np) np upd_same ((rs.cut l h).mono (hide_new (Ex.new np) np))⟩
  | @frz p vs ds hs rs => exact ⟨p, vs, rfl, ex_l hide_ex hs, fun p2 np => w3 p2 _ _ (Ex.new np) np upd_same ((rs.cut l h).mono (hide_new (Ex.new np) np))⟩
  | _ => exact w3.elim

/-! ### attributes -/
theorem lookup_at {ns : List Str} {f : Str} : ∀ {fs : List (Str × V)} {ns : List Str} {j : Nat}, fs.map (·.1) = ns → ns.findIdx? (· == f) = some j → fs.lookup f = (fs.map (·.2))[j]?
  | [], ns, j, h, h2 => by
    subst h
    cases h2
  | (g, v) :: fs, ns, j, h, h2 => by
    subst h
    rw [List.map_cons, List.findIdx?_cons] at h2
    by_cases z : (g == f) = true
    · rw [if_pos z] at h2
      cases h2
      have z' : g = f := eq_of_beq z
      subst z'
      simp [List.lookup]
    · rw [if_neg z] at h2
      cases q : List.findIdx? (fun x => x == f) (List.map (fun x => x.1) fs) with
      | none =>
        rw [q] at h2
        cases h2
      | some i =>
        rw [q] at h2
        cases h2
        have ih := lookup_at (ns := ns) (fs := fs) rfl q
        have z2 : (f == g) = false := by
          cases y : f == g with
          | false => rfl
          | true =>
            have y' : f = g := eq_of_beq y
            subst y'
            exact absurd (beq_self_eq_true f) z
        rw [List.lookup, z2]
        simpa using ih
def fldD (c j : Nat) : Dat → Option Dat
  | .obj c' l => if c' = c then l[j]? else none
  | _ => none
theorem de_fld {f : Str} {c j : Nat} (ha : DE X T W ow e fa) (cl : Cls X.K (T.addr c)) (na : NoAttr X.K (T.addr c) f) (hj : (T.names c).findIdx? (· == f) = some j) (hb : attributeBase e f X.env (eval e X.env) = eval e X.env := by rfl) :
    DE X T W ow (.Attribute e f pos) (v1 (fldD c j) fa) := pe_imp (pe_fld ha hb) fun σ H Q h => by
  obtain ⟨ρ, S, re, w⟩ := h
  refine Want.part re w fun x dx H1 w1 re1 e1 rx => ?_
  cases rx with
  | @obj p dx c' fs ds hs hn rs =>
    have w2 : Want X.K T W σ H1 S (ofO (if c' = c then ds[j]? else none)) Q := w1
    by_cases z : c' = c
    · subst z
      rw [if_pos rfl] at w2
      cases q : ds[j]? with
      | none =>
        rw [q] at w2
        exact w2.elim
      | some d =>
        rw [q] at w2
        obtain ⟨v, h1, h2⟩ := rs.get q
        exact ⟨p, _, dx, fs, v, rfl, hide_ex _ _ hs, cl, na, (lookup_at (ns := []) hn hj).trans h1, w2 v H1 (Ex.refl H1) h2⟩
    · rw [if_neg z] at w2
      exact w2.elim
  | _ => exact w1.elim

/-! ### built-ins -/
def RcD (K : PySem.W.Frag) (T : CT) (r : List V → Hp → VK → Prop) (g : List Dat → Option Dat) : Prop := ∀ (S : List Addr) (H : Hp) (vs : List V) (ds : List Dat) (d : Dat) (Q : VK), Hid H S → Reps K T (hide H S) vs ds → g ds = some d →
  (∀ v H', Ex H H' → Rep K T (hide H' S) v d → Q v H') → r vs H Q
def vCB (g : List Dat → Option Dat) (fs : DEnv → Res (List Dat)) : DEnv → Res Dat := fun ρ => (fs ρ).bind fun ds => ofO (g ds)
theorem RcD.read {K : PySem.W.Frag} {r : List V → Hp → VK → Prop} {g : List Dat → Option Dat} {fs : DEnv → Res (List Dat)} {σ : Sg} {H : Hp} {Q : VK} (rd : RcD K T r g) (h : tD K T W ow (vCB g fs) σ H Q) : tCB r (tDA K T W ow fs) σ H Q := by
  obtain ⟨ρ, S, re, w⟩ := h
  refine Want.partA re w fun vs ds H1 w1 re1 e1 rs => ?_
  cases q : g ds with
  | none =>
    rw [q] at w1
    exact w1.elim
  | some d =>
    rw [q] at w1
    exact rd S H1 vs ds d Q re1.mt rs q w1
variable {x : Str} {id Ty : String} {r : List V → Hp → VK → Prop} {g : List Dat → Option Dat} {fs : DEnv → Res (List Dat)} {p : Pos}
theorem de_callB (hc : CallR X (.builtin id) r) (rd : RcD X.K T r g) (hm : X.mg x = none) (hv : bootBuiltins x = some (.builtin id)) (ha : DA X T W ow (e :: es) fs) (hg : Gl X x := by rfl) (hn : x ≠ "__name__" := by decide) (hdb : (x == ("__debug__" : Str)) = false := by decide)
    (he : starEach (e :: es) X.env = (false, eval e X.env) :: starEach es X.env := by rfl) (hpl : (backTo pos (starEach es X.env)).any (·.1) = false := by rfl) : DE X T W ow (.Call (.Name x p) (e :: es) [] pos) (vCB g fs) :=
  pe_imp (pe_callB hc hg hm hv ha hn hdb he hpl) fun _ _ _ h => rd.read h
theorem de_callTy (hc : CallR X (.type Ty) r) (rd : RcD X.K T r g) (hm : X.mg x = none) (hv : bootBuiltins x = some (.type Ty)) (ha : DA X T W ow (e :: es) fs) (hg : Gl X x := by rfl) (hn : x ≠ "__name__" := by decide) (hdb : (x == ("__debug__" : Str)) = false := by decide)
    (he : starEach (e :: es) X.env = (false, eval e X.env) :: starEach es X.env := by rfl) (hpl : (backTo pos (starEach es X.env)).any (·.1) = false := by rfl) : DE X T W ow (.Call (.Name x p) (e :: es) [] pos) (vCB g fs) :=
  pe_imp (pe_callTy hc hg hm hv ha hn hdb he hpl) fun _ _ _ h => rd.read h
end
/-- the data of each built-in -/
def lenD : List Dat → Option Dat
  | [.str s] => if s.length ≤ sizeLine then some (.int s.length) else none
  | [.lst l] => some (.int l.length)
  | [.frz l] => some (.int l.length)
  | [.tup l] => some (.int l.length)
  | _ => none
def absD : List Dat → Option Dat
  | [.int i] => some (.int (if i < 0 then -i else i))
  | _ => none
def intD : List Dat → Option Dat
  | [.int i] => some (.int i)
  | [.bl k] => some (.int (if k then 1 else 0))
  | _ => none
def max2D : List Dat → Option Dat
  | [.int i, .int j] => some (.int (if j > i then j else i))
  | _ => none
def min2D : List Dat → Option Dat
  | [.int i, .int j] => some (.int (if j < i then j else i))
  | _ => none
def boolsD : List Dat → Option (List Bool)
  | [] => some []
  | .bl b :: r => (boolsD r).map fun l => b :: l
  | _ => none
def intsD : List Dat → Option (List Int)
  | [] => some []
  | .int b :: r => (intsD r).map fun l => b :: l
  | _ => none
def allD : List Dat → Option Dat
  | [.lst l] => (boolsD l).map fun bs => .bl (bs.all id)
  | _ => none
def anyD : List Dat → Option Dat
  | [.lst l] => (boolsD l).map fun bs => .bl (bs.any id)
  | _ => none
def sumD : List Dat → Option Dat
  | [.lst l] => (intsD l).map fun bs => .int bs.sum
  | _ => none
def tupleD : List Dat → Option Dat
  | [.lst l] => some (.tup l)
  | [.frz l] => some (.tup l)
  | [.tup l] => some (.tup l)
  | _ => none
def listD : List Dat → Option Dat
  | [.lst l] => some (.lst l)
  | [.frz l] => some (.lst l)
  | [.tup l] => some (.lst l)
  | _ => none
section
variable {K : PySem.W.Frag} {T : CT} {H : Hp}
theorem Reps.boolsD : ∀ {vs : List V} {ds : List Dat} {bs : List Bool}, Reps K T H vs ds → Dl.boolsD ds = some bs → vs = bs.map V.bl
  | _, _, _, .nil, h => by
    cases h
    rfl
  | _, _, _, .cons (d := d) (ds := ds) r rs, h => by
    cases r with
    | bl b =>
      unfold Dl.boolsD at h
      cases q : Dl.boolsD ds with
      | none =>
        rw [q] at h
        cases h
      | some l =>
        rw [q] at h
        cases h
        rw [Reps.boolsD rs q]
        rfl
    | _ => cases h
theorem Reps.intsD : ∀ {vs : List V} {ds : List Dat} {bs : List Int}, Reps K T H vs ds → Dl.intsD ds = some bs → vs = bs.map V.int
  | _, _, _, .nil, h => by
    cases h
    rfl
  | _, _, _, .cons (d := d) (ds := ds) r rs, h => by
    cases r with
    | int b =>
      unfold Dl.intsD at h
      cases q : Dl.intsD ds with
      | none =>
        rw [q] at h
        cases h
      | some l =>
        rw [q] at h
        cases h
        rw [Reps.intsD rs q]
        rfl
    | _ => cases h
theorem Reps.of_ints : ∀ (l : List Int), Reps K T H (l.map V.int) (l.map Dat.int)
  | [] => .nil
  | i :: l => .cons (.int i) (Reps.of_ints l)
theorem rc_len : RcD K T (fun xs H Q => ∃ x n, xs = [x] ∧ LenV K x H n ∧ Q (.int n) H) lenD := fun S H vs ds d Q m rs e q => by
  cases rs with
  | nil => cases e
  | cons r rs =>
    cases rs with
    | cons _ _ => cases r <;> cases e
    | nil =>
      cases r with
      | str s =>
        simp only [lenD] at e
        split at e
        · rename_i z
          cases e
          exact ⟨_, s.length, rfl, ⟨z, rfl⟩, q _ H (Ex.refl H) (.int _)⟩
        · cases e
      | @lst p vs ds hs rs =>
        cases e
        exact ⟨_, ds.length, rfl, .inl ⟨vs, .inl (.inl (hide_ex _ _ hs)), rs.length.symm⟩, q _ H (Ex.refl H) (.int _)⟩
      | @frz p vs ds hs rs =>
        cases e
        exact ⟨_, ds.length, rfl, .inl ⟨vs, ex_l hide_ex hs, rs.length.symm⟩, q _ H (Ex.refl H) (.int _)⟩
      | @tup p vs ds hs rs =>
        cases e
        exact ⟨_, ds.length, rfl, .inr ⟨vs, ex_t hide_ex hs, rs.length.symm⟩, q _ H (Ex.refl H) (.int _)⟩
      | _ => cases e
theorem rc_abs : RcD K T (fun xs H Q => ∃ i, xs = [.int i] ∧ Q (.int (if i < 0 then -i else i)) H) absD := fun S H vs ds d Q m rs e q => by
  cases rs with
  | nil => cases e
  | cons r rs =>
    cases rs with
    | cons _ _ => cases r <;> cases e
    | nil =>
      cases r with
      | int i =>
        cases e
        exact ⟨i, rfl, q _ H (Ex.refl H) (.int _)⟩
      | _ => cases e
theorem rc_int : RcD K T (fun xs H Q => (∃ i, xs = [.int i] ∧ Q (.int i) H) ∨ ∃ k, xs = [.bl k] ∧ Q (.int (if k then 1 else 0)) H) intD := fun S H vs ds d Q m rs e q => by
  cases rs with
  | nil => cases e
  | cons r rs =>
    cases rs with
    | cons _ _ => cases r <;> cases e
    | nil =>
      cases r with
      | int i =>
        cases e
        exact .inl ⟨i, rfl, q _ H (Ex.refl H) (.int _)⟩
      | bl k =>
        cases e
        exact .inr ⟨k, rfl, q _ H (Ex.refl H) (.int _)⟩
      | _ => cases e
theorem rc_max2 : RcD K T (fun xs H Q => ∃ i j, xs = [.int i, .int j] ∧ Q (.int (if j > i then j else i)) H) max2D := fun S H vs ds d Q m rs e q => by
  cases rs with
  | nil => cases e
  | cons r rs =>
    cases rs with
    | nil => cases r <;> cases e
    | cons r2 rs =>
      cases rs with
      | cons _ _ => cases r <;> cases r2 <;> cases e
      | nil =>
        cases r with
        | int i =>
          cases r2 with
          | int j =>
            cases e
            exact ⟨i, j, rfl, q _ H (Ex.refl H) (.int _)⟩
          | _ => cases e
        | _ => cases e
theorem rc_min2 : RcD K T (fun xs H Q => ∃ i j, xs = [.int i, .int j] ∧ Q (.int (if j < i then j else i)) H) min2D := fun S H vs ds d Q m rs e q => by
  cases rs with
  | nil => cases e
  | cons r rs =>
    cases rs with
    | nil => cases r <;> cases e
    | cons r2 rs =>
      cases rs with
      | cons _ _ => cases r <;> cases r2 <;> cases e
      | nil =>
        cases r with
        | int i =>
          cases r2 with
          | int j =>
            cases e
            exact ⟨i, j, rfl, q _ H (Ex.refl H) (.int _)⟩
          | _ => cases e
        | _ => cases e
/-- one list -/
theorem rc_list {r : List V → Hp → VK → Prop} {g : List Dat → Option Dat} {k : List Dat → Option Dat} (hg : ∀ ds d, g ds = some d → ∃ l, ds = [.lst l] ∧ k l = some d)
    (h : ∀ (S : List Addr) (H : Hp) (p : Addr) (vs : List V) (l : List Dat) (d : Dat) (Q : VK), Hid H S → H p = some (.lst vs) → Reps K T (hide H S) vs l → k l = some d → (∀ v H', Ex H H' → Rep K T (hide H' S) v d → Q v H') → r [.ref p] H Q) : RcD K T r g :=
  fun S H vs ds d Q m rs e q => by
    obtain ⟨l, rfl, e2⟩ := hg ds d e
    cases rs with
    | cons r rs =>
      cases rs
      cases r with
      | @lst p vs _ hs rs => exact h S H p vs l d Q m (hide_ex _ _ hs) rs e2 q
theorem rc_all : RcD K T (rAll K) allD := rc_list (k := fun l => (boolsD l).map fun bs => .bl (bs.all id)) (fun ds d e => by
  unfold allD at e
  split at e
  · exact ⟨_, rfl, e⟩
  · cases e) fun S H p vs l d Q m hs rs e q => by
    cases z : boolsD l with
    | none =>
      rw [z] at e
      cases e
    | some bs =>
      rw [z] at e
      cases e
      have := rs.boolsD z
      subst this
      exact ⟨p, bs, rfl, .inl (.inl hs), q _ H (Ex.refl H) (.bl _)⟩
theorem rc_any : RcD K T (rAny K) anyD := rc_list (k := fun l => (boolsD l).map fun bs => .bl (bs.any id)) (fun ds d e => by
  unfold anyD at e
  split at e
  · exact ⟨_, rfl, e⟩
  · cases e) fun S H p vs l d Q m hs rs e q => by
    cases z : boolsD l with
    | none =>
      rw [z] at e
      cases e
    | some bs =>
      rw [z] at e
      cases e
      have := rs.boolsD z
      subst this
      exact ⟨p, bs, rfl, .inl (.inl hs), q _ H (Ex.refl H) (.bl _)⟩
theorem rc_sum : RcD K T (rSum K) sumD := rc_list (k := fun l => (intsD l).map fun bs => .int bs.sum) (fun ds d e => by
  unfold sumD at e
  split at e
  · exact ⟨_, rfl, e⟩
  · cases e) fun S H p vs l d Q m hs rs e q => by
    cases z : intsD l with
    | none =>
      rw [z] at e
      cases e
    | some bs =>
      rw [z] at e
      cases e
      have := rs.intsD z
      subst this
      exact ⟨p, bs, rfl, .inl (.inl hs), q _ H (Ex.refl H) (.int _)⟩
theorem rc_tuple : RcD K T (fun xs H Q => ∃ p ys, xs = [.ref p] ∧ ((SqL K H p ys ∧ ∀ l, H l = none → Q (.ref l) (upd H l (.tup ys))) ∨ (SqT K H p ys ∧ Q (.ref p) H))) tupleD := fun S H vs ds d Q m rs e q => by
  cases rs with
  | nil => cases e
  | cons r rs =>
    cases rs with
    | cons _ _ => cases r <;> cases e
    | nil =>
      cases r with
      | @lst p vs ds hs rs =>
        cases e
        exact ⟨p, vs, rfl, .inl ⟨.inl (.inl (hide_ex _ _ hs)), fun l nl => q _ _ (Ex.new nl) (rep_newT m nl rs)⟩⟩
      | @frz p vs ds hs rs =>
        cases e
        exact ⟨p, vs, rfl, .inl ⟨ex_l hide_ex hs, fun l nl => q _ _ (Ex.new nl) (rep_newT m nl rs)⟩⟩
      | @tup p vs ds hs rs =>
        cases e
        exact ⟨p, vs, rfl, .inr ⟨ex_t hide_ex hs, q _ H (Ex.refl H) (.tup hs rs)⟩⟩
      | _ => cases e
theorem rc_listOf : RcD K T (fun xs H Q => ∃ p ys, xs = [.ref p] ∧ (SqL K H p ys ∨ SqT K H p ys) ∧ ∀ l, H l = none → Q (.ref l) (upd H l (.lst ys))) listD := fun S H vs ds d Q m rs e q => by
  cases rs with
  | nil => cases e
  | cons r rs =>
    cases rs with
    | cons _ _ => cases r <;> cases e
    | nil =>
      cases r with
      | @lst p vs ds hs rs =>
        cases e
        exact ⟨p, vs, rfl, .inl (.inl (.inl (hide_ex _ _ hs))), fun l nl => q _ _ (Ex.new nl) (rep_newL m nl rs)⟩
      | @frz p vs ds hs rs =>
        cases e
        exact ⟨p, vs, rfl, .inl (ex_l hide_ex hs), fun l nl => q _ _ (Ex.new nl) (rep_newL m nl rs)⟩
      | @tup p vs ds hs rs =>
        cases e
        exact ⟨p, vs, rfl, .inr (ex_t hide_ex hs), fun l nl => q _ _ (Ex.new nl) (rep_newL m nl rs)⟩
      | _ => cases e
end
/-! ### isinstance of a built-in class -/
def isTy : String → Dat → Option Bool
  | n, .non => some (n == "NoneType")
  | n, .bl _ => some (n == "bool" || n == "int")
  | n, .int _ => some (n == "int")
  | n, .str _ => some (n == "str")
  | n, .tup _ => some (n == "tuple")
  | n, .lst _ => some (n == "list")
  | n, .frz _ => some (n == "list")
  | _, .obj _ _ => none
def isiD (n : String) (d : Dat) : Option Dat := (isTy n d).map .bl
/-- a built-in class of which isinstance is known -/
structure KitT (n : String) : Prop where
  non : kitB "NoneType" n = some (n == "NoneType")
  bl : kitB "bool" n = some (n == "bool" || n == "int")
  int : kitB "int" n = some (n == "int")
  str : kitB "str" n = some (n == "str")
  tup : kitB "tuple" n = some (n == "tuple")
  lst : kitB "list" n = some (n == "list")
theorem kit_int : KitT "int" := ⟨by decide +kernel, by decide +kernel, by decide +kernel, by decide +kernel, by decide +kernel, by decide +kernel⟩
theorem kit_bool : KitT "bool" := ⟨by decide +kernel, by decide +kernel, by decide +kernel, by decide +kernel, by decide +kernel, by decide +kernel⟩
theorem kit_str : KitT "str" := ⟨by decide +kernel, by decide +kernel, by decide +kernel, by decide +kernel, by decide +kernel, by decide +kernel⟩
theorem kit_tuple : KitT "tuple" := ⟨by decide +kernel, by decide +kernel, by decide +kernel, by decide +kernel, by decide +kernel, by decide +kernel⟩
theorem kit_list : KitT "list" := ⟨by decide +kernel, by decide +kernel, by decide +kernel, by decide +kernel, by decide +kernel, by decide +kernel⟩
section
variable {X : Cx} {T : CT} {W : WX} {ow : List Nat} {e a b c : Expr} {es : List Expr} {pos p p2 : Pos} {fa fb fc : DEnv → Res Dat}
theorem de_isi {y : Str} {n : String} (k : KitT n) (hm : X.mg "isinstance" = none) (hmy : X.mg y = none) (hvy : bootBuiltins y = some (.type n)) (ha : DE X T W ow e fa) (hg : Gl X "isinstance" := by rfl) (hgy : Gl X y := by rfl) (hny : y ≠ "__name__" := by decide) (hdy : (y == ("__debug__" : Str)) = false := by decide)
    (h1 : starEach [e, .Name y p2] X.env = (false, eval e X.env) :: starEach [.Name y p2] X.env := by rfl) (h2 : starEach [.Name y p2] X.env = (false, eval (.Name y p2) X.env) :: starEach [] X.env := by rfl) (hpl : (backTo pos (starEach [.Name y p2] X.env)).any (·.1) = false := by rfl) :
    DE X T W ow (.Call (.Name "isinstance" p) [e, .Name y p2] [] pos) (v1 (isiD n) fa) := pe_imp (pe_callB call_isi hg hm (by decide +kernel) (pa_cons ha (pa_cons (pe_bltn (v := .ty n) hgy hmy hvy rfl hny hdy) pa_nil h2) h1) (by decide) (by decide) h1 hpl) fun σ H Q h => by
  obtain ⟨ρ, S, re, w⟩ := h
  refine Want.part re w fun x dx H1 w1 re1 e1 rx => ?_
  show rIsi X.K [x, .ty n] H1 Q
  cases rx with
  | non => exact ⟨_, _, _, _, _, rfl, .ty n, .base .non, kit_ty k.non, w1 _ H1 (Ex.refl H1) (.bl _)⟩
  | bl z => exact ⟨_, _, _, _, _, rfl, .ty n, .base (.bl z), kit_ty k.bl, w1 _ H1 (Ex.refl H1) (.bl _)⟩
  | int z => exact ⟨_, _, _, _, _, rfl, .ty n, .base (.int z), kit_ty k.int, w1 _ H1 (Ex.refl H1) (.bl _)⟩
  | str z => exact ⟨_, _, _, _, _, rfl, .ty n, .base (.str z), kit_ty k.str, w1 _ H1 (Ex.refl H1) (.bl _)⟩
  | tup hs rs =>
    rcases ex_t hide_ex hs with (hs | ⟨o, hs⟩) | ⟨o, its, m, hs, hc, _⟩
    · exact ⟨_, _, _, _, _, rfl, .ty n, .base (.tup hs), kit_ty k.tup, w1 _ H1 (Ex.refl H1) (.bl _)⟩
    · exact ⟨_, _, _, _, _, rfl, .ty n, .fTuple hs, kit_ty k.tup, w1 _ H1 (Ex.refl H1) (.bl _)⟩
    · exact ⟨_, _, _, _, _, rfl, .ty n, .kTuple hs hc, kit_ty k.tup, w1 _ H1 (Ex.refl H1) (.bl _)⟩
  | lst hs rs => exact ⟨_, _, _, _, _, rfl, .ty n, .base (.lst (hide_ex _ _ hs)), kit_ty k.lst, w1 _ H1 (Ex.refl H1) (.bl _)⟩
  | frz hs rs =>
    rcases ex_l hide_ex hs with (hs | ⟨o, hs⟩) | ⟨o, its, m, hs, hc, _⟩
    · exact ⟨_, _, _, _, _, rfl, .ty n, .base (.lst hs), kit_ty k.lst, w1 _ H1 (Ex.refl H1) (.bl _)⟩
    · exact ⟨_, _, _, _, _, rfl, .ty n, .base (.frz hs), kit_ty k.lst, w1 _ H1 (Ex.refl H1) (.bl _)⟩
    · exact ⟨_, _, _, _, _, rfl, .ty n, .kList hs hc, kit_ty k.lst, w1 _ H1 (Ex.refl H1) (.bl _)⟩
  | obj _ _ _ => exact w1.elim

/-! ### defs of one's own -/
end
/-- a def's promise: it computes F (n arguments) -/
def spD (K : PySem.W.Frag) (T : CT) (n : Nat) (F : List Dat → Res Dat) : Sp := fun vs H Q E => vs.length = n ∧ ∃ S ds, Hid H S ∧ Reps K T (hide H S) vs ds ∧ Want K T (fun cls d _ H => E cls d H) [] H S (F ds) Q
structure FnD (P : Program) (w : World) (K : PySem.W.Frag) (mg : Str → Option Value) (base : Heap) (T : CT) (k : Nat) (x : Str) (n : Nat) (F : List Dat → Res Dat) : Prop where
  ex : ∃ f fd ps, mg x = some (.ref f) ∧ PySem.W.keepIn K (.ref f) = true ∧ Binds K fd ps [] ∧ FnOk P w K mg base (L2.CX P w) k f fd ps (spD K T n F)
def vCall (n : Nat) (F : List Dat → Res Dat) (fs : DEnv → Res (List Dat)) : DEnv → Res Dat := fun ρ => (fs ρ).bind fun ds => if ds.length = n then F ds else .stuck
abbrev wNo : WX := fun _ _ _ _ => False
theorem passNo {X : Cx} (σ : Sg) : PassesAt (L2.CX X.prog X.w) X σ (WE wNo σ) := fun _ _ _ _ _ _ c => by
  obtain ⟨_, _, _, _, _, _, _, _, _, _, _, _, h⟩ := c
  exact h.elim
section
variable {X : Cx} {T : CT} {W : WX} {ow : List Nat} {e a b c : Expr} {es : List Expr} {pos p p2 : Pos} {fa fb fc : DEnv → Res Dat} {fs : DEnv → Res (List Dat)}
theorem de_call {k j n : Nat} {x : Str} {F : List Dat → Res Dat} (c : FnD X.prog X.w X.K X.mg X.base T k x n F) (hr : Room j X.A) (hk : k ≤ j) (hp : ∀ σ, PassesAt (L2.CX X.prog X.w) X σ (WE W σ)) (ha : DA X T W ow (e :: es) fs) (hg : Gl X x := by rfl)
    (hdb : (x == ("__debug__" : Str)) = false := by decide) (he : starEach (e :: es) X.env = (false, eval e X.env) :: starEach es X.env := by rfl) (hpl : (backTo pos (starEach es X.env)).any (·.1) = false := by rfl) :
    DE X T W ow (.Call (.Name x p) (e :: es) [] pos) (vCall n F fs) := by
  obtain ⟨f, fd, ps, h1, h2, h3, h4⟩ := c.ex
  refine pe_imp (pe_callS h4 (hr.mono hk) hg h1 h2 h3 hp ha hdb he hpl) fun σ H Q h => ?_
  obtain ⟨ρ, S, re, w⟩ := h
  refine Want.partA re w fun vs ds H1 w1 re1 e1 rs => ?_
  split at w1
  · rename_i hl
    refine ⟨by rw [rs.length]; exact hl, S, ds, re1.mt, rs, ?_⟩
    revert w1
    cases F ds with
    | ok d => exact fun w1 => w1
    | exc c => exact fun w1 => w1
    | stuck => exact fun w1 => w1
  · exact w1.elim
end
end Dl
/-! The D layer, part 5: what is walked; targets; comprehensions; objects made. -/
namespace Dl
open PySem PySem.Spec PyProof.Rows L2

/-! ### what is walked -/
structure Src (K : PySem.W.Frag) (T : CT) (S : List Addr) (items : List Dat) (J : It) (H1 : Hp) : Prop where
  ex : ∃ (G : Hp → Prop) (Y : Nat → Hp → V → Hp → Prop), Walk J items.length G Y ∧ (∀ H' S', Ex (hide H1 S) (hide H' S') → G H') ∧
    ∀ i d x H2 H3 S', items[i]? = some d → Ex (hide H1 S) (hide H2 S') → Hid H2 S' → Y i H2 x H3 → Ex H2 H3 ∧ Rep K T (hide H3 S') x d
def WantI (K : PySem.W.Frag) (T : CT) (W : WX) (σ : Sg) (H : Hp) (S : List Addr) : Res (List Dat) → (It → Hp → Prop) → Prop
  | .ok items, R => ∀ J H1, Ex H H1 → Src K T S items J H1 → R J H1
  | .exc c, _ => ∀ H', Ex H H' → W (T.exc c) none σ H'
  | .stuck, _ => False
def tDI (K : PySem.W.Frag) (T : CT) (W : WX) (ow : List Nat) (g : DEnv → Res (List Dat)) : TI := fun σ H R => ∃ ρ S, RE K T ow σ ρ H S ∧ WantI K T W σ H S (g ρ) R
def DI (X : Cx) (T : CT) (W : WX) (ow : List Nat) (tg iter : Expr) (g : DEnv → Res (List Dat)) : Prop := PI X tg iter (tDI X.K T W ow g)
theorem pi_imp {X : Cx} {tg iter : Expr} {t t' : TI} (h : PI X tg iter t) (i : ∀ σ H R, t' σ H R → t σ H R) : PI X tg iter t' := ⟨fun pins s σ H R I q => h.run pins s σ H R I (i σ H R q)⟩
theorem PI.or {X : Cx} {tg iter : Expr} {t t' : TI} (h : PI X tg iter t) (h' : PI X tg iter t') : PI X tg iter (fun σ H R => t σ H R ∨ t' σ H R) := ⟨fun pins s σ H R I q => q.elim (h.run pins s σ H R I) (h'.run pins s σ H R I)⟩
theorem WantI.mono {K : PySem.W.Frag} {T : CT} {W : WX} {σ : Sg} {H H' : Hp} {S : List Addr} {r : Res (List Dat)} {R : It → Hp → Prop} (w : WantI K T W σ H S r R) (e : Ex H H') : WantI K T W σ H' S r R := by
  cases r with
  | ok items => exact fun J H1 e1 s => w J H1 (e.trans e1) s
  | exc c => exact fun H2 e2 => w H2 (e.trans e2)
  | stuck => exact w
theorem WantI.part {K : PySem.W.Frag} {T : CT} {W : WX} {ow : List Nat} {ρ : DEnv} {σ : Sg} {H : Hp} {S : List Addr} {fa : DEnv → Res Dat} {k : Dat → Res (List Dat)} {Q : It → Hp → Prop} {R : VK} (re : RE K T ow σ ρ H S) (w : WantI K T W σ H S ((fa ρ).bind k) Q)
    (hk : ∀ v d H1, WantI K T W σ H1 S (k d) Q → RE K T ow σ ρ H1 S → Ex H H1 → Rep K T (hide H1 S) v d → R v H1) : tD K T W ow fa σ H R :=
  tD_bind (P := fun H r => WantI K T W σ H S r Q) re w (fun _ w => w) (fun w => w) fun v d H1 w e r => hk v d H1 (w.mono e) (re.mono e) e r
theorem WantI.partA {K : PySem.W.Frag} {T : CT} {W : WX} {ow : List Nat} {ρ : DEnv} {σ : Sg} {H : Hp} {S : List Addr} {fa : DEnv → Res (List Dat)} {k : List Dat → Res (List Dat)} {Q : It → Hp → Prop} {R : List V → Hp → Prop} (re : RE K T ow σ ρ H S) (w : WantI K T W σ H S ((fa ρ).bind k) Q)
    (hk : ∀ vs ds H1, WantI K T W σ H1 S (k ds) Q → RE K T ow σ ρ H1 S → Ex H H1 → Reps K T (hide H1 S) vs ds → R vs H1) : tDA K T W ow fa σ H R := by
  refine ⟨ρ, S, re, ?_⟩
  cases q : fa ρ with
  | ok d =>
    rw [q] at w
    exact fun vs H' e r => hk vs d H' (w.mono e) (re.mono e) e r
  | exc c =>
    rw [q] at w
    exact w
  | stuck =>
    rw [q] at w
    exact w.elim
theorem walk_of_eq {J : It} {n m : Nat} {G : Hp → Prop} {Y : Nat → Hp → V → Hp → Prop} (h : Walk J n G Y) (e : m = n) : Walk J m G Y := e ▸ h
section
variable {K : PySem.W.Frag} {T : CT} {S : List Addr} {H1 : Hp} {vs : List V} {ds : List Dat} {a : Addr}
theorem src_list (h : SqL K (hide H1 S) a vs) (rs : Reps K T (hide H1 S) vs ds) : Src K T S ds (Itl K a) H1 :=
  ⟨_, _, walk_of_eq walk_list rs.length.symm, fun H' S' e => ex_l hide_ex (ex_l e h), fun i d x H2 H3 S' hi e m y => by
    obtain ⟨rfl, hy⟩ := y
    obtain ⟨v, h1, h2⟩ := rs.get hi
    rw [h1] at hy
    cases hy
    exact ⟨Ex.refl _, h2.mono e⟩⟩
theorem src_tup (h : SqT K (hide H1 S) a vs) (rs : Reps K T (hide H1 S) vs ds) : Src K T S ds (Itt K a) H1 :=
  ⟨_, _, walk_of_eq walk_tup rs.length.symm, fun H' S' e => ex_t hide_ex (ex_t e h), fun i d x H2 H3 S' hi e m y => by
    obtain ⟨rfl, hy⟩ := y
    obtain ⟨v, h1, h2⟩ := rs.get hi
    rw [h1] at hy
    cases hy
    exact ⟨Ex.refl _, h2.mono e⟩⟩
theorem src_str {z : Str} : Src K T S (z.cps.toList.map fun c => .str ⟨#[c]⟩) (Its z) H1 :=
  ⟨_, _, walk_of_eq walk_str (by rw [List.length_map, Array.length_toList]), fun _ _ _ => trivial, fun i d x H2 H3 S' hi e m y => by
    obtain ⟨rfl, c, hc, rfl⟩ := y
    rw [List.getElem?_map, Array.getElem?_toList, hc] at hi
    cases hi
    exact ⟨Ex.refl _, .str _⟩⟩
theorem src_range {lo : Int} {n : Nat} : Src K T S ((List.range n).map fun i => .int (lo + (i : Nat))) (Itr lo n) H1 :=
  ⟨_, _, walk_of_eq walk_range (by rw [List.length_map, List.length_range]), fun _ _ _ => trivial, fun i d x H2 H3 S' hi e m y => by
    obtain ⟨rfl, rfl⟩ := y
    rw [List.getElem?_map] at hi
    cases q : (List.range n)[i]? with
    | none =>
      rw [q] at hi
      cases hi
    | some j =>
      rw [q] at hi
      cases hi
      rw [List.getElem?_range (by
        have := (List.getElem?_eq_some_iff.mp q).1
        rw [List.length_range] at this
        exact this)] at q
      cases q
      exact ⟨Ex.refl _, .int _⟩⟩
theorem src_rangeC {lo c : Int} {n : Nat} : Src K T S ((List.range n).map fun i => .int (lo + (i : Nat) * c)) (Itc lo c n) H1 :=
  ⟨_, _, walk_of_eq walk_rangeC (by rw [List.length_map, List.length_range]), fun _ _ _ => trivial, fun i d x H2 H3 S' hi e m y => by
    obtain ⟨rfl, rfl⟩ := y
    rw [List.getElem?_map] at hi
    cases q : (List.range n)[i]? with
    | none =>
      rw [q] at hi
      cases hi
    | some j =>
      rw [q] at hi
      cases hi
      rw [List.getElem?_range (by
        have := (List.getElem?_eq_some_iff.mp q).1
        rw [List.length_range] at this
        exact this)] at q
      cases q
      exact ⟨Ex.refl _, .int _⟩⟩
end
def itemsD : Dat → Res (List Dat)
  | .lst l => .ok l
  | .frz l => .ok l
  | .tup l => .ok l
  | .str z => .ok (z.cps.toList.map fun c => .str ⟨#[c]⟩)
  | _ => .stuck
def gSeq (fa : DEnv → Res Dat) : DEnv → Res (List Dat) := fun ρ => (fa ρ).bind itemsD
def rng (lo : Int) (n : Nat) : List Dat := (List.range n).map fun i => .int (lo + (i : Nat))
def rngC (lo c : Int) (n : Nat) : List Dat := (List.range n).map fun i => .int (lo + (i : Nat) * c)
def big62 (i : Int) : Bool := decide (-(2 ^ 62) ≤ i) && decide (i < 2 ^ 62)
def range1D : List Dat → Res (List Dat)
  | [.int j] => if big62 j then .ok (rng 0 j.toNat) else .stuck
  | _ => .stuck
def range2D : List Dat → Res (List Dat)
  | [.int i, .int j] => if big62 i && big62 j then .ok (rng i (j - i).toNat) else .stuck
  | _ => .stuck
/-- the number of turns of range(i, j, c) -/
def turns (i j c : Int) : Nat := if 0 < c then ((j - i + c - 1) / c).toNat else ((i - j - c - 1) / (-c)).toNat
def gA (k : List Dat → Res (List Dat)) (fs : DEnv → Res (List Dat)) : DEnv → Res (List Dat) := fun ρ => (fs ρ).bind k
theorem big62_ok {i : Int} (h : big62 i = true) : -(2 ^ 62) ≤ i ∧ i < 2 ^ 62 := by
  unfold big62 at h
  rw [Bool.and_eq_true] at h
  exact ⟨of_decide_eq_true h.1, of_decide_eq_true h.2⟩
section
variable {X : Cx} {T : CT} {W : WX} {ow : List Nat} {e a b c tg : Expr} {es : List Expr} {pos p p2 : Pos} {fa fb fc : DEnv → Res Dat} {fs : DEnv → Res (List Dat)}
theorem di_seq (ha : DE X T W ow e fa) : DI X T W ow tg e (gSeq fa) := pi_imp (PI.or (pi_list ha) (PI.or (pi_tup ha) (pi_str ha))) fun σ H R h => by
  obtain ⟨ρ, S, re, w⟩ := h
  unfold gSeq at w
  cases q : fa ρ with
  | exc c =>
    rw [q] at w
    refine .inl ⟨ρ, S, re, ?_⟩
    rw [q]
    exact w
  | stuck =>
    rw [q] at w
    exact w.elim
  | ok d =>
    rw [q] at w
    cases d with
    | lst l =>
      refine .inl ⟨ρ, S, re, ?_⟩
      rw [q]
      intro v H' e r
      cases r with
      | lst hs rs => exact ⟨_, rfl, ⟨_, .inl (.inl (hide_ex _ _ hs))⟩, w _ H' e (src_list (.inl (.inl hs)) rs)⟩
    | frz l =>
      refine .inl ⟨ρ, S, re, ?_⟩
      rw [q]
      intro v H' e r
      cases r with
      | frz hs rs => exact ⟨_, rfl, ⟨_, ex_l hide_ex hs⟩, w _ H' e (src_list hs rs)⟩
    | tup l =>
      refine .inr (.inl ⟨ρ, S, re, ?_⟩)
      rw [q]
      intro v H' e r
      cases r with
      | tup hs rs => exact ⟨_, rfl, ⟨_, ex_t hide_ex hs⟩, w _ H' e (src_tup hs rs)⟩
    | str z =>
      refine .inr (.inr ⟨ρ, S, re, ?_⟩)
      rw [q]
      intro v H' e r
      cases r with
      | str _ => exact ⟨z, rfl, w _ H' e src_str⟩
    | _ => exact w.elim
theorem di_range1 (hm : X.mg "range" = none) (ha : DA X T W ow [a] fs) (hg : Gl X "range" := by rfl) (hs : starEach [a] X.env = [(false, eval a X.env)] := by rfl) : DI X T W ow tg (.Call (.Name "range" p) [a] [] pos) (gA range1D fs) := pi_imp (pi_range1 hg hm ha hs) fun σ H R h => by
  obtain ⟨ρ, S, re, w⟩ := h
  refine WantI.partA re w fun vs ds H1 w1 re1 e1 rs => ?_
  cases rs with
  | nil => exact w1.elim
  | cons r rs =>
    cases rs with
    | cons _ _ => cases r <;> exact w1.elim
    | nil =>
      cases r with
      | int j =>
        have w2 : WantI X.K T W σ H1 S (if big62 j then .ok (rng 0 j.toNat) else .stuck) R := w1
        by_cases z : big62 j = true
        · rw [if_pos z] at w2
          obtain ⟨z1, z2⟩ := big62_ok z
          exact ⟨j, rfl, z1, z2, w2 _ H1 (Ex.refl H1) src_range⟩
        · rw [if_neg z] at w2
          exact w2.elim
      | _ => exact w1.elim
theorem di_range2 (hm : X.mg "range" = none) (ha : DA X T W ow [a, b] fs) (hg : Gl X "range" := by rfl) (hs : starEach [a, b] X.env = [(false, eval a X.env), (false, eval b X.env)] := by rfl) (hs2 : starEach [b] X.env = [(false, eval b X.env)] := by rfl) :
    DI X T W ow tg (.Call (.Name "range" p) [a, b] [] pos) (gA range2D fs) := pi_imp (pi_range2 hg hm ha hs hs2) fun σ H R h => by
  obtain ⟨ρ, S, re, w⟩ := h
  refine WantI.partA re w fun vs ds H1 w1 re1 e1 rs => ?_
  cases rs with
  | nil => exact w1.elim
  | cons r rs =>
    cases rs with
    | nil => cases r <;> exact w1.elim
    | cons r2 rs =>
      cases rs with
      | cons _ _ => cases r <;> cases r2 <;> exact w1.elim
      | nil =>
        cases r with
        | int i =>
          cases r2 with
          | int j =>
            have w2 : WantI X.K T W σ H1 S (if big62 i && big62 j then .ok (rng i (j - i).toNat) else .stuck) R := w1
            by_cases z : (big62 i && big62 j) = true
            · rw [if_pos z] at w2
              rw [Bool.and_eq_true] at z
              obtain ⟨z1, z2⟩ := big62_ok z.1
              obtain ⟨z3, z4⟩ := big62_ok z.2
              exact ⟨i, j, rfl, ⟨z1, z2, z3, z4⟩, w2 _ H1 (Ex.refl H1) src_range⟩
            · rw [if_neg z] at w2
              exact w2.elim
          | _ => exact w1.elim
        | _ => exact w1.elim
end

/-! ### targets -/
/-- the data goes to slots; is: which -/
def tDG (K : PySem.W.Frag) (T : CT) (ow : List Nat) (is : List Nat) (asg : Dat → DEnv → Option DEnv) : TG := fun x σ H Q => ∃ ρ S d, RE K T ow σ ρ H S ∧ Rep K T (hide H S) x d ∧ ∃ ρ', asg d ρ = some ρ' ∧
  ∀ σ', RE K T ow σ' ρ' H S → (∀ j, j ∉ is → σ'[j]? = σ[j]?) → σ'.length = σ.length → Q σ' H
def DG (X : Cx) (T : CT) (ow : List Nat) (is : List Nat) (tg : Expr) (asg : Dat → DEnv → Option DEnv) : Prop := PG X tg (tDG X.K T ow is asg)
theorem pg_imp {X : Cx} {tg : Expr} {t t' : TG} (h : PG X tg t) (i : ∀ x σ H Q, t' x σ H Q → t x σ H Q) : PG X tg t' := ⟨fun pins s σ H v u Q I r q => h.run pins s σ H v u Q I r (i v σ H Q q)⟩
theorem PG.or {X : Cx} {tg : Expr} {t t' : TG} (h : PG X tg t) (h' : PG X tg t') : PG X tg (fun x σ H Q => t x σ H Q ∨ t' x σ H Q) := ⟨fun pins s σ H v u Q I r q => q.elim (h.run pins s σ H v u Q I r) (h'.run pins s σ H v u Q I r)⟩
def aName (i : Nat) : Dat → DEnv → Option DEnv := fun d ρ => some (ρ.set i (some d))
section
variable {K : PySem.W.Frag} {T : CT} {ow : List Nat} {σ : Sg} {ρ : DEnv} {H : Hp} {S : List Addr}
/-- a frozen slot is stored -/
theorem RE.set {i : Nat} {v : V} {d : Dat} (re : RE K T ow σ ρ H S) (hi : i ∉ ow) (r : Rep K T (hide H S) v d) : RE K T ow (σ.set i (some v)) (ρ.set i (some d)) H S := by
  have hl := re.len
  refine ⟨re.mt, by rw [List.length_set, List.length_set]; exact hl, fun j e hj he => ?_, fun j e hj he => ?_, fun j k e f p hj hk he hf h1 h2 => ?_⟩
  · by_cases z : i = j
    · subst z
      by_cases zl : i < ρ.length
      · rw [List.getElem?_set_self zl] at he
        cases he
        exact ⟨v, List.getElem?_set_self (by rw [hl]; exact zl), r⟩
      · rw [List.getElem?_eq_none (by rw [List.length_set]; omega)] at he
        cases he
    · rw [List.getElem?_set_ne z] at he ⊢
      exact re.fro j e hj he
  · have z : i ≠ j := fun q => hi (q ▸ hj)
    rw [List.getElem?_set_ne z] at he ⊢
    exact re.own j e hj he
  · have z : i ≠ j := fun q => hi (q ▸ hj)
    have z2 : i ≠ k := fun q => hi (q ▸ hk)
    rw [List.getElem?_set_ne z] at he h1
    rw [List.getElem?_set_ne z2] at hf h2
    exact re.inj j k e f p hj hk he hf h1 h2
end
section
variable {X : Cx} {T : CT} {ow : List Nat} {pos : Pos} {es : List Expr}
theorem dg_name {i : Nat} {x : Str} (hN : X.N.Nodup) (hi : X.N[i]? = some x := by rfl) (hx : Loc X.env.scope x := by first | exact .inl rfl | exact .inr rfl) (ho : i ∉ ow := by decide) (hf : X.fn x = true ∨ X.env.scope.names.lookup x = some .local := by first | exact .inl rfl | exact .inr rfl) :
    DG X T ow [i] (.Name x pos) (aName i) := pg_imp (pg_name hN hi hx hf) fun x σ H Q h => by
  obtain ⟨ρ, S, d, re, r, ρ', e, k⟩ := h
  cases e
  exact k _ (re.set ho r) (fun j hj => List.getElem?_set_ne fun z => hj (by rw [z]; exact List.mem_singleton_self _)) (List.length_set ..)
/-- several targets -/
def tDGs (K : PySem.W.Frag) (T : CT) (ow : List Nat) (is : List Nat) (asg : List Dat → DEnv → Option DEnv) : TGs := fun xs σ H Q => ∃ ρ S ds, RE K T ow σ ρ H S ∧ Reps K T (hide H S) xs ds ∧ ∃ ρ', asg ds ρ = some ρ' ∧
  ∀ σ', RE K T ow σ' ρ' H S → (∀ j, j ∉ is → σ'[j]? = σ[j]?) → σ'.length = σ.length → Q σ' H
def DGs (X : Cx) (T : CT) (ow : List Nat) (is : List Nat) (tgs : List Expr) (asg : List Dat → DEnv → Option DEnv) : Prop := PGs X tgs (tDGs X.K T ow is asg)
theorem pgs_imp {tgs : List Expr} {t t' : TGs} (h : PGs X tgs t) (i : ∀ x σ H Q, t' x σ H Q → t x σ H Q) : PGs X tgs t' := ⟨fun pins s σ H v u Q I r q => h.run pins s σ H v u Q I r (i v σ H Q q)⟩
def asNil : List Dat → DEnv → Option DEnv
  | [], ρ => some ρ
  | _, _ => none
def asCons (f : Dat → DEnv → Option DEnv) (g : List Dat → DEnv → Option DEnv) : List Dat → DEnv → Option DEnv
  | d :: r, ρ => (f d ρ).bind fun ρ' => g r ρ'
  | [], _ => none
theorem dgs_nil : DGs X T ow [] [] asNil := pgs_imp pgs_nil fun x σ H Q h => by
  obtain ⟨ρ, S, d, re, r, ρ', e, k⟩ := h
  cases r with
  | nil =>
    cases e
    exact ⟨rfl, k σ re (fun _ _ => rfl) rfl⟩
  | cons _ _ => cases e
theorem dgs_cons {e : Expr} {is js : List Nat} {f : Dat → DEnv → Option DEnv} {g : List Dat → DEnv → Option DEnv} (h1 : DG X T ow is e f) (h2 : DGs X T ow js es g) (hst : (assignEach (e :: es) X.env).map (·.2) = assign e X.env :: (assignEach es X.env).map (·.2) := by rfl) : DGs X T ow (is ++ js) (e :: es) (asCons f g) :=
  pgs_imp (pgs_cons h1 h2 hst) fun x σ H Q h => by
    obtain ⟨ρ, S, ds, re, r, ρ', e, k⟩ := h
    cases r with
    | nil => cases e
    | cons r rs =>
      rename_i v vs d ds
      cases q : f d ρ with
      | none =>
        simp only [asCons, q] at e
        cases e
      | some ρ1 =>
        simp only [asCons, q] at e
        refine ⟨v, vs, rfl, ρ, S, d, re, r, ρ1, q, fun σ1 re1 h1 l1 => ⟨ρ1, S, ds, re1, rs, ρ', e, fun σ2 re2 h2 l2 => k σ2 re2 (fun j hj => ?_) (l2.trans l1)⟩⟩
        rw [List.mem_append, not_or] at hj
        exact (h2 j hj.2).trans (h1 j hj.1)
def aTup (g : List Dat → DEnv → Option DEnv) : Dat → DEnv → Option DEnv
  | .tup l, ρ => g l ρ
  | .lst l, ρ => g l ρ
  | _, _ => none
theorem dg_tup {is : List Nat} {k n : Nat} {g : List Dat → DEnv → Option DEnv} (hc : X.calm = true) (h : DGs X T ow is es g) (hlen : ∀ ds ρ ρ', g ds ρ = some ρ' → ds.length = n)
    (hn : (assignEach es X.env).length = n := by rfl) (hst : (assignEach es X.env).findIdx? (·.1) = none := by rfl) : DG X T ow is (.Tuple es k pos) (aTup g) :=
  pg_imp (PG.or (pg_tup hc h hn hst) (pg_lst hc h hn hst)) fun x σ H Q h => by
    obtain ⟨ρ, S, d, re, r, ρ', e, k⟩ := h
    cases r with
    | tup hs rs => exact .inl ⟨_, _, rfl, ex_t hide_ex hs, by rw [rs.length]; exact hlen _ _ _ e, ρ, S, _, re, rs, ρ', e, k⟩
    | lst hs rs => exact .inr ⟨_, _, rfl, .inl (.inl (hide_ex _ _ hs)), by rw [rs.length]; exact hlen _ _ _ e, ρ, S, _, re, rs, ρ', e, k⟩
    | _ => cases e
theorem asNil_len {ds : List Dat} {ρ ρ' : DEnv} (h : asNil ds ρ = some ρ') : ds.length = 0 := by
  cases ds with
  | nil => rfl
  | cons _ _ => cases h
theorem asCons_len {f : Dat → DEnv → Option DEnv} {g : List Dat → DEnv → Option DEnv} {n : Nat} (hg : ∀ ds ρ ρ', g ds ρ = some ρ' → ds.length = n) : ∀ ds ρ ρ', asCons f g ds ρ = some ρ' → ds.length = n + 1 := fun ds ρ ρ' h => by
  cases ds with
  | nil => cases h
  | cons d r =>
    cases q : f d ρ with
    | none =>
      simp only [asCons, q] at h
      cases h
    | some ρ1 =>
      simp only [asCons, q] at h
      rw [List.length_cons, hg _ _ _ h]
end

/-! ### comprehensions -/
def wipeD (ρ : DEnv) : List Nat → DEnv
  | [] => ρ
  | v :: vs => (wipeD ρ vs).set v none
theorem wipeD_length (ρ : DEnv) : ∀ vs : List Nat, (wipeD ρ vs).length = ρ.length
  | [] => rfl
  | v :: vs => by unfold wipeD; rw [List.length_set, wipeD_length ρ vs]
theorem wipeD_some {ρ : DEnv} {i : Nat} {x : Dat} : ∀ {vs : List Nat}, (wipeD ρ vs)[i]? = some (some x) → ρ[i]? = some (some x) ∧ i ∉ vs
  | [], h => ⟨h, by simp⟩
  | v :: vs, h => by
    unfold wipeD at h
    by_cases hi : v = i
    · subst hi
      by_cases hv : v < (wipeD ρ vs).length
      · rw [List.getElem?_set_self hv] at h; cases h
      · rw [List.getElem?_eq_none (by simpa using hv)] at h; cases h
    · rw [List.getElem?_set_ne hi] at h
      obtain ⟨h1, h2⟩ := wipeD_some h
      exact ⟨h1, by simp only [List.mem_cons, not_or]; exact ⟨fun e => hi e.symm, h2⟩⟩
theorem wipe_get {σ : Sg} {i : Nat} : ∀ {vs : List Nat}, i ∉ vs → (wipe σ vs)[i]? = σ[i]?
  | [], _ => rfl
  | v :: vs, h => by
    rw [List.mem_cons, not_or] at h
    unfold wipe
    rw [List.getElem?_set_ne (Ne.symm h.1), wipe_get h.2]
theorem wipe_gone {σ : Sg} {i : Nat} (hl : i < σ.length) : ∀ {vs : List Nat}, i ∈ vs → (wipe σ vs)[i]? = some none
  | v :: vs, h => by
    unfold wipe
    by_cases z : v = i
    · subst z
      exact List.getElem?_set_self (by rw [wipe_length]; exact hl)
    · rw [List.getElem?_set_ne z]
      rcases List.mem_cons.mp h with e | h
      · exact absurd e.symm z
      · exact wipe_gone hl h
/-- what is wiped is wiped whatever stood there -/
theorem wipe_eq {σ τ : Sg} {vs : List Nat} (hl : τ.length = σ.length) (h : ∀ j, j ∉ vs → τ[j]? = σ[j]?) : wipe τ vs = wipe σ vs := by
  apply List.ext_getElem?
  intro i
  by_cases z : i ∈ vs
  · by_cases l : i < σ.length
    · rw [wipe_gone l z, wipe_gone (by rw [hl]; exact l) z]
    · rw [List.getElem?_eq_none (by rw [wipe_length]; omega), List.getElem?_eq_none (by rw [wipe_length]; omega)]
  · rw [wipe_get z, wipe_get z, h i z]
section
variable {K : PySem.W.Frag} {T : CT} {ow : List Nat} {σ : Sg} {ρ : DEnv} {H H' : Hp} {S : List Addr}
theorem RE.wipe (re : RE K T ow σ ρ H S) (vs : List Nat) : RE K T ow (L2.wipe σ vs) (wipeD ρ vs) H S := by
  refine ⟨re.mt, by rw [L2.wipe_length, wipeD_length]; exact re.len, fun i d hi hd => ?_, fun i d hi hd => ?_, fun i j d e p hi hj hd he h1 h2 => ?_⟩
  · obtain ⟨h1, h2⟩ := wipeD_some hd
    obtain ⟨v, h3, h4⟩ := re.fro i d hi h1
    exact ⟨v, by rw [wipe_get h2]; exact h3, h4⟩
  · obtain ⟨h1, h2⟩ := wipeD_some hd
    obtain ⟨p, vs', ds, h3, h4⟩ := re.own i d hi h1
    exact ⟨p, vs', ds, by rw [wipe_get h2]; exact h3, h4⟩
  · obtain ⟨a1, a2⟩ := wipeD_some hd
    obtain ⟨b1, b2⟩ := wipeD_some he
    rw [wipe_get a2] at h1
    rw [wipe_get b2] at h2
    exact re.inj i j d e p hi hj a1 b1 h1 h2
/-- one more object is hidden, that came later -/
theorem RE.more {p : Addr} (re : RE K T ow σ ρ H S) (e : Ex H H') (n : H p = none) (m : ∃ o, H' p = some o ∧ mutO o = true) : RE K T ow σ ρ H' (p :: S) := by
  have ex := hide_new (S := S) e n
  refine ⟨fun q hq => ?_, re.len, fun i d hi hd => ?_, fun i d hi hd => ?_, re.inj⟩
  · rcases List.mem_cons.mp hq with z | z
    · rw [z]; exact m
    · exact re.mt.mono e q z
  · obtain ⟨v, h1, h2⟩ := re.fro i d hi hd
    exact ⟨v, h1, h2.mono ex⟩
  · obtain ⟨q, vs, ds, h1, h2, h3, h4, h5⟩ := re.own i d hi hd
    exact ⟨q, vs, ds, h1, h2, List.mem_cons_of_mem _ h3, e _ _ h4, h5.mono ex⟩
/-- a hidden object that is no slot's changes -/
theorem RE.chg {p : Addr} {o : HO} (re : RE K T ow σ ρ H S) (hp : p ∈ S) (m : mutO o = true) (h : ∀ i d, i ∈ ow → ρ[i]? = some (some d) → σ[i]? ≠ some (some (.ref p))) : RE K T ow σ ρ (upd H p o) S := by
  refine ⟨fun q hq => ?_, re.len, fun i d hi hd => ?_, fun i d hi hd => ?_, re.inj⟩
  · by_cases z : q = p
    · subst z
      exact ⟨o, upd_same, m⟩
    · obtain ⟨u, h1, h2⟩ := re.mt q hq
      exact ⟨u, by rw [upd_ne z]; exact h1, h2⟩
  · rw [hide_upd hp]
    exact re.fro i d hi hd
  · rw [hide_upd hp]
    obtain ⟨q, vs, ds, h1, h2, h3, h4, h5⟩ := re.own i d hi hd
    refine ⟨q, vs, ds, h1, h2, h3, ?_, h5⟩
    rw [upd_ne fun z => h i d hi hd (by rw [← z]; exact h1)]
    exact h4
end
def noExc {α : Type} : Res α → Res α
  | .ok a => .ok a
  | _ => .stuck
def lcL (asg : Dat → DEnv → Option DEnv) (t : DEnv → Res Bool) (f : DEnv → Res Dat) (ρ : DEnv) : List Dat → Res (List Dat)
  | [] => .ok []
  | d :: r => match asg d ρ with
    | none => .stuck
    | some ρ1 => (noExc (t ρ1)).bind fun b => if b = true then (noExc (f ρ1)).bind fun y => (lcL asg t f ρ r).bind fun ys => .ok (y :: ys) else lcL asg t f ρ r
def vLc (g : DEnv → Res (List Dat)) (asg : Dat → DEnv → Option DEnv) (vs : List Nat) (t : DEnv → Res Bool) (f : DEnv → Res Dat) : DEnv → Res (List Dat) := fun ρ => (g ρ).bind fun items => if items.length ≤ 10000000 then lcL asg t f (wipeD ρ vs) items else .stuck
theorem noExc_ok {α : Type} {r : Res α} {a : α} (h : noExc r = .ok a) : r = .ok a := by
  cases r with
  | ok b => exact h
  | exc _ => cases h
  | stuck => cases h
theorem bind_ok {α β : Type} {r : Res α} {k : α → Res β} {b : β} (h : r.bind k = .ok b) : ∃ a, r = .ok a ∧ k a = .ok b := by
  cases r with
  | ok a => exact ⟨a, rfl, h⟩
  | exc _ => cases h
  | stuck => cases h
theorem lcL_no {asg : Dat → DEnv → Option DEnv} {t : DEnv → Res Bool} {f : DEnv → Res Dat} {ρ : DEnv} {c : Nat} : ∀ {l : List Dat}, lcL asg t f ρ l ≠ .exc c
  | [], h => by cases h
  | d :: r, h => by
    unfold lcL at h
    split at h
    · cases h
    · rename_i ρ1 _
      cases q : noExc (t ρ1) with
      | exc _ =>
        cases z : t ρ1 <;> rw [z] at q <;> cases q
      | stuck =>
        rw [q] at h
        cases h
      | ok b =>
        rw [q] at h
        cases b with
        | false => exact lcL_no (l := r) h
        | true =>
          have h : ((noExc (f ρ1)).bind fun y => (lcL asg t f ρ r).bind fun ys => .ok (y :: ys)) = .exc c := h
          cases q2 : noExc (f ρ1) with
          | exc _ => cases z : f ρ1 <;> rw [z] at q2 <;> cases q2
          | stuck =>
            rw [q2] at h
            cases h
          | ok y =>
            rw [q2] at h
            cases q3 : lcL asg t f ρ r with
            | exc c' => exact lcL_no (l := r) q3
            | stuck =>
              rw [q3] at h
              cases h
            | ok ys =>
              rw [q3] at h
              cases h
/-- a clause's tests -/
def DTs (X : Cx) (T : CT) (ow : List Nat) (ifs : List Expr) (t : DEnv → Res Bool) : Prop := PTs X ifs (tDB X.K T wNo ow t)
def tYesD : DEnv → Res Bool := fun _ => .ok true
theorem dts_nil {X : Cx} {T : CT} {ow : List Nat} : DTs X T ow [] tYesD := ⟨fun pins s σ H Q I h => by
  obtain ⟨ρ, S, re, w⟩ := h
  exact pts_nil.run pins s σ H Q I (w H (Ex.refl H))⟩
theorem dts_one {X : Cx} {T : CT} {ow : List Nat} {c : Expr} {t : DEnv → Res Bool} (h : DT X T wNo ow c t) : DTs X T ow [c] t := pts_one h
section
variable {X : Cx} {T : CT} {W : WX} {ow : List Nat}
theorem lc_read {g : DEnv → Res (List Dat)} {asg : Dat → DEnv → Option DEnv} {is vs : List Nat} {t : DEnv → Res Bool} {f : DEnv → Res Dat} {K : PySem.W.Frag} {σ : Sg} {H : Hp} {Q : VK} (hi : ∀ i ∈ is, i ∈ vs) (h : tDF K T W ow (vLc g asg vs t f) σ H Q) :
    tLc (tDI K T W ow g) (tDG K T ow is asg) (tDB K T wNo ow t) (tD K T wNo ow f) vs σ H Q := by
  obtain ⟨ρ, S, re, w⟩ := h
  refine ⟨ρ, S, re, ?_⟩
  unfold vLc at w
  cases q : g ρ with
  | exc c =>
    rw [q] at w
    exact w
  | stuck =>
    rw [q] at w
    exact w.elim
  | ok items =>
    rw [q] at w
    have w : WantF K T W σ H S (if items.length ≤ 10000000 then lcL asg t f (wipeD ρ vs) items else .stuck) Q := w
    by_cases hlen : items.length ≤ 10000000
    rotate_left
    · rw [if_neg hlen] at w
      exact w.elim
    rw [if_pos hlen] at w
    obtain ⟨res, hres⟩ : ∃ res, lcL asg t f (wipeD ρ vs) items = .ok res := by
      cases z : lcL asg t f (wipeD ρ vs) items with
      | ok r => exact ⟨r, rfl⟩
      | exc c => exact absurd z lcL_no
      | stuck =>
        rw [z] at w
        exact w.elim
    rw [hres] at w
    intro J H1 e1 src D hD
    obtain ⟨G, Y, walk, gok, yok⟩ := src.ex
    have re1 := re.mono e1
    refine lc_it walk (fun i H' => ∃ acc ds ys, Ex H1 H' ∧ H' D = some (.lst acc) ∧ Reps K T (hide H' (D :: S)) acc ds ∧ acc.length ≤ i ∧ lcL asg t f (wipeD ρ vs) (items.drop i) = .ok ys ∧ res = ds ++ ys) ?_ ?_ ?_ ?_
    · exact ⟨[], [], res, Ex.new hD, upd_same, .nil, Nat.le_refl _, by rw [List.drop_zero]; exact hres, rfl⟩
    · rintro i H' _ ⟨acc, ds, ys, ex, _⟩
      exact gok H' (D :: S) (hide_new ex hD)
    · rintro i x H2 H3 hlt ⟨acc, ds, ys, ex, hDl, rs, hal, hl, hr⟩ y
      obtain ⟨d, hd⟩ : ∃ d, items[i]? = some d := ⟨items[i], by simp [hlt]⟩
      have ex2 := hide_new (S := S) ex hD
      have re2 := (re1.wipe vs).more ex hD ⟨_, hDl, rfl⟩
      obtain ⟨ex3, rx⟩ := yok i d x H2 H3 (D :: S) hd ex2 re2.mt y
      have hdrop : items.drop i = d :: items.drop (i + 1) := by
        have h1 := List.getElem?_eq_some_iff.mp hd
        obtain ⟨h1, h2⟩ := h1
        rw [List.drop_eq_getElem_cons h1, h2]
      rw [hdrop] at hl
      unfold lcL at hl
      cases qa : asg d (wipeD ρ vs) with
      | none =>
        rw [qa] at hl
        cases hl
      | some ρ1 =>
        rw [qa] at hl
        have hl : ((noExc (t ρ1)).bind fun b => if b = true then (noExc (f ρ1)).bind fun y => (lcL asg t f (wipeD ρ vs) (items.drop (i + 1))).bind fun ys => .ok (y :: ys) else lcL asg t f (wipeD ρ vs) (items.drop (i + 1))) = .ok ys := hl
        refine ⟨wipeD ρ vs, D :: S, d, re2.mono ex3, rx, ρ1, qa, fun σ2 re4 hsame hlen2 => ?_⟩
        refine ⟨?_, ?_⟩
        · have h1 : L2.wipe σ2 vs = L2.wipe (L2.wipe σ vs) vs := wipe_eq hlen2 fun j hj => hsame j fun z => hj (hi j z)
          rw [h1]
          exact wipe_eq (wipe_length _ _) fun j hj => wipe_get hj
        · obtain ⟨b, hb, hl⟩ := bind_ok hl
          have hb := noExc_ok hb
          refine ⟨ρ1, D :: S, re4, ?_⟩
          rw [hb]
          intro H5 e5
          cases b with
          | false =>
            show ∃ acc ds ys, _
            exact ⟨acc, ds, ys, ex.trans (ex3.trans e5), e5 _ _ (ex3 _ _ hDl), rs.mono (hide_mono (ex3.trans e5)), Nat.le_succ_of_le hal, hl, hr⟩
          | true =>
            obtain ⟨y1, hy, hl⟩ := bind_ok (show ((noExc (f ρ1)).bind fun y => (lcL asg t f (wipeD ρ vs) (items.drop (i + 1))).bind fun ys => .ok (y :: ys)) = .ok ys from hl)
            obtain ⟨ys2, hy2, hl⟩ := bind_ok hl
            cases hl
            have hy := noExc_ok hy
            show tD K T wNo ow f σ2 H5 _
            refine ⟨ρ1, D :: S, re4.mono e5, ?_⟩
            rw [hy]
            intro v H6 e6 rv
            refine ⟨acc, e6 _ _ (e5 _ _ (ex3 _ _ hDl)), ?_, ?_⟩
            · have : (10000000 : Nat) < sizeLine := by decide
              omega
            · refine ⟨acc ++ [v], ds ++ [y1], ys2, ?_, upd_same, ?_, ?_, hy2, ?_⟩
              · intro a o ha
                rw [upd_ne (ne_of_none ha hD)]
                exact e6 _ _ (e5 _ _ (ex3 _ _ (ex a o ha)))
              · rw [hide_upd List.mem_cons_self]
                exact (rs.mono (hide_mono ((ex3.trans e5).trans e6))).append (.one rv)
              · rw [List.length_append, List.length_singleton]
                omega
              · rw [hr, List.append_assoc]
                rfl
    · rintro H' ⟨acc, ds, ys, ex, hDl, rs, hal, hl, hr⟩
      rw [List.drop_length] at hl
      cases hl
      rw [List.append_nil] at hr
      subst hr
      exact w D acc H' (e1.trans ex) (e1.fresh hD) hDl rs
theorem df_lc {elt tg iter : Expr} {ifs : List Expr} {scope : Scope} {own : List (Str × Nat)} {pos : Pos} {g : DEnv → Res (List Dat)} {asg : Dat → DEnv → Option DEnv} {is : List Nat} {t : DEnv → Res Bool} {f : DEnv → Res Dat} (hc : X.calm = true) (hN : X.N.Nodup) (hi : DI X T W ow tg iter g)
    (ok : BlkOk X.N X.env.scope scope own) (his : ∀ i ∈ is, i ∈ own.map (·.2))
    (hg : ∀ (s : Shared) (H : Hp) (C : Addr) (cl : List (Str × Addr)) (fp : List Addr), DG (X.blk s H scope (compEnvC scope cl C X.env) fp) T ow is tg asg) (ht : ∀ (s : Shared) (H : Hp) (C : Addr) (cl : List (Str × Addr)) (fp : List Addr), DTs (X.blk s H scope (compEnvC scope cl C X.env) fp) T ow ifs t)
    (he : ∀ (s : Shared) (H : Hp) (C : Addr) (cl : List (Str × Addr)) (fp : List Addr), DE (X.blk s H scope (compEnvC scope cl C X.env) fp) T wNo ow elt f) (hs : ∀ x, foldedSetIterable iter X.env x = pure x := by intro _; rfl) :
    DF X T W ow (.ListComp elt [⟨tg, iter, ifs, 0⟩] scope pos) (vLc g asg (own.map (·.2)) t f) := pe_imp (pe_lc (g := tDG X.K T ow is asg) (tt := tDB X.K T wNo ow t) (te := tD X.K T wNo ow f) hc hN hi ok hg ht he hs) fun _ _ _ h => lc_read his h
end
end Dl
/-! The D layer, part 6: statements, defs, objects made. -/
namespace Dl
open PySem PySem.Spec PyProof.Rows L2

inductive DFlow where
  | nx (ρ : DEnv) | rt (d : Dat) | bk (ρ : DEnv) | ct (ρ : DEnv) | ex (c : Nat) (ρ : DEnv) | stuck
structure RS (K : PySem.W.Frag) (T : CT) (B : Hp) (B0 : List Addr) (ow : List Nat) (σ : Sg) (ρ : DEnv) (H : Hp) (S : List Addr) : Prop where
  re : RE K T ow σ ρ H S
  ex : Ex B H
  sub : ∀ p ∈ B0, p ∈ S
  bd : ∀ p ∈ B0, B p ≠ none
  onew : ∀ (i : Nat) (d : Dat) (p : Addr), i ∈ ow → ρ[i]? = some (some d) → σ[i]? = some (some (.ref p)) → B p = none
  new : ∀ p ∈ S, p ∈ B0 ∨ B p = none
section
variable {K : PySem.W.Frag} {T : CT} {B H H' H1 : Hp} {B0 S S' : List Addr} {ow ow' ob : List Nat} {σ : Sg} {ρ : DEnv}
theorem RS.mono (r : RS K T B B0 ow σ ρ H S) (e : Ex H H') : RS K T B B0 ow σ ρ H' S := ⟨r.re.mono e, r.ex.trans e, r.sub, r.bd, r.onew, r.new⟩
/-- the addresses of owned slots -/
def ownA (ow : List Nat) (σ : Sg) (ρ : DEnv) : List Addr := ow.filterMap fun i => match ρ[i]?, σ[i]? with
  | some (some _), some (some (V.ref p)) => some p
  | _, _ => none
theorem mem_ownA {p : Addr} : p ∈ ownA ow σ ρ ↔ ∃ i d, i ∈ ow ∧ ρ[i]? = some (some d) ∧ σ[i]? = some (some (.ref p)) := by
  unfold ownA
  rw [List.mem_filterMap]
  constructor
  · rintro ⟨i, hi, h⟩
    split at h
    · rename_i d q h1 h2
      cases h
      exact ⟨i, d, hi, h1, h2⟩
    · cases h
  · rintro ⟨i, d, hi, h1, h2⟩
    exact ⟨i, hi, by rw [h1, h2]⟩
/-- fewer slots are owned: the others' lists are frozen -/
theorem RS.less (r : RS K T B B0 ow σ ρ H S) (h : ∀ i ∈ ow', i ∈ ow) : RS K T B B0 ow' σ ρ H (B0 ++ ownA ow' σ ρ) ∧ ∀ p ∈ B0 ++ ownA ow' σ ρ, p ∈ S := by
  have hS : ∀ p ∈ B0 ++ ownA ow' σ ρ, p ∈ S := fun p hp => by
    rcases List.mem_append.mp hp with z | z
    · exact r.sub p z
    · obtain ⟨i, d, hi, h1, h2⟩ := mem_ownA.mp z
      obtain ⟨q, vs, ds, e1, _, e3, _⟩ := r.re.own i d (h i hi) h1
      rw [h2] at e1
      cases e1
      exact e3
  have sub := hide_sub (H := H) hS
  refine ⟨⟨⟨fun p hp => r.re.mt p (hS p hp), r.re.len, fun i d hi hd => ?_, fun i d hi hd => ?_, fun i j d e p hi hj => r.re.inj i j d e p (h i hi) (h j hj)⟩, r.ex, fun p hp => List.mem_append_left _ hp, r.bd, fun i d p hi => r.onew i d p (h i hi), fun p hp => ?_⟩, hS⟩
  · by_cases z : i ∈ ow
    · obtain ⟨q, vs, ds, e1, e2, e3, e4, e5⟩ := r.re.own i d z hd
      refine ⟨_, e1, ?_⟩
      rw [e2]
      refine .lst (hide_get e4 fun hq => ?_) (e5.mono sub)
      rcases List.mem_append.mp hq with y | y
      · exact r.bd q y (r.onew i d q z hd e1)
      · obtain ⟨j, d', hj, h1, h2⟩ := mem_ownA.mp y
        have := r.re.inj i j d d' q z (h j hj) hd h1 e1 h2
        subst this
        exact hi hj
    · obtain ⟨v, h1, h2⟩ := r.re.fro i d z hd
      exact ⟨v, h1, h2.mono sub⟩
  · obtain ⟨q, vs, ds, e1, e2, e3, e4, e5⟩ := r.re.own i d (h i hi) hd
    exact ⟨q, vs, ds, e1, e2, List.mem_append_right _ (mem_ownA.mpr ⟨i, d, hi, hd, e1⟩), e4, e5.mono sub⟩
  · exact r.new p (hS p hp)
theorem RS.bare (r : RS K T B B0 ow σ ρ H S) : RS K T B B0 [] σ ρ H B0 ∧ Ex (hide H S) (hide H B0) := by
  have h := (r.less (ow' := []) fun _ z => by cases z).1
  have e : B0 ++ ownA [] σ ρ = B0 := List.append_nil _
  rw [e] at h
  exact ⟨h, hide_sub r.sub⟩
/-- what is wanted behind a statement -/
def Wants (K : PySem.W.Frag) (T : CT) (W : WX) (B : Hp) (B0 : List Addr) (ow' ob : List Nat) (H : Hp) (S : List Addr) (D : Ends) : DFlow → Prop
  | .nx ρ => ∀ σ' H' S', RS K T B B0 ow' σ' ρ H' S' → Ex (hide H S) (hide H' S') → D.nx σ' H'
  | .rt d => ∀ v H', Ex B H' → Rep K T (hide H' B0) v d → D.rt v H'
  | .bk ρ => ∀ σ' H' S', RS K T B B0 ob σ' ρ H' S' → Ex (hide H S) (hide H' S') → D.bk σ' H'
  | .ct ρ => ∀ σ' H' S', RS K T B B0 ob σ' ρ H' S' → Ex (hide H S) (hide H' S') → D.ct σ' H'
  | .ex c ρ => ∀ σ' H', RS K T B B0 [] σ' ρ H' B0 → Ex (hide H S) (hide H' B0) → W (T.exc c) none σ' H'
  | .stuck => False
theorem Wants.mono {W : WX} {D : Ends} {f : DFlow} (w : Wants K T W B B0 ow' ob H S D f) (e : Ex (hide H S) (hide H' S')) : Wants K T W B B0 ow' ob H' S' D f := by
  cases f with
  | nx ρ => exact fun σ' H2 S2 r e2 => w σ' H2 S2 r (e.trans e2)
  | rt d => exact w
  | bk ρ => exact fun σ' H2 S2 r e2 => w σ' H2 S2 r (e.trans e2)
  | ct ρ => exact fun σ' H2 S2 r e2 => w σ' H2 S2 r (e.trans e2)
  | ex c ρ => exact fun σ' H2 r e2 => w σ' H2 r (e.trans e2)
  | stuck => exact w
def tDS (K : PySem.W.Frag) (T : CT) (W : WX) (ow ow' ob : List Nat) (F : DEnv → DFlow) : TS := fun D σ H => ∃ B B0 ρ S, RS K T B B0 ow σ ρ H S ∧ Wants K T W B B0 ow' ob H S D (F ρ)
end
def DS (X : Cx) (T : CT) (W : WX) (ow ow' ob : List Nat) (st : Stmt) (F : DEnv → DFlow) : Prop := PS X st (tDS X.K T W ow ow' ob F)
def DSs (X : Cx) (T : CT) (W : WX) (ow ow' ob : List Nat) (st : List Stmt) (F : DEnv → DFlow) : Prop := PSs X st (tDS X.K T W ow ow' ob F)

section
variable {K : PySem.W.Frag} {T : CT} {W : WX} {B H H' H1 : Hp} {B0 S S' : List Addr} {ow ow' ob : List Nat} {σ : Sg} {ρ : DEnv} {D : Ends}
/-- a result, then a statement's end -/
def rBind {α : Type} (r : Res α) (ρ : DEnv) (k : α → DFlow) : DFlow := match r with
  | .ok a => k a
  | .exc c => .ex c ρ
  | .stuck => .stuck
/-- an expression within a statement -/
theorem Wants.part {fa : DEnv → Res Dat} {k : Dat → DFlow} {R : VK} (rs : RS K T B B0 ow σ ρ H S) (w : Wants K T W B B0 ow' ob H S D (rBind (fa ρ) ρ k))
    (hk : ∀ v d H1, Wants K T W B B0 ow' ob H1 S D (k d) → RS K T B B0 ow σ ρ H1 S → Ex H H1 → Rep K T (hide H1 S) v d → R v H1) : tD K T W ow fa σ H R := by
  refine ⟨ρ, S, rs.re, ?_⟩
  unfold rBind at w
  cases q : fa ρ with
  | ok d =>
    rw [q] at w
    exact fun v H' e r => hk v d H' (Wants.mono w (hide_mono e)) (rs.mono e) e r
  | exc c =>
    rw [q] at w
    intro H' e
    have r2 := (rs.mono e).bare
    exact w σ H' r2.1 ((hide_mono e).trans r2.2)
  | stuck =>
    rw [q] at w
    exact w.elim
theorem Wants.partF {fa : DEnv → Res (List Dat)} {k : List Dat → DFlow} {R : VK} (rs : RS K T B B0 ow σ ρ H S) (w : Wants K T W B B0 ow' ob H S D (rBind (fa ρ) ρ k))
    (hk : ∀ p vs ds H1, Wants K T W B B0 ow' ob H S D (k ds) → RS K T B B0 ow σ ρ H1 S → Ex H H1 → H p = none → H1 p = some (.lst vs) → Reps K T (hide H1 (p :: S)) vs ds → R (.ref p) H1) : tDF K T W ow fa σ H R := by
  refine ⟨ρ, S, rs.re, ?_⟩
  unfold rBind at w
  cases q : fa ρ with
  | ok d =>
    rw [q] at w
    exact fun p vs H' e n h r => hk p vs d H' w (rs.mono e) e n h r
  | exc c =>
    rw [q] at w
    intro H' e
    have r2 := (rs.mono e).bare
    exact w σ H' r2.1 ((hide_mono e).trans r2.2)
  | stuck =>
    rw [q] at w
    exact w.elim
theorem Wants.partB {fa : DEnv → Res Bool} {k : Bool → DFlow} {R : Bool → Hp → Prop} (rs : RS K T B B0 ow σ ρ H S) (w : Wants K T W B B0 ow' ob H S D (rBind (fa ρ) ρ k))
    (hk : ∀ d H1, Wants K T W B B0 ow' ob H1 S D (k d) → RS K T B B0 ow σ ρ H1 S → Ex H H1 → R d H1) : tDB K T W ow fa σ H R := by
  refine ⟨ρ, S, rs.re, ?_⟩
  unfold rBind at w
  cases q : fa ρ with
  | ok d =>
    rw [q] at w
    exact fun H' e => hk d H' (Wants.mono w (hide_mono e)) (rs.mono e) e
  | exc c =>
    rw [q] at w
    intro H' e
    have r2 := (rs.mono e).bare
    exact w σ H' r2.1 ((hide_mono e).trans r2.2)
  | stuck =>
    rw [q] at w
    exact w.elim
theorem Wants.partA {fa : DEnv → Res (List Dat)} {k : List Dat → DFlow} {R : List V → Hp → Prop} (rs : RS K T B B0 ow σ ρ H S) (w : Wants K T W B B0 ow' ob H S D (rBind (fa ρ) ρ k))
    (hk : ∀ vs ds H1, Wants K T W B B0 ow' ob H1 S D (k ds) → RS K T B B0 ow σ ρ H1 S → Ex H H1 → Reps K T (hide H1 S) vs ds → R vs H1) : tDA K T W ow fa σ H R := by
  refine ⟨ρ, S, rs.re, ?_⟩
  unfold rBind at w
  cases q : fa ρ with
  | ok d =>
    rw [q] at w
    exact fun vs H' e r => hk vs d H' (Wants.mono w (hide_mono e)) (rs.mono e) e r
  | exc c =>
    rw [q] at w
    intro H' e
    have r2 := (rs.mono e).bare
    exact w σ H' r2.1 ((hide_mono e).trans r2.2)
  | stuck =>
    rw [q] at w
    exact w.elim
/-- the statement goes on: the slots' new state -/
theorem Wants.go {ρ' : DEnv} {σ' : Sg} (w : Wants K T W B B0 ow' ob H S D (.nx ρ')) (r : RS K T B B0 ow' σ' ρ' H' S') (e : Ex (hide H S) (hide H' S')) : D.nx σ' H' := w σ' H' S' r e
theorem RS.set {i : Nat} {v : V} {d : Dat} (rs : RS K T B B0 ow σ ρ H S) (hi : i ∉ ow) (r : Rep K T (hide H S) v d) : RS K T B B0 ow (σ.set i (some v)) (ρ.set i (some d)) H S := by
  refine ⟨rs.re.set hi r, rs.ex, rs.sub, rs.bd, fun j e p hj h1 h2 => ?_, rs.new⟩
  have z : i ≠ j := fun q => hi (q ▸ hj)
  rw [List.getElem?_set_ne z] at h1 h2
  exact rs.onew j e p hj h1 h2
/-- a new list becomes a slot's own -/
theorem RS.own {i : Nat} {p : Addr} {vs : List V} {ds : List Dat} (rs : RS K T B B0 ow σ ρ H S) (hi : i ∉ ow) (e : Ex H H') (n : H p = none) (hp : H' p = some (.lst vs)) (r : Reps K T (hide H' (p :: S)) vs ds) :
    RS K T B B0 (i :: ow) (σ.set i (some (.ref p))) (ρ.set i (some (.lst ds))) H' (p :: S) := by
  have re := rs.re.more e n ⟨_, hp, rfl⟩
  have hB : B p = none := rs.ex.fresh n
  have hl := rs.re.len
  have pn : p ∉ S := rs.re.mt.not n
  refine ⟨⟨re.mt, by rw [List.length_set, List.length_set]; exact hl, fun j d hj hd => ?_, fun j d hj hd => ?_, fun j k d f q hj hk hd hf h1 h2 => ?_⟩, rs.ex.trans e, fun q hq => List.mem_cons_of_mem _ (rs.sub q hq), rs.bd, fun j d q hj hd h1 => ?_, fun q hq => ?_⟩
  · rw [List.mem_cons, not_or] at hj
    rw [List.getElem?_set_ne (Ne.symm hj.1)] at hd ⊢
    exact re.fro j d hj.2 hd
  · by_cases z : i = j
    · subst z
      by_cases zl : i < ρ.length
      · rw [List.getElem?_set_self zl] at hd
        cases hd
        exact ⟨p, vs, ds, List.getElem?_set_self (by rw [hl]; exact zl), rfl, List.mem_cons_self, hp, r⟩
      · rw [List.getElem?_eq_none (by rw [List.length_set]; omega)] at hd
        cases hd
    · rw [List.getElem?_set_ne z] at hd ⊢
      rcases List.mem_cons.mp hj with y | y
      · exact absurd y.symm z
      · exact re.own j d y hd
  · have key : ∀ {m : Nat} {g : Dat}, m ∈ ow → (ρ.set i (some (.lst ds)))[m]? = some (some g) → (σ.set i (some (.ref p)))[m]? = some (some (.ref p)) → False := fun {m g} hm h1 h2 => by
      have z : i ≠ m := fun y => hi (y ▸ hm)
      rw [List.getElem?_set_ne z] at h1 h2
      obtain ⟨q', _, _, e1, _, e3, _⟩ := rs.re.own m g hm h1
      rw [h2] at e1
      cases e1
      exact pn e3
    have self : ∀ {m : Nat} {g : Dat}, (ρ.set i (some (.lst ds)))[i]? = some (some g) → (σ.set i (some (.ref p)))[i]? = some (some (.ref q)) → q = p := fun {m g} h1 h2 => by
      by_cases zl : i < ρ.length
      · rw [List.getElem?_set_self (by rw [hl]; exact zl)] at h2
        cases h2
        rfl
      · rw [List.getElem?_eq_none (by rw [List.length_set]; omega)] at h1
        cases h1
    rcases List.mem_cons.mp hj with y | y <;> rcases List.mem_cons.mp hk with x | x
    · rw [y, x]
    · subst y
      have q1 := self (m := 0) hd h1
      subst q1
      exact (key x hf h2).elim
    · subst x
      have q1 := self (m := 0) hf h2
      subst q1
      exact (key y hd h1).elim
    · have z1 : i ≠ j := fun w => hi (w ▸ y)
      have z2 : i ≠ k := fun w => hi (w ▸ x)
      rw [List.getElem?_set_ne z1] at hd h1
      rw [List.getElem?_set_ne z2] at hf h2
      exact rs.re.inj j k d f q y x hd hf h1 h2
  · by_cases z : i = j
    · subst z
      by_cases zl : i < ρ.length
      · rw [List.getElem?_set_self (by rw [hl]; exact zl)] at h1
        cases h1
        exact hB
      · rw [List.getElem?_eq_none (by rw [List.length_set]; omega)] at hd
        cases hd
    · rw [List.getElem?_set_ne z] at hd h1
      rcases List.mem_cons.mp hj with y | y
      · exact absurd y.symm z
      · exact rs.onew j d q y hd h1
  · rcases List.mem_cons.mp hq with y | y
    · rw [y]; exact .inr hB
    · exact rs.new q y
/-- a slot's own list changes -/
theorem RS.chg {i : Nat} {p : Addr} {ws : List V} {ds es : List Dat} (rs : RS K T B B0 ow σ ρ H S) (hi : i ∈ ow) (hd : ρ[i]? = some (some (.lst ds))) (hv : σ[i]? = some (some (.ref p))) (hp : p ∈ S) (r : Reps K T (hide H S) ws es) :
    RS K T B B0 ow σ (ρ.set i (some (.lst es))) (upd H p (.lst ws)) S := by
  have hB := rs.onew i _ p hi hd hv
  have hl := rs.re.len
  have il : i < ρ.length := (List.getElem?_eq_some_iff.mp hd).1
  have old : ∀ {m : Nat} {g : Dat}, (ρ.set i (some (.lst es)))[m]? = some (some g) → ∃ g', ρ[m]? = some (some g') := fun {m g} h => by
    by_cases z : i = m
    · subst z; exact ⟨_, hd⟩
    · rw [List.getElem?_set_ne z] at h; exact ⟨g, h⟩
  refine ⟨⟨fun q hq => ?_, by rw [List.length_set]; exact hl, fun j d hj hd' => ?_, fun j d hj hd' => ?_, fun j k d f q hj hk h1 h2 h3 h4 => ?_⟩, fun a o ha => ?_, rs.sub, rs.bd, fun j d q hj h1 h2 => ?_, rs.new⟩
  · by_cases z : q = p
    · subst z
      exact ⟨_, upd_same, rfl⟩
    · rw [upd_ne z]
      exact rs.re.mt q hq
  · have z : i ≠ j := fun y => hj (y ▸ hi)
    rw [List.getElem?_set_ne z] at hd'
    rw [hide_upd hp]
    exact rs.re.fro j d hj hd'
  · rw [hide_upd hp]
    by_cases z : i = j
    · subst z
      rw [List.getElem?_set_self il] at hd'
      cases hd'
      exact ⟨p, ws, es, hv, rfl, hp, upd_same, r⟩
    · rw [List.getElem?_set_ne z] at hd'
      obtain ⟨q, us, fs, e1, e2, e3, e4, e5⟩ := rs.re.own j d hj hd'
      refine ⟨q, us, fs, e1, e2, e3, ?_, e5⟩
      rw [upd_ne fun y => z (rs.re.inj i j _ d p hi hj hd hd' hv (by rw [← y]; exact e1))]
      exact e4
  · obtain ⟨d', h1⟩ := old h1
    obtain ⟨f', h2⟩ := old h2
    exact rs.re.inj j k d' f' q hj hk h1 h2 h3 h4
  · rw [upd_ne fun y => by rw [y, hB] at ha; cases ha]
    exact rs.ex a o ha
  · obtain ⟨d', h1⟩ := old h1
    exact rs.onew j d' q hj h1 h2
end

/-! ### the statements' data -/
def sNop : DEnv → DFlow := .nx
def sSeq (F G : DEnv → DFlow) : DEnv → DFlow := fun ρ => match F ρ with
  | .nx ρ' => G ρ'
  | f => f
def sAsg (i : Nat) (f : DEnv → Res Dat) : DEnv → DFlow := fun ρ => rBind (f ρ) ρ fun d => .nx (ρ.set i (some d))
def sAsgO (i : Nat) (f : DEnv → Res (List Dat)) : DEnv → DFlow := fun ρ => rBind (f ρ) ρ fun l => .nx (ρ.set i (some (.lst l)))
def sAsgT (asg : Dat → DEnv → Option DEnv) (f : DEnv → Res Dat) : DEnv → DFlow := fun ρ => rBind (f ρ) ρ fun d => match asg d ρ with
  | some ρ' => .nx ρ'
  | none => .stuck
def sPar (i j : Nat) (f g : DEnv → Res Dat) : DEnv → DFlow := fun ρ => rBind (f ρ) ρ fun d => rBind (g ρ) ρ fun e => .nx ((ρ.set i (some d)).set j (some e))
def sParO (i j : Nat) (f : DEnv → Res (List Dat)) (g : DEnv → Res Dat) : DEnv → DFlow := fun ρ => rBind (f ρ) ρ fun d => rBind (g ρ) ρ fun e => .nx ((ρ.set i (some (.lst d))).set j (some e))
def sDrop (f : DEnv → Res Dat) : DEnv → DFlow := fun ρ => rBind (f ρ) ρ fun _ => .nx ρ
def sRet (f : DEnv → Res Dat) : DEnv → DFlow := fun ρ => rBind (f ρ) ρ .rt
def sRetN : DEnv → DFlow := fun _ => .rt .non
def sIf (t : DEnv → Res Bool) (F G : DEnv → DFlow) : DEnv → DFlow := fun ρ => rBind (t ρ) ρ fun b => if b = true then F ρ else G ρ
def sAug (i : Nat) (g : Dat → Dat → Option Dat) (f : DEnv → Res Dat) : DEnv → DFlow := fun ρ => match ρ[i]? with
  | some (some d) => rBind (f ρ) ρ fun e => match g d e with
    | some z => .nx (ρ.set i (some z))
    | none => .stuck
  | _ => .stuck
def sApp (i : Nat) (f : DEnv → Res Dat) : DEnv → DFlow := fun ρ => match ρ[i]? with
  | some (some (.lst l)) => rBind (f ρ) ρ fun d => if l.length < 10000000 then .nx (ρ.set i (some (.lst (l ++ [d])))) else .stuck
  | _ => .stuck
def extK (i : Nat) (l : List Dat) (ρ : DEnv) : Dat → DFlow
  | .lst m => if l.length + m.length ≤ 10000000 then .nx (ρ.set i (some (.lst (l ++ m)))) else .stuck
  | _ => .stuck
def sExt (i : Nat) (f : DEnv → Res Dat) : DEnv → DFlow := fun ρ => match ρ[i]? with
  | some (some (.lst l)) => rBind (f ρ) ρ (extK i l ρ)
  | _ => .stuck
def setK (i : Nat) (l : List Dat) (ρ : DEnv) (d : Dat) : Dat → DFlow
  | .int n => match ixN l.length n with
    | some j => .nx (ρ.set i (some (.lst (l.set j d))))
    | none => .stuck
  | _ => .stuck
def sSetI (i : Nat) (fi f : DEnv → Res Dat) : DEnv → DFlow := fun ρ => rBind (f ρ) ρ fun d => match ρ[i]? with
  | some (some (.lst l)) => rBind (fi ρ) ρ (setK i l ρ d)
  | _ => .stuck
def sRaise (c : Nat) : DEnv → DFlow := fun ρ => .ex c ρ
def sBreak : DEnv → DFlow := .bk
def sCont : DEnv → DFlow := .ct
def forL (asg : Dat → DEnv → Option DEnv) (F : DEnv → DFlow) : List Dat → DEnv → DFlow
  | [], ρ => .nx ρ
  | d :: r, ρ => match asg d ρ with
    | none => .stuck
    | some ρ1 => match F ρ1 with
      | .nx ρ2 => forL asg F r ρ2
      | .ct ρ2 => forL asg F r ρ2
      | .bk ρ2 => .nx ρ2
      | f => f
def sFor (g : DEnv → Res (List Dat)) (asg : Dat → DEnv → Option DEnv) (F : DEnv → DFlow) : DEnv → DFlow := fun ρ => rBind (g ρ) ρ fun items => forL asg F items ρ
def whileL (t : DEnv → Res Bool) (F : DEnv → DFlow) : Nat → DEnv → DFlow
  | 0, _ => .stuck
  | n + 1, ρ => rBind (t ρ) ρ fun b => if b = true then (match F ρ with
      | .nx ρ2 => whileL t F n ρ2
      | .ct ρ2 => whileL t F n ρ2
      | .bk ρ2 => .nx ρ2
      | f => f) else .nx ρ
def sWhile (n : Nat) (t : DEnv → Res Bool) (F : DEnv → DFlow) : DEnv → DFlow := whileL t F n
/-- try: F except (the classes m): G, where G raises nothing -/
def sTry (m : Nat → Bool) (F G : DEnv → DFlow) : DEnv → DFlow := fun ρ => match F ρ with
  | .ex c ρ' => if m c = true then (match G ρ' with
    | .ex _ _ => .stuck
    | f => f) else .ex c ρ'
  | f => f

section
variable {X : Cx} {T : CT} {W : WX} {ow ow' ow'' ob : List Nat} {e a b c : Expr} {st : Stmt} {sts rest : List Stmt} {pos p1 p2 : Pos} {f g : DEnv → Res Dat} {F G : DEnv → DFlow}
theorem ds_in (h : DS X T W ow' ow'' ob st F) (hs : ∀ i ∈ ow', i ∈ ow) : DS X T W ow ow'' ob st F := ps_imp h fun D σ H q => by
  obtain ⟨B, B0, ρ, S, rs, w⟩ := q
  obtain ⟨r2, sub⟩ := rs.less hs
  exact ⟨B, B0, ρ, _, r2, w.mono (hide_sub sub)⟩
theorem dss_in (h : DSs X T W ow' ow'' ob sts F) (hs : ∀ i ∈ ow', i ∈ ow) : DSs X T W ow ow'' ob sts F := pss_imp h fun D σ H q => by
  obtain ⟨B, B0, ρ, S, rs, w⟩ := q
  obtain ⟨r2, sub⟩ := rs.less hs
  exact ⟨B, B0, ρ, _, r2, w.mono (hide_sub sub)⟩
theorem Wants.out {K : PySem.W.Frag} {B : Hp} {B0 S : List Addr} {H : Hp} {D : Ends} {fl : DFlow} (w : Wants K T W B B0 ow'' ob H S D fl) (hs : ∀ i ∈ ow'', i ∈ ow') : Wants K T W B B0 ow' ob H S D fl := by
  cases fl with
  | nx ρ =>
    intro σ' H2 S2 r e2
    obtain ⟨r2, sub⟩ := r.less hs
    exact w σ' H2 _ r2 (e2.trans (hide_sub sub))
  | rt d => exact w
  | bk ρ => exact w
  | ct ρ => exact w
  | ex c ρ => exact w
  | stuck => exact w
theorem dss_out (h : DSs X T W ow ow' ob sts F) (hs : ∀ i ∈ ow'', i ∈ ow') : DSs X T W ow ow'' ob sts F := pss_imp h fun D σ H q => by
  obtain ⟨B, B0, ρ, S, rs, w⟩ := q
  exact ⟨B, B0, ρ, S, rs, w.out hs⟩
theorem ds_out (h : DS X T W ow ow' ob st F) (hs : ∀ i ∈ ow'', i ∈ ow') : DS X T W ow ow'' ob st F := ps_imp h fun D σ H q => by
  obtain ⟨B, B0, ρ, S, rs, w⟩ := q
  exact ⟨B, B0, ρ, S, rs, w.out hs⟩
theorem dss_nil : DSs X T W ow ow ob [] sNop := pss_imp pss_nil fun D σ H q => by
  obtain ⟨B, B0, ρ, S, rs, w⟩ := q
  exact w σ H S rs (Ex.refl _)
theorem dss_cons (h1 : DS X T W ow ow' ob st F) (h2 : DSs X T W ow' ow'' ob rest G) : DSs X T W ow ow'' ob (st :: rest) (sSeq F G) := pss_imp (pss_cons h1 h2) fun D σ H q => by
  obtain ⟨B, B0, ρ, S, rs, w⟩ := q
  refine ⟨B, B0, ρ, S, rs, ?_⟩
  unfold sSeq at w
  cases q : F ρ with
  | nx ρ' =>
    rw [q] at w
    exact fun σ' H' S' r e => ⟨B, B0, ρ', S', r, w.mono e⟩
  | _ =>
    rw [q] at w
    exact w
theorem dss_one (h1 : DS X T W ow ow' ob st F) : DSs X T W ow ow' ob [st] F := pss_one h1
theorem ds_pass : DS X T W ow ow ob (.Pass pos) sNop := ps_imp ps_pass fun D σ H q => by
  obtain ⟨B, B0, ρ, S, rs, w⟩ := q
  exact w σ H S rs (Ex.refl _)
theorem ds_break : DS X T W ob ow' ob (.Break pos) sBreak := ps_imp ps_break fun D σ H q => by
  obtain ⟨B, B0, ρ, S, rs, w⟩ := q
  exact w σ H S rs (Ex.refl _)
theorem ds_cont : DS X T W ob ow' ob (.Continue pos) sCont := ps_imp ps_continue fun D σ H q => by
  obtain ⟨B, B0, ρ, S, rs, w⟩ := q
  exact w σ H S rs (Ex.refl _)
/-- name = e -/
theorem ds_asg {i : Nat} {x : Str} {pos' : Pos} (hN : X.N.Nodup) (he : DE X T W ow e f) (hs : ∀ j ∈ ow', j ∈ ow) (ho : i ∉ ow') (hi : X.N[i]? = some x := by rfl) (hx : Loc X.env.scope x := by first | exact .inl rfl | exact .inr rfl)
    (hsw : swapsWith e (some (.Name x pos')) pos.line X.env = pure false := by rfl) (hf : X.fn x = true ∨ X.env.scope.names.lookup x = some .local := by first | exact .inl rfl | exact .inr rfl) : DS X T W ow ow' ob (.Assign [.Name x pos'] e pos) (sAsg i f) :=
  ps_imp (ps_set hN hi hx he hsw hf) fun D σ H q => by
    obtain ⟨B, B0, ρ, S, rs, w⟩ := q
    refine Wants.part rs w fun v d H1 w1 rs1 e1 r => ?_
    obtain ⟨rs2, sub⟩ := rs1.less hs
    exact Wants.go w1 (rs2.set ho (r.mono (hide_sub sub))) (hide_sub sub)
/-- name = a new list, the slot's own from now on -/
theorem ds_asgO {i : Nat} {x : Str} {pos' : Pos} {f : DEnv → Res (List Dat)} (hN : X.N.Nodup) (he : DF X T W ow e f) (hs : ∀ j ∈ ow', j ∈ ow) (ho : i ∉ ow') (hi : X.N[i]? = some x := by rfl) (hx : Loc X.env.scope x := by first | exact .inl rfl | exact .inr rfl)
    (hsw : swapsWith e (some (.Name x pos')) pos.line X.env = pure false := by rfl) (hf : X.fn x = true ∨ X.env.scope.names.lookup x = some .local := by first | exact .inl rfl | exact .inr rfl) : DS X T W ow (i :: ow') ob (.Assign [.Name x pos'] e pos) (sAsgO i f) :=
  ps_imp (ps_set hN hi hx he hsw hf) fun D σ H q => by
    obtain ⟨B, B0, ρ, S, rs, w⟩ := q
    refine Wants.partF rs w fun p vs ds H1 w1 rs1 e1 n hp r => ?_
    obtain ⟨rs2, sub⟩ := rs.less hs
    have sub2 : ∀ q ∈ p :: (B0 ++ ownA ow' σ ρ), q ∈ p :: S := fun q hq => (List.mem_cons.mp hq).elim (fun z => by rw [z]; exact List.mem_cons_self) fun z => List.mem_cons_of_mem _ (sub q z)
    exact Wants.go w1 (rs2.own ho e1 n hp (r.mono (hide_sub sub2))) ((hide_sub sub).trans (hide_new e1 n))
end
end Dl
/-! The D layer, part 7: the other statements; defs by their bodies. -/
namespace Dl
open PySem PySem.Spec PyProof.Rows L2
section
variable {X : Cx} {T : CT} {W : WX} {ow ow' ow'' ob : List Nat} {e a b c : Expr} {st : Stmt} {sts rest : List Stmt} {pos p1 p2 : Pos} {f g : DEnv → Res Dat} {F G : DEnv → DFlow}
/-- name = [..] on one line, the name a local: frozen, or the slot's own -/
theorem ds_asgLc {i : Nat} {y : Str} {py : Pos} {elt tg iter : Expr} {ifs : List Expr} {scope : Scope} {own : List (Str × Nat)} {spos : Pos} {gg : DEnv → Res (List Dat)} {asg : Dat → DEnv → Option DEnv} {is : List Nat} {t : DEnv → Res Bool} {fe : DEnv → Res Dat} (hc : X.calm = true) (hN : X.N.Nodup)
    (hyl : X.env.scope.names.lookup y = some .local) (hsw : swapsWith (.ListComp elt [⟨tg, iter, ifs, 0⟩] scope pos) (some (.Name y py)) spos.line X.env = pure true) (hi : DI X T W ow tg iter gg) (ok : BlkOk X.N X.env.scope scope own) (his : ∀ i ∈ is, i ∈ own.map (·.2))
    (hg : ∀ (s : Shared) (H : Hp) (C : Addr) (cl : List (Str × Addr)) (fp : List Addr), DG (X.blk s H scope (compEnvC scope cl C X.env) fp) T ow is tg asg) (ht : ∀ (s : Shared) (H : Hp) (C : Addr) (cl : List (Str × Addr)) (fp : List Addr), DTs (X.blk s H scope (compEnvC scope cl C X.env) fp) T ow ifs t)
    (he : ∀ (s : Shared) (H : Hp) (C : Addr) (cl : List (Str × Addr)) (fp : List Addr), DE (X.blk s H scope (compEnvC scope cl C X.env) fp) T wNo ow elt fe) (hs : ∀ j ∈ ow', j ∈ ow) (ho : i ∉ ow') (hy : X.N[i]? = some y := by rfl) (hfs : ∀ x, foldedSetIterable iter X.env x = pure x := by intro _; rfl) :
    DS X T W ow (i :: ow') ob (.Assign [.Name y py] (.ListComp elt [⟨tg, iter, ifs, 0⟩] scope pos) spos) (sAsgO i (vLc gg asg (own.map (·.2)) t fe)) :=
  ps_imp (ps_setLc (g := tDG X.K T ow is asg) (tt := tDB X.K T wNo ow t) (te := tD X.K T wNo ow fe) hc hN hy hyl hsw hi ok hg ht he hfs) fun D σ H q => by
    obtain ⟨B, B0, ρ, S, rs, w⟩ := q
    refine lc_read his ?_
    refine Wants.partF rs w fun p vs ds H1 w1 rs1 e1 n hp r => ?_
    obtain ⟨rs2, sub⟩ := rs.less hs
    have sub2 : ∀ q ∈ p :: (B0 ++ ownA ow' σ ρ), q ∈ p :: S := fun q hq => (List.mem_cons.mp hq).elim (fun z => by rw [z]; exact List.mem_cons_self) fun z => List.mem_cons_of_mem _ (sub q z)
    exact Wants.go w1 (rs2.own ho e1 n hp (r.mono (hide_sub sub2))) ((hide_sub sub).trans (hide_new e1 n))
/-- targets = e -/
theorem ds_asgT {tg : Expr} {is : List Nat} {asg : Dat → DEnv → Option DEnv} (he : DE X T W ow e f) (hg : DG X T ow' is tg asg) (hs : ∀ j ∈ ow', j ∈ ow) (hd : ∀ j ∈ ow', j ∉ is) (hsame : ∀ d ρ ρ' j, asg d ρ = some ρ' → j ∉ is → ρ'[j]? = ρ[j]?)
    (hsw : swapsWithSole [tg] e pos.line X.env = pure false := by rfl) (hw : swappedStores [tg] e X.env = pure none := by rfl) (hae : (assignEach [tg] X.env).map (·.2) = [assign tg X.env] := by rfl) : DS X T W ow ow' ob (.Assign [tg] e pos) (sAsgT asg f) := ps_imp (ps_asg he hg hsw hw hae) fun D σ H q => by
  obtain ⟨B, B0, ρ, S, rs, w⟩ := q
  refine Wants.part rs w fun v d H1 w1 rs1 e1 r => ?_
  obtain ⟨rs2, sub⟩ := rs1.less hs
  cases qa : asg d ρ with
  | none =>
    rw [qa] at w1
    exact w1.elim
  | some ρ' =>
    rw [qa] at w1
    refine ⟨ρ, _, d, rs2.re, r.mono (hide_sub sub), ρ', qa, fun σ' re' hsm hl => ?_⟩
    refine Wants.go w1 (S' := B0 ++ ownA ow' σ ρ) ⟨re', rs2.ex, rs2.sub, rs2.bd, fun i d' p hi h1 h2 => ?_, rs2.new⟩ (hide_sub sub)
    rw [hsame d ρ ρ' i qa (hd i hi)] at h1
    rw [hsm i (hd i hi)] at h2
    exact rs2.onew i d' p hi h1 h2
/-- x, y = a, b -/
theorem ds_par {i j : Nat} {x y : Str} {px py pt : Pos} {kt k2 pt2} (hc : X.calm = true) (hN : X.N.Nodup) (ha : DE X T W ow a f) (hb : DE X T W ow b g) (hs : ∀ k ∈ ow', k ∈ ow) (hi1 : i ∉ ow') (hj1 : j ∉ ow') (hw : swappedStores [.Tuple [.Name x px, .Name y py] kt pt] (.Tuple [a, b] k2 pt2) X.env = pure (some [x, y]))
    (hi : X.N[i]? = some x := by rfl) (hj : X.N[j]? = some y := by rfl) (hij : i ≠ j := by decide) (hx : X.env.scope.names.lookup x = some .local := by rfl) (hy : X.env.scope.names.lookup y = some .local := by rfl)
    (h1 : starEach [a, b] X.env = (false, eval a X.env) :: starEach [b] X.env := by rfl) (h2 : starEach [b] X.env = (false, eval b X.env) :: starEach [] X.env := by rfl) (hsw : swapsWithSole [.Tuple [.Name x px, .Name y py] kt pt] (.Tuple [a, b] k2 pt2) pos.line X.env = pure false := by rfl) :
    DS X T W ow ow' ob (.Assign [.Tuple [.Name x px, .Name y py] kt pt] (.Tuple [a, b] k2 pt2) pos) (sPar i j f g) := ps_imp (ps_par hc hN hi hj hij hx hy (pa_cons ha (pa_cons hb pa_nil h2) h1) hw hsw) fun D σ H q => by
  obtain ⟨B, B0, ρ, S, rs, w⟩ := q
  refine Wants.part rs w fun v d H1 w1 rs1 e1 r => ?_
  refine Wants.part rs1 w1 fun v2 d2 H2 w2 rs2 e2 r2 => ?_
  obtain ⟨rs3, sub⟩ := rs2.less hs
  refine ⟨v, v2, rfl, ?_⟩
  exact Wants.go w2 ((rs3.set hi1 ((r.mono (hide_mono e2)).mono (hide_sub sub))).set hj1 (r2.mono (hide_sub sub))) (hide_sub sub)
/-- x, y = [..], b: x owns its list -/
theorem ds_parO {f : DEnv → Res (List Dat)} {i j : Nat} {x y : Str} {px py pt : Pos} {kt k2 pt2} (hc : X.calm = true) (hN : X.N.Nodup) (ha : DF X T W ow a f) (hb : DE X T W ow b g) (hs : ∀ k ∈ ow', k ∈ ow) (hi1 : i ∉ ow') (hj1 : j ∉ i :: ow') (hw : swappedStores [.Tuple [.Name x px, .Name y py] kt pt] (.Tuple [a, b] k2 pt2) X.env = pure (some [x, y]))
    (hi : X.N[i]? = some x := by rfl) (hj : X.N[j]? = some y := by rfl) (hij : i ≠ j := by decide) (hx : X.env.scope.names.lookup x = some .local := by rfl) (hy : X.env.scope.names.lookup y = some .local := by rfl)
    (h1 : starEach [a, b] X.env = (false, eval a X.env) :: starEach [b] X.env := by rfl) (h2 : starEach [b] X.env = (false, eval b X.env) :: starEach [] X.env := by rfl) (hsw : swapsWithSole [.Tuple [.Name x px, .Name y py] kt pt] (.Tuple [a, b] k2 pt2) pos.line X.env = pure false := by rfl) :
    DS X T W ow (i :: ow') ob (.Assign [.Tuple [.Name x px, .Name y py] kt pt] (.Tuple [a, b] k2 pt2) pos) (sParO i j f g) := ps_imp (ps_par hc hN hi hj hij hx hy (pa_cons (te := tDF X.K T W ow f) ha (pa_cons hb pa_nil h2) h1) hw hsw) fun D σ H q => by
  obtain ⟨B, B0, ρ, S, rs, w⟩ := q
  refine Wants.partF rs w fun p vs ds H1 w1 rs1 e1 n hp r => ?_
  -- the second part, the new list hidden
  have pB : B p = none := rs.ex.fresh n
  have rsm : RS X.K T B B0 ow σ ρ H1 (p :: S) := ⟨rs.re.more e1 n ⟨_, hp, rfl⟩, rs.ex.trans e1, fun q hq => List.mem_cons_of_mem _ (rs.sub q hq), rs.bd, rs.onew, fun q hq => (List.mem_cons.mp hq).elim (fun z => by rw [z]; exact .inr pB) (rs.new q)⟩
  have w1' := w1.mono (hide_new e1 n)
  refine Wants.part rsm w1' fun v2 d2 H2 w2 rs2 e2 r2 => ?_
  refine ⟨.ref p, v2, rfl, ?_⟩
  obtain ⟨rs3, sub⟩ := rs.less hs
  have sub2 : ∀ q ∈ p :: (B0 ++ ownA ow' σ ρ), q ∈ p :: S := fun q hq => (List.mem_cons.mp hq).elim (fun z => by rw [z]; exact List.mem_cons_self) fun z => List.mem_cons_of_mem _ (sub q z)
  have rs4 := rs3.own hi1 (e1.trans e2) n (e2 _ _ hp) ((r.mono (hide_mono e2)).mono (hide_sub sub2))
  exact Wants.go w2 (rs4.set hj1 (r2.mono (hide_sub sub2))) (hide_sub sub2)
theorem ds_drop (he : DE X T W ow e f) (hs : swapsWith e none pos.line X.env = pure false := by rfl) : DS X T W ow ow ob (.Expr e pos) (sDrop f) := ps_imp (ps_expr he hs) fun D σ H q => by
  obtain ⟨B, B0, ρ, S, rs, w⟩ := q
  exact Wants.part rs w fun v d H1 w1 rs1 e1 r => Wants.go w1 rs1 (Ex.refl _)
theorem ds_ret (he : DE X T W ow e f) : DS X T W ow ow' ob (.Return (some e) pos) (sRet f) := ps_imp (ps_ret he) fun D σ H q => by
  obtain ⟨B, B0, ρ, S, rs, w⟩ := q
  exact Wants.part rs w fun v d H1 w1 rs1 e1 r => w1 v H1 rs1.ex (r.mono (hide_sub rs1.sub))
theorem ds_retN : DS X T W ow ow' ob (.Return none pos) sRetN := ps_imp ps_retN fun D σ H q => by
  obtain ⟨B, B0, ρ, S, rs, w⟩ := q
  exact w .non H rs.ex .non
theorem ds_if {t : DEnv → Res Bool} {as bs : List Stmt} (hc : DT X T W ow c t) (ha : DSs X T W ow ow' ob as F) (hb : DSs X T W ow ow' ob bs G) : DS X T W ow ow' ob (.If c as bs pos) (sIf t F G) := ps_imp (ps_if hc ha hb) fun D σ H q => by
  obtain ⟨B, B0, ρ, S, rs, w⟩ := q
  refine Wants.partB rs w fun k H1 w1 rs1 e1 => ?_
  cases k with
  | true => exact ⟨B, B0, ρ, S, rs1, w1⟩
  | false => exact ⟨B, B0, ρ, S, rs1, w1⟩
/-- x op= e -/
theorem ip_of {op : Operator} {r : R2} (h : OpR X (inplaceOp op) r) : PIp X op r := fun pins s σ H x y v u Q I rx ry q => h pins s σ H x y v u Q I rx ry q
theorem ds_aug {i : Nat} {x : Str} {pos' : Pos} {op : Operator} {r : R2} {gg : Dat → Dat → Option Dat} (hN : X.N.Nodup) (ho : OpR X (inplaceOp op) r) (rd : R2D X.K T r gg) (he : DE X T W ow e f) (hiw : i ∉ ow := by decide) (hi : X.N[i]? = some x := by rfl) (hx : Loc X.env.scope x := by first | exact .inl rfl | exact .inr rfl)
    (hf : X.fn x = true ∨ X.env.scope.names.lookup x = some .local := by first | exact .inl rfl | exact .inr rfl) : DS X T W ow ow ob (.AugAssign (.Name x pos') op e pos) (sAug i gg f) := ps_imp (ps_aug hN hi hx he (ip_of ho) hf) fun D σ H q => by
  obtain ⟨B, B0, ρ, S, rs, w⟩ := q
  unfold sAug at w
  split at w
  · rename_i d hd
    obtain ⟨v, h1, h2⟩ := rs.re.fro i d hiw hd
    refine ⟨v, h1, ?_⟩
    refine Wants.part rs w fun v2 d2 H1 w1 rs1 e1 r2 => ?_
    cases q : gg d d2 with
    | none =>
      rw [q] at w1
      exact w1.elim
    | some z =>
      rw [q] at w1
      refine rd S H1 v v2 d d2 z _ rs1.re.mt (h2.mono (hide_mono e1)) r2 q fun v3 H2 e2 r3 => ?_
      exact Wants.go w1 ((rs1.mono e2).set hiw r3) (hide_mono e2)
  · exact w.elim
theorem iop_addAll : OpR X (inplaceOp .Add) (fun x y H Q => rI0 (fun i j => .int (i + j)) x y H Q ∨ (∃ i j, x = .str i ∧ y = .str j ∧ i.length + j.length ≤ sizeLine ∧ Q (.str (i ++ j)) H)) := iop_add.or iop_add_str
def iaddD : Dat → Dat → Option Dat
  | .int i, .int j => some (.int (i + j))
  | .str a, .str b => if a.length + b.length ≤ sizeLine then some (.str (a ++ b)) else none
  | _, _ => none
theorem rd_iadd {K : PySem.W.Frag} : R2D K T (fun x y H Q => rI0 (fun i j => .int (i + j)) x y H Q ∨ (∃ i j, x = .str i ∧ y = .str j ∧ i.length + j.length ≤ sizeLine ∧ Q (.str (i ++ j)) H)) iaddD := fun S H x y dx dy d Q m rx ry e q => by
  cases rx with
  | int i =>
    cases ry with
    | int j => exact .inl ⟨i, j, rfl, rfl, by cases e; exact q _ H (Ex.refl H) (.int _)⟩
    | _ => cases e
  | str a =>
    cases ry with
    | str b =>
      simp only [iaddD] at e
      by_cases z : a.length + b.length ≤ sizeLine
      · rw [if_pos z] at e
        exact .inr ⟨a, b, rfl, rfl, z, by cases e; exact q _ H (Ex.refl H) (.str _)⟩
      · rw [if_neg z] at e
        cases e
    | _ => cases e
  | _ => cases e
def imulI (i j : Int) : Option Int := if i.natAbs < 2 ^ 64 ∨ j.natAbs < 2 ^ 64 then some (i * j) else none
theorem rd_imul {K : PySem.W.Frag} : R2D K T (rI CMul fun i j => .int (i * j)) (intOp imulI) := rd_int fun i j k H Q e q => by
  unfold imulI at e
  split at e
  · rename_i h
    refine ⟨i, j, rfl, rfl, ?_, by cases e; exact q⟩
    rcases h with h | h
    · exact .inl (mul64 h)
    · exact .inr (mul64 h)
  · cases e
def ifdivI (i j : Int) : Option Int := if 0 < j ∧ j.natAbs.log2 < 9000 then some (i / j) else none
theorem rd_ifdiv {K : PySem.W.Frag} : R2D K T (rI CDivW fun i j => .int (i / j)) (intOp ifdivI) := rd_int fun i j k H Q e q => by
  unfold ifdivI at e
  split at e
  · rename_i h
    exact ⟨i, j, rfl, rfl, h, by cases e; exact q⟩
  · cases e
/-! ### an owned list changes -/
/-- the slot's own list, as an object -/
theorem own_at {K : PySem.W.Frag} {B : Hp} {B0 S : List Addr} {σ : Sg} {ρ : DEnv} {H : Hp} {i : Nat} {l : List Dat} (rs : RS K T B B0 ow σ ρ H S) (hi : i ∈ ow) (hd : ρ[i]? = some (some (.lst l))) : ∃ p vs, σ[i]? = some (some (.ref p)) ∧ p ∈ S ∧ H p = some (.lst vs) ∧ Reps K T (hide H S) vs l := by
  obtain ⟨p, vs, ds, h1, h2, h3, h4, h5⟩ := rs.re.own i _ hi hd
  cases h2
  exact ⟨p, vs, h1, h3, h4, h5⟩
theorem ds_app {i : Nat} {x : Str} {apos cpos xp : Pos} (he : DE X T W ow e f) (hiw : i ∈ ow := by decide) (hN : X.N[i]? = some x := by rfl) (hv : Vis X.env.scope x := by first | exact Or.inl rfl | exact Or.inr (Or.inl rfl) | exact Or.inr (Or.inr rfl)) (hd : (x == ("__debug__" : Str)) = false := by decide)
    (hcd : (x == ("__classdict__" : Str)) = false := by decide) (hbase : attributeBase (.Name x xp) "append" X.env (eval (.Name x xp) X.env) = eval (.Name x xp) X.env := by rfl)
    (hfew : ((backTo cpos (starEach [e] X.env)).all (fun x => !x.1) && (backToKw cpos (keywordEach [] X.env)).all (fun x => x.1.isSome)
      && decide ([e].length + ([] : List Keyword).length + (if ([] : List Keyword).isEmpty then 0 else 1) < 30)) = true := by rfl)
    (hline : (apos.endLine == cpos.line) = true := by rfl) (hst : starEach [e] X.env = (false, eval e X.env) :: starEach [] X.env := by rfl) (hplain : (backTo cpos (starEach [] X.env)).any (·.1) = false := by rfl)
    (hs : swapsWith (.Call (.Attribute (.Name x xp) "append" apos) [e] [] cpos) none pos.line X.env = pure false := by rfl) :
    DS X T W ow ow ob (.Expr (.Call (.Attribute (.Name x xp) "append" apos) [e] [] cpos) pos) (sApp i f) :=
  ps_imp (ps_expr (pe_bm PySem.F.plainAttrs_list PySem.F.slot_list_append PySem.F.type_list_append mt_append (pe_var hN hv hd hcd) (pa_cons he pa_nil hst) hbase hfew hline hst hplain) hs) fun D σ H q => by
    obtain ⟨B, B0, ρ, S, rs, w⟩ := q
    unfold sApp at w
    split at w
    · rename_i l hl
      obtain ⟨p, vs, h1, h2, h3, h4⟩ := own_at rs hiw hl
      refine ⟨_, h1, .inl ⟨rfl, vs, .inl (.inl h3)⟩, ?_⟩
      refine Wants.part rs w fun v d H1 w1 rs1 e1 r => ?_
      split at w1
      · rename_i hlen
        refine ⟨p, vs, v, rfl, rfl, e1 _ _ h3, ?_, ?_⟩
        · rw [h4.length]
          exact Nat.lt_trans hlen (by decide)
        · refine Wants.go w1 (rs1.chg hiw hl h1 h2 ((h4.mono (hide_mono e1)).append (.one r))) ?_
          rw [hide_upd h2]
          exact Ex.refl _
      · exact w1.elim
    · exact w.elim
theorem ds_ext {i : Nat} {x : Str} {apos cpos xp : Pos} (he : DE X T W ow e f) (hiw : i ∈ ow := by decide) (hN : X.N[i]? = some x := by rfl) (hv : Vis X.env.scope x := by first | exact Or.inl rfl | exact Or.inr (Or.inl rfl) | exact Or.inr (Or.inr rfl)) (hd : (x == ("__debug__" : Str)) = false := by decide)
    (hcd : (x == ("__classdict__" : Str)) = false := by decide) (hbase : attributeBase (.Name x xp) "extend" X.env (eval (.Name x xp) X.env) = eval (.Name x xp) X.env := by rfl)
    (hfew : ((backTo cpos (starEach [e] X.env)).all (fun x => !x.1) && (backToKw cpos (keywordEach [] X.env)).all (fun x => x.1.isSome)
      && decide ([e].length + ([] : List Keyword).length + (if ([] : List Keyword).isEmpty then 0 else 1) < 30)) = true := by rfl)
    (hline : (apos.endLine == cpos.line) = true := by rfl) (hst : starEach [e] X.env = (false, eval e X.env) :: starEach [] X.env := by rfl) (hplain : (backTo cpos (starEach [] X.env)).any (·.1) = false := by rfl)
    (hs : swapsWith (.Call (.Attribute (.Name x xp) "extend" apos) [e] [] cpos) none pos.line X.env = pure false := by rfl) :
    DS X T W ow ow ob (.Expr (.Call (.Attribute (.Name x xp) "extend" apos) [e] [] cpos) pos) (sExt i f) :=
  ps_imp (ps_expr (pe_bm PySem.F.plainAttrs_list PySem.F.slot_list_extend PySem.F.type_list_extend mt_extend (pe_var hN hv hd hcd) (pa_cons he pa_nil hst) hbase hfew hline hst hplain) hs) fun D σ H q => by
    obtain ⟨B, B0, ρ, S, rs, w⟩ := q
    unfold sExt at w
    split at w
    · rename_i l hl
      obtain ⟨p, vs, h1, h2, h3, h4⟩ := own_at rs hiw hl
      refine ⟨_, h1, .inl ⟨rfl, vs, .inl (.inl h3)⟩, ?_⟩
      refine Wants.part rs w fun v d H1 w1 rs1 e1 r => ?_
      cases r with
      | @lst q ws m hs2 rs2 =>
        have w2 : Wants X.K T W B B0 ow ob H1 S D (if l.length + m.length ≤ 10000000 then .nx (ρ.set i (some (.lst (l ++ m)))) else .stuck) := w1
        by_cases hlen : l.length + m.length ≤ 10000000
        · rw [if_pos hlen] at w2
          refine ⟨p, q, vs, ws, rfl, rfl, e1 _ _ h3, hide_ex _ _ hs2, ?_, ?_⟩
          · rw [h4.length, rs2.length]
            exact Nat.le_trans hlen (by decide)
          · refine Wants.go w2 (rs1.chg hiw hl h1 h2 ((h4.mono (hide_mono e1)).append rs2)) ?_
            rw [hide_upd h2]
            exact Ex.refl _
        · rw [if_neg hlen] at w2
          exact w2.elim
      | _ => exact w1.elim
    · exact w.elim
/-- x[i] = e -/
theorem ds_setI {i : Nat} {x : Str} {ei : Expr} {fi : DEnv → Res Dat} {xp sp : Pos} (he : DE X T W ow e f) (hei : DE X T W ow ei fi) (hiw : i ∈ ow := by decide) (hN : X.N[i]? = some x := by rfl) (hv : Vis X.env.scope x := by first | exact Or.inl rfl | exact Or.inr (Or.inl rfl) | exact Or.inr (Or.inr rfl)) (hd : (x == ("__debug__" : Str)) = false := by decide)
    (hcd : (x == ("__classdict__" : Str)) = false := by decide) (hsw : swapsWithSole [.Subscript (.Name x xp) ei sp] e pos.line X.env = pure false := by rfl) (hw : swappedStores [.Subscript (.Name x xp) ei sp] e X.env = pure none := by rfl) (hae : (assignEach [.Subscript (.Name x xp) ei sp] X.env).map (·.2) = [assign (.Subscript (.Name x xp) ei sp) X.env] := by rfl)
    (hks : ∀ v, assign (.Subscript (.Name x xp) ei sp) X.env v = (do
      let ov ← holding [v] (eval (.Name x xp) X.env)
      let iv ← holding [v, ov] (eval ei X.env)
      standAt sp
      holding [v, ov, iv] (setItem ov iv v)
      release [v, ov, iv] []) := by intro _; rfl) :
    DS X T W ow ow ob (.Assign [.Subscript (.Name x xp) ei sp] e pos) (sSetI i fi f) :=
  ps_imp (ps_asg he (pg_sub (pe_var hN hv hd hcd) hei set_list hks) hsw hw hae) fun D σ H q => by
    obtain ⟨B, B0, ρ, S, rs, w⟩ := q
    unfold sSetI at w
    refine Wants.part rs w fun v d H1 w1 rs1 e1 r => ?_
    split at w1
    · rename_i l hl
      obtain ⟨p, vs, h1, h2, h3, h4⟩ := own_at rs1 hiw hl
      refine ⟨_, h1, ?_⟩
      refine Wants.part rs1 w1 fun v2 d2 H2 w2 rs2 e2 r2 => ?_
      cases r2 with
      | int n =>
        have w3 : Wants X.K T W B B0 ow ob H2 S D (match ixN l.length n with
          | some j => .nx (ρ.set i (some (.lst (l.set j d))))
          | none => .stuck) := w2
        cases q : ixN l.length n with
        | none =>
          rw [q] at w3
          exact w3.elim
        | some j =>
          rw [q] at w3
          refine ⟨p, vs, n, j, rfl, rfl, e2 _ _ h3, by rw [h4.length]; exact q, ?_⟩
          refine Wants.go w3 (rs2.chg hiw hl h1 h2 (.set (r.mono (hide_mono e2)) j (h4.mono (hide_mono e2)))) ?_
          rw [hide_upd h2]
          exact Ex.refl _
      | _ => exact w2.elim
    · exact w1.elim
/-! ### loops -/
theorem ds_for {tg iter : Expr} {body : List Stmt} {gi : DEnv → Res (List Dat)} {asg : Dat → DEnv → Option DEnv} {is : List Nat} (hp : PassesOwn (model X.prog X.w) X.A X.env X.xe) (hc : X.calm = true) (hi : DI X T W ow tg iter gi) (hg : DG X T ow is tg asg) (hd : ∀ j ∈ ow, j ∉ is) (hsame : ∀ d ρ ρ' j, asg d ρ = some ρ' → j ∉ is → ρ'[j]? = ρ[j]?)
    (hb : DSs X T W ow ow ow body F) (hs : ∀ x, foldedSetIterable iter X.env x = pure x := by intro _; rfl) : DS X T W ow ow ob (.For tg iter body [] pos) (sFor gi asg F) := ps_imp (ps_for hp hc hi hg hb hs) fun D σ H q => by
  obtain ⟨B, B0, ρ, S, rs, w⟩ := q
  refine ⟨ρ, S, rs.re, ?_⟩
  unfold sFor rBind at w
  cases q : gi ρ with
  | exc c =>
    rw [q] at w
    intro H' e
    have r2 := (rs.mono e).bare
    exact w σ H' r2.1 ((hide_mono e).trans r2.2)
  | stuck =>
    rw [q] at w
    exact w.elim
  | ok items =>
    rw [q] at w
    intro J H1 e1 src
    obtain ⟨G, Y, walk, gok, yok⟩ := src.ex
    have w0 : Wants X.K T W B B0 ow ob H S D (forL asg F items ρ) := w
    refine for_it walk (fun i σ' H' => ∃ ρ' S', RS X.K T B B0 ow σ' ρ' H' S' ∧ Ex (hide H1 S) (hide H' S') ∧ Wants X.K T W B B0 ow ob H' S' D (forL asg F (items.drop i) ρ')) ?_ ?_ ?_ ?_
    · exact ⟨ρ, S, rs.mono e1, Ex.refl _, w0.mono (hide_mono e1)⟩
    · rintro i σ' H' _ ⟨ρ', S', _, ex, _⟩
      exact gok H' S' ex
    · rintro i x σ' H2 H3 hlt ⟨ρ', S', rs', ex, w'⟩ y
      obtain ⟨d, hdd⟩ : ∃ d, items[i]? = some d := ⟨items[i], by simp [hlt]⟩
      obtain ⟨ex3, rx⟩ := yok i d x H2 H3 S' hdd ex rs'.re.mt y
      have hdrop : items.drop i = d :: items.drop (i + 1) := by
        obtain ⟨h1, h2⟩ := List.getElem?_eq_some_iff.mp hdd
        rw [List.drop_eq_getElem_cons h1, h2]
      rw [hdrop] at w'
      unfold forL at w'
      cases qa : asg d ρ' with
      | none =>
        rw [qa] at w'
        exact w'.elim
      | some ρ1 =>
        rw [qa] at w'
        have rs3 := rs'.mono ex3
        refine ⟨ρ', S', d, rs3.re, rx, ρ1, qa, fun σ4 re4 hsm hl => ?_⟩
        have rs4 : RS X.K T B B0 ow σ4 ρ1 H3 S' := ⟨re4, rs3.ex, rs3.sub, rs3.bd, fun j d' p hj h1 h2 => by
          rw [hsame d ρ' ρ1 j qa (hd j hj)] at h1
          rw [hsm j (hd j hj)] at h2
          exact rs3.onew j d' p hj h1 h2, rs3.new⟩
        refine ⟨B, B0, ρ1, S', rs4, ?_⟩
        have w4 := w'.mono (hide_mono ex3)
        have w4 : Wants X.K T W B B0 ow ob H3 S' D (match F ρ1 with
          | .nx ρ2 => forL asg F (items.drop (i + 1)) ρ2
          | .ct ρ2 => forL asg F (items.drop (i + 1)) ρ2
          | .bk ρ2 => .nx ρ2
          | f => f) := w4
        have ex' := ex.trans (hide_mono ex3)
        cases qF : F ρ1 with
        | nx ρ2 =>
          rw [qF] at w4
          exact fun σ5 H5 S5 rs5 e5 => ⟨ρ2, S5, rs5, ex'.trans e5, w4.mono e5⟩
        | ct ρ2 =>
          rw [qF] at w4
          exact fun σ5 H5 S5 rs5 e5 => ⟨ρ2, S5, rs5, ex'.trans e5, w4.mono e5⟩
        | bk ρ2 =>
          rw [qF] at w4
          exact fun σ5 H5 S5 rs5 e5 => w4 σ5 H5 S5 rs5 e5
        | rt d =>
          rw [qF] at w4
          exact w4
        | ex c ρ2 =>
          rw [qF] at w4
          exact w4
        | stuck =>
          rw [qF] at w4
          exact w4
    · rintro σ' H' ⟨ρ', S', rs', ex, w'⟩
      rw [List.drop_length] at w'
      exact w' σ' H' S' rs' (Ex.refl _)
theorem ds_while {t : DEnv → Res Bool} {body : List Stmt} (n : Nat) (hp : PassesOwn (model X.prog X.w) X.A X.env X.xe) (hc : DT X T W ow c t) (hb : DSs X T W ow ow ow body F) : DS X T W ow ow ob (.While c body [] pos) (sWhile n t F) := ps_imp (ps_while hp hc hb) fun D σ H q => by
  obtain ⟨B, B0, ρ, S, rs, w⟩ := q
  refine ⟨fun m σ' H' => ∃ ρ' S', RS X.K T B B0 ow σ' ρ' H' S' ∧ Wants X.K T W B B0 ow ob H' S' D (whileL t F m ρ'), ⟨n, ρ, S, rs, w⟩, ?_⟩
  rintro m σ' H' ⟨ρ', S', rs', w'⟩
  cases m with
  | zero => exact w'.elim
  | succ m =>
    unfold whileL at w'
    refine Wants.partB rs' w' fun k H1 w1 rs1 e1 => ?_
    cases k with
    | false => exact w1 σ' H1 S' rs1 (Ex.refl _)
    | true =>
      have w2 : Wants X.K T W B B0 ow ob H1 S' D (match F ρ' with
          | .nx ρ2 => whileL t F m ρ2
          | .ct ρ2 => whileL t F m ρ2
          | .bk ρ2 => .nx ρ2
          | f => f) := w1
      refine ⟨fun σ2 H2 => ∃ ρ2 S2, RS X.K T B B0 ow σ2 ρ2 H2 S2 ∧ Wants X.K T W B B0 ow ob H2 S2 D (whileL t F m ρ2), fun σ2 H2 q => ⟨m, Nat.lt_succ_self m, q⟩, ?_⟩
      refine ⟨B, B0, ρ', S', rs1, ?_⟩
      cases qF : F ρ' with
      | nx ρ2 =>
        rw [qF] at w2
        exact fun σ5 H5 S5 rs5 e5 => ⟨ρ2, S5, rs5, w2.mono e5⟩
      | ct ρ2 =>
        rw [qF] at w2
        exact fun σ5 H5 S5 rs5 e5 => ⟨ρ2, S5, rs5, w2.mono e5⟩
      | bk ρ2 =>
        rw [qF] at w2
        exact fun σ5 H5 S5 rs5 e5 => w2 σ5 H5 S5 rs5 e5
      | rt d =>
        rw [qF] at w2
        exact w2
      | ex c ρ2 =>
        rw [qF] at w2
        exact w2
      | stuck =>
        rw [qF] at w2
        exact w2
/-! ### exceptions -/
/-- a class of the program's own errors that is raised with a text -/
structure ExD (K : PySem.W.Frag) (T : CT) (mg : Str → Option Value) (c : Nat) (x : Str) : Prop where
  ex : ∃ C : Addr, T.exc c = .ref C ∧ mg x = some (.ref C) ∧ PySem.W.keepIn K (.ref C) = true ∧ PySem.W.excIn K C [.type "ValueError", .type "Exception", .type "BaseException", .type "object"] "ValueError.__new__" = true ∧
    PySem.W.subIn K (.ref C) (.type "BaseException") = some true ∧ PySem.W.typeIn K (.ref C) = some (.type "type")
theorem ds_raise {cn : Nat} {x m : Str} {j : Nat} {p p3 rpos : Pos} (d : ExD X.K T X.mg cn x) (hc : X.calm = true) (tk : Takes X W) (hg : Gl X x := by rfl) (hdb : (x == ("__debug__" : Str)) = false := by decide) :
    DS X T W ow ow' ob (.Raise (some (.Call (.Name x p) [.Constant (.str m) j p3] [] pos)) none rpos) (sRaise cn) := by
  obtain ⟨C, e1, e2, e3, e4, e5, e6⟩ := d.ex
  refine ps_imp (ps_raise hc tk (pmk_own PySem.F.excBase_ValueError e4 e2 e3 (raises_own e5 e6) hg hdb)) fun D σ H q => ?_
  obtain ⟨B, B0, ρ, S, rs, w⟩ := q
  have r2 := rs.bare
  have := w σ H r2.1 r2.2
  rw [e1] at this
  exact this
/-- try: body except x: suite -/
theorem ds_try {x : Str} {cv : Value} {body suite : List Stmt} {b₀ : Stmt} {np pos' : Pos} {m : Nat → Bool} (hs : X.stack = X.env :: X.outer) (hf : X.env.frame = some X.env.locals) (hc : Names X x cv) (tk : Takes X W) (hm : ∀ c, PySem.W.exmOne X.K (T.exc c) cv = some (m c))
    (hb : ∀ (W : WX) (pn : List (Addr × Obj)) (xe : Value → Shared → Prop), Takes (X.tr pn xe) W → PassesOwn (model X.prog X.w) X.A X.env xe → DSs (X.tr pn xe) T W ow ow' ob body F)
    (hsu : ∀ (a : Addr) (oe : Obj) (cls : Value) (d : Option Addr) (pn : List (Addr × Obj)), Zc cls d oe → (∃ vs, oe.data = .fields vs) → DSs (X.suite a ((a, oe) :: pn)) T wNo [] ow' ob (b₀ :: suite) G) :
    DS X T W ow ow' ob (.Try body [.ExceptHandler (some (.Name x np)) none (b₀ :: suite) pos'] [] [] pos) (sTry m F G) :=
  ps_imp (ps_try_only (tb := fun W => tDS X.K T W ow ow' ob F) (ts := fun _ _ _ => tDS X.K T wNo [] ow' ob G) hs hf hc tk hb hsu) fun D σ H q => by
    obtain ⟨B, B0, ρ, S, rs, w⟩ := q
    refine ⟨B, B0, ρ, S, rs, ?_⟩
    unfold sTry at w
    cases qF : F ρ with
    | ex c ρ' =>
      rw [qF] at w
      intro σ' H' rs' e'
      have w : Wants X.K T W B B0 ow' ob H S D (if m c = true then (match G ρ' with
        | .ex _ _ => .stuck
        | f => f) else .ex c ρ') := w
      refine ⟨m c, hm c, fun hb' a _ => ?_, fun hb' => ?_⟩
      · rw [if_pos hb'] at w
        refine ⟨B, B0, ρ', B0, rs', ?_⟩
        cases qG : G ρ' with
        | ex c' ρ2 =>
          rw [qG] at w
          exact w.elim
        | nx ρ2 =>
          rw [qG] at w
          exact Wants.mono (f := .nx ρ2) w e'
        | bk ρ2 =>
          rw [qG] at w
          exact Wants.mono (f := .bk ρ2) w e'
        | ct ρ2 =>
          rw [qG] at w
          exact Wants.mono (f := .ct ρ2) w e'
        | rt d =>
          rw [qG] at w
          exact w
        | stuck =>
          rw [qG] at w
          exact w
      · rw [if_neg (by rw [hb']; decide)] at w
        exact w σ' H' rs' e'
    | nx ρ2 =>
      rw [qF] at w
      exact w
    | bk ρ2 =>
      rw [qF] at w
      exact w
    | ct ρ2 =>
      rw [qF] at w
      exact w
    | rt d =>
      rw [qF] at w
      exact w
    | stuck =>
      rw [qF] at w
      exact w
end

/-! ### a def by its body -/
def startD (m : Nat) (ds : List Dat) : DEnv := ds.map some ++ List.replicate (m - ds.length) none
def endD : DFlow → Res Dat
  | .nx _ => .ok .non
  | .rt d => .ok d
  | .ex c _ => .exc c
  | _ => .stuck
def runD (m : Nat) (F : DEnv → DFlow) (ds : List Dat) : Res Dat := endD (F (startD m ds))
theorem re_start {K : PySem.W.Frag} {T : CT} {H : Hp} {S : List Addr} {N : List Str} {vs : List V} {ds : List Dat} (m : Hid H S) (r : Reps K T (hide H S) vs ds) : RE K T [] (start N vs) (startD N.length ds) H S := by
  have hl := r.length
  refine ⟨m, ?_, fun i d _ hd => ?_, fun i d h => (by cases h), fun i j d e p h => (by cases h)⟩
  · unfold L2.start startD
    simp [hl]
  · unfold startD at hd
    unfold L2.start
    by_cases hi : i < ds.length
    · rw [List.getElem?_append_left (by simpa using hi), List.getElem?_map] at hd
      rw [List.getElem?_append_left (by rw [List.length_map, hl]; exact hi), List.getElem?_map]
      cases q : ds[i]? with
      | none =>
        rw [q] at hd
        cases hd
      | some d' =>
        rw [q] at hd
        cases hd
        obtain ⟨v, h1, h2⟩ := r.get q
        exact ⟨v, by rw [h1]; rfl, h2⟩
    · rw [List.getElem?_append_right (by simpa using hi), List.getElem?_replicate] at hd
      split at hd <;> cases hd
theorem fn_D {P : Program} {w : World} {K : PySem.W.Frag} {mg : Str → Option Value} {base : Heap} {T : CT} {x qual : Str} {st : Stmt} {f : Addr} {fd : FuncData} {N ps : List Str} {k n : Nat} {F : DEnv → DFlow} {ow' : List Nat} (Fu : Fun K x qual st f fd) (Sc : FnScope N ps (defScope st)) (hn : ps.length = n)
    (hb : ∀ (cdv : Value) (A : Around) (outer : List Env) (s : Shared) (H : Hp) (E : XK), Room k (A.deeper (envOfC qual (defScope st) s.heap.objs.size f cdv)) →
      DSs (cxOf (L2.CX P w) P w K mg base N qual (defScope st) f cdv A outer s H E) T (fun cls d _ H => E cls d H) [] ow' [] (defBody st) F) :
    FnOk P w K mg base (L2.CX P w) (k + 1) f fd ps (spD K T n (runD N.length F)) := by
  refine Fu.okX Sc (fun vs H Q E h => h.1.trans hn.symm) (fun cdv A outer s H vs Q E hr h => ?_)
  obtain ⟨hlen, S, ds, m, r, w⟩ := h
  refine ⟨_, hb cdv A outer s H E hr, ?_⟩
  refine ⟨H, S, startD N.length ds, S, ⟨re_start m r, Ex.refl H, fun _ h => h, fun p hp => ?_, fun i d p h => (by cases h), fun p hp => .inl hp⟩, ?_⟩
  · obtain ⟨o, h1, _⟩ := m p hp
    rw [h1]
    intro z
    cases z
  · unfold runD at w
    cases q : F (startD N.length ds) with
    | nx ρ =>
      rw [q] at w
      exact fun σ' H' S' rs e => w .non H' rs.ex .non
    | rt d =>
      rw [q] at w
      exact fun v H' e r => w v H' e r
    | ex c ρ =>
      rw [q] at w
      exact fun σ' H' rs e => w H' rs.ex
    | bk ρ =>
      rw [q] at w
      exact w.elim
    | ct ρ =>
      rw [q] at w
      exact w.elim
    | stuck =>
      rw [q] at w
      exact w.elim
end Dl
/-! The D layer, part 8: owned lists read, slices with steps, dicts of the module, objects made. -/
namespace Dl
open PySem PySem.Spec PyProof.Rows L2 HT

/-! ### an owned list is read: the result must not hold it -/
def chk (d : Dat) : Res Dat := if flat d = true then .ok d else .stuck
def vU (f : DEnv → Res Dat) : DEnv → Res Dat := fun ρ => (f ρ).bind chk
section
variable {K : PySem.W.Frag} {T : CT} {W : WX} {H : Hp} {ow ow' : List Nat} {σ : Sg} {ρ : DEnv} {S : List Addr}
/-- fewer slots are owned, the others' lists shown -/
theorem RE.less (r : RE K T ow σ ρ H S) (h : ∀ i ∈ ow', i ∈ ow) : ∃ S', RE K T ow' σ ρ H S' ∧ ∀ p ∈ S', p ∈ S := by
  refine ⟨S.filter fun p => decide (p ∈ ownA ow' σ ρ ∨ p ∉ ownA ow σ ρ), ?_, fun p hp => (List.mem_filter.mp hp).1⟩
  have sub0 : ∀ p ∈ S.filter (fun p => decide (p ∈ ownA ow' σ ρ ∨ p ∉ ownA ow σ ρ)), p ∈ S := fun p hp => (List.mem_filter.mp hp).1
  have sub := hide_sub (H := H) sub0
  refine ⟨fun p hp => r.mt p (sub0 p hp), r.len, fun i d hi hd => ?_, fun i d hi hd => ?_, fun i j d e p hi hj => r.inj i j d e p (h i hi) (h j hj)⟩
  · by_cases z : i ∈ ow
    · obtain ⟨q, vs, ds, e1, e2, e3, e4, e5⟩ := r.own i d z hd
      refine ⟨_, e1, ?_⟩
      rw [e2]
      refine .lst (hide_get e4 fun hq => ?_) (e5.mono sub)
      rcases of_decide_eq_true (List.mem_filter.mp hq).2 with y | y
      · obtain ⟨j, d', hj, h1, h2⟩ := mem_ownA.mp y
        have := r.inj i j d d' q z (h j hj) hd h1 e1 h2
        subst this
        exact hi hj
      · exact y (mem_ownA.mpr ⟨i, d, z, hd, e1⟩)
    · obtain ⟨v, h1, h2⟩ := r.fro i d z hd
      exact ⟨v, h1, h2.mono sub⟩
  · obtain ⟨q, vs, ds, e1, e2, e3, e4, e5⟩ := r.own i d (h i hi) hd
    exact ⟨q, vs, ds, e1, e2, List.mem_filter.mpr ⟨e3, decide_eq_true (.inl (mem_ownA.mpr ⟨i, d, hi, hd, e1⟩))⟩, e4, e5.mono sub⟩
end
section
variable {X : Cx} {T : CT} {W : WX} {ow ow' : List Nat} {e a b c : Expr} {pos p2 : Pos} {f fa : DEnv → Res Dat}
theorem de_un (h : DE X T W ow' e f) (hs : ∀ i ∈ ow', i ∈ ow := by decide) : DE X T W ow e (vU f) := pe_imp h fun σ H Q q => by
  obtain ⟨ρ, S, re, w⟩ := q
  obtain ⟨S', re', sub⟩ := re.less hs
  refine ⟨ρ, S', re', ?_⟩
  unfold vU at w
  cases q : f ρ with
  | ok d =>
    rw [q] at w
    intro v H' e r
    have w : Want X.K T W σ H S (chk d) Q := w
    unfold chk at w
    by_cases z : flat d = true
    · rw [if_pos z] at w
      exact w v H' e ((r.mono hide_ex).bare (re.mt.mono e) z)
    · rw [if_neg z] at w
      exact w.elim
  | exc c =>
    rw [q] at w
    exact w
  | stuck =>
    rw [q] at w
    exact w.elim
theorem dt_un {t : DEnv → Res Bool} (h : DT X T W ow' e t) (hs : ∀ i ∈ ow', i ∈ ow := by decide) : DT X T W ow e t := pt_imp h fun σ H Q q => by
  obtain ⟨ρ, S, re, w⟩ := q
  obtain ⟨S', re', sub⟩ := re.less hs
  exact ⟨ρ, S', re', w⟩
end

/-! ### slices with steps -/
def pickD {α : Type} (l : List α) (lo hi : Option Int) (st : Int) : List α :=
  (List.range (Builtin.Slice.slicePlaces (Builtin.Slice.sliceAdjust lo hi st l.length).1 (Builtin.Slice.sliceAdjust lo hi st l.length).2 st)).filterMap fun (m : Nat) => l[((Builtin.Slice.sliceAdjust lo hi st l.length).1 + (m : Int) * st).toNat]?
section
variable {prog : Program} {w : World} {A : Around} {E : Value → Shared → Prop} {s : Shared}
theorem sliceApplied_step {sl : Addr} {vl vu : Value} {lo hi : Option Int} {n : Nat} {st : Int} {tk : Tok} {Q : Int × Int × Nat → Shared → Prop} (hs : s.heap.IsSliceOf sl vl vu (.int st tk)) (pl : IsPart vl lo) (pu : IsPart vu hi) (h0 : st ≠ 0)
    (h : Q ((Builtin.Slice.sliceAdjust lo hi st n).1, st, Builtin.Slice.slicePlaces (Builtin.Slice.sliceAdjust lo hi st n).1 (Builtin.Slice.sliceAdjust lo hi st n).2 st) s) : wpAny (model prog w) A (Builtin.Slice.sliceApplied (.ref sl) (pure (n : Int))) Q E s := by
  obtain ⟨os, hos, hcs, hds⟩ := id hs
  unfold Builtin.Slice.sliceApplied Builtin.Slice.sliceFields
  refine wpAny_bind (wpAny_bind (wpAny_field hos hds (x := vl) rfl (wpAny_bind (wpAny_field hos hds (x := vu) rfl (wpAny_bind (wpAny_field hos hds (x := .int st tk) rfl (wpAny_pure ?_)))))))
  refine wpAny_bind (slicePart_int ?_)
  show wpAny _ _ (if (st == 0) = true then _ else _) _ _ s
  rw [if_neg (by simpa using h0)]
  exact wpAny_bind (slicePart_ pl (wpAny_bind (slicePart_ pu (wpAny_bind (wpAny_pure (wpAny_pure h))))))
theorem getItem_tuple_step {t sl : Addr} {items : Array Value} {vl vu : Value} {lo hi : Option Int} {st : Int} {tk : Tok} {Q : Value → Shared → Prop} (ht : IsTup s.heap t items) (hs : s.heap.IsSliceOf sl vl vu (.int st tk)) (pl : IsPart vl lo) (pu : IsPart vu hi) (h0 : st ≠ 0) (h1 : st ≠ 1)
    (h : Q (.ref s.heap.objs.size) { s with heap := s.heap.push { cls := .type "tuple", data := .seq (pickD items.toList lo hi st).toArray } })
    (hsz : (pickD items.toList lo hi st).length ≤ sizeLine) : wpAny (model prog w) A (getItem (.ref t) (.ref sl)) Q E s := by
  have htake : sizeOk (.seq (pickD items.toList lo hi st).toArray) := by
    show (pickD items.toList lo hi st).toArray.size ≤ sizeLine
    rw [List.size_toArray]
    exact hsz
  obtain ⟨os, hos, hcs, hds⟩ := id hs
  have hTs : s.TypeIs (.ref sl) "slice" := ⟨os, hos, hcs⟩
  unfold getItem
  try with_reducible refine wpAny_holding ?_
  first | refine wpAny_bind (wpAny_pure ?_) | skip
  refine wpAny_bind (wpAny_sequenceKey ht.typeIs (by decide) ?_)
  refine wpAny_bind (wpAny_callSpecial?_slot (name := Str.ofString "__getitem__") ht.typeIs PyProof.Rows.slot_tuple_getitem
    (wpAny_call_entry PyProof.Rows.slot_tuple_getitem ht.typeIs entry_tuple_getitem ?_ (args_tuple_getitem _ _)))
  show wpAny _ _ (Builtin.Tuple.tupleItemsOf (.ref t) >>= _) _ _ s
  refine wpAny_bind (tupleItemsOf_ ht ?_)
  refine wpAny_bind (wpAny_typeOf hTs ?_)
  rw [if_pos (by decide)]
  refine wpAny_bind (sliceApplied_step hs pl pu h0 ?_)
  have hno : ¬ (((Builtin.Slice.sliceAdjust lo hi st items.size).1 == 0 && st == 1 && Builtin.Slice.slicePlaces (Builtin.Slice.sliceAdjust lo hi st items.size).1 (Builtin.Slice.sliceAdjust lo hi st items.size).2 st == items.size) = true) := by
    intro q
    rw [Bool.and_eq_true, Bool.and_eq_true] at q
    exact h1 (eq_of_beq q.1.2)
  show wpAny _ _ (if ((Builtin.Slice.sliceAdjust lo hi st items.size).1 == 0 && st == 1 && Builtin.Slice.slicePlaces (Builtin.Slice.sliceAdjust lo hi st items.size).1 (Builtin.Slice.sliceAdjust lo hi st items.size).2 st == items.size) = true then _ else _) _ _ s
  rw [if_neg hno]
  have e : ((List.range (Builtin.Slice.slicePlaces (Builtin.Slice.sliceAdjust lo hi st items.size).1 (Builtin.Slice.sliceAdjust lo hi st items.size).2 st)).filterMap fun (m : Nat) => items[((Builtin.Slice.sliceAdjust lo hi st items.size).1 + (m : Int) * st).toNat]?).toArray = (pickD items.toList lo hi st).toArray := by
    unfold pickD
    rw [Array.length_toList]
    simp only [Array.getElem?_toList]
  rw [e]
  first
    | exact wpAny_bind (m := Builtin.Tuple.tupleExact _) (wpAny_newObj_type (wpAny_pure ⟨_, rfl, wpAny_pure h⟩) htake)
    | exact wpAny_bind (m := Builtin.Tuple.tupleExact _) (wpAny_newObj_type (wpAny_bind (wpAny_pure (wpAny_pure ⟨_, rfl, wpAny_pure h⟩))) htake)
    | exact wpAny_bind (wpAny_bind (m := Builtin.Tuple.tupleExact _) (wpAny_newObj_type (wpAny_pure (wpAny_pure ⟨_, rfl, wpAny_pure h⟩)) htake))
    | exact wpAny_bind (wpAny_bind (m := Builtin.Tuple.tupleExact _) (wpAny_newObj_type (wpAny_pure ⟨_, rfl, wpAny_pure h⟩) htake))
end
theorem vals_filterMap {xs : List V} {us : List Value} (r : Vals xs us) (f : Nat → Nat) : ∀ (l : List Nat), Vals (l.filterMap fun m => xs[f m]?) (l.filterMap fun m => us[f m]?)
  | [] => .nil
  | m :: l => by
    rw [List.filterMap_cons, List.filterMap_cons]
    cases q : xs[f m]? with
    | none =>
      rw [r.none_of q]
      exact vals_filterMap r f l
    | some x =>
      obtain ⟨u, h1, h2⟩ := r.get q
      rw [h1]
      exact .cons h2 (vals_filterMap r f l)
theorem vals_pick {xs : List V} {us : List Value} (r : Vals xs us) (lo hi : Option Int) (st : Int) : Vals (pickD xs lo hi st) (pickD us lo hi st) := by
  unfold pickD
  rw [← r.length]
  exact vals_filterMap r _ _
section
variable {K : PySem.W.Frag} {T : CT} {H : Hp}
theorem Reps.filterMap {xs : List V} {us : List Dat} (r : Reps K T H xs us) (f : Nat → Nat) : ∀ (l : List Nat), Reps K T H (l.filterMap fun m => xs[f m]?) (l.filterMap fun m => us[f m]?)
  | [] => .nil
  | m :: l => by
    rw [List.filterMap_cons, List.filterMap_cons]
    cases q : us[f m]? with
    | none =>
      have : xs[f m]? = none := by
        have h1 := List.getElem?_eq_none_iff.mp q
        exact List.getElem?_eq_none_iff.mpr (by rw [r.length]; exact h1)
      rw [this]
      exact Reps.filterMap r f l
    | some d =>
      obtain ⟨u, h1, h2⟩ := r.get q
      rw [h1]
      exact .cons h2 (Reps.filterMap r f l)
theorem Reps.pick {xs : List V} {us : List Dat} (r : Reps K T H xs us) (lo hi : Option Int) (st : Int) : Reps K T H (pickD xs lo hi st) (pickD us lo hi st) := by
  unfold pickD
  rw [r.length]
  exact r.filterMap _ _
end
def tStep (K : PySem.W.Frag) (ta : TE) (tl th ts : TO) : TE := fun σ H Q => ta σ H fun x H1 => tl σ H1 fun l H2 => th σ H2 fun h H3 => ts σ H3 fun s H4 => ∃ a xs st, x = .ref a ∧ s = some st ∧ SqT K H4 a xs ∧ st ≠ 0 ∧ st ≠ 1 ∧ (pickD xs l h st).length ≤ sizeLine ∧ ∀ p, H4 p = none → Q (.ref p) (upd H4 p (.tup (pickD xs l h st)))
section
variable {X : Cx} {T : CT} {W : WX} {ow : List Nat} {e a b c : Expr} {pos p2 : Pos} {f fa : DEnv → Res Dat} {lo hi : Option Expr} {est : Expr} {fl fh fs : DEnv → Res (Option Int)}
theorem pe_step {ta : TE} {tl th ts : TO} (he : PE X e ta) (hl : PO X lo tl) (hh : PO X hi th) (hs : PO X (some est) ts) : PE X (.Subscript e (.Slice lo hi (some est) p2) pos) (tStep X.K ta tl th ts) := by
  refine ⟨fun pins s σ H Q I h => ?_⟩
  refine Subscript_ (thn (he.run pins s σ H _ I h) fun v s1 ⟨x, H1, I1, r1, q1⟩ => ?_)
  refine wpAny_Slice (thn (hl.run pins s1 σ H1 _ I1 q1) fun vl s2 ⟨l, H2, I2, pl, q2⟩ => thn (hh.run pins s2 σ H2 _ I2 q2) fun vu s3 ⟨u, H3, I3, pu, q3⟩ => thn (hs.run pins s3 σ H3 _ I3 q3) fun vs s4 ⟨o, H4, I4, ps, q4⟩ => ?_)
  obtain ⟨a, xs, st, rfl, rfl, hx, h0, h1, hlen, q⟩ := q4
  cases r1
  cases ps with
  | int _ tk =>
    have I5 : Inv X pins σ H4 { s4 with heap := s4.heap.push { cls := .type "slice", data := .fields #[vl, vu, .int st tk] } } := I4.kept (t' := s4.toks) fun b ob q => Heap.get?_push_of_some _ q
    obtain ⟨its, r, ht, hz⟩ := I5.tuple hx
    show wpAny (model X.prog X.w) X.A (subscriptTail e (.Slice lo hi (some est) p2) (.ref a) (.ref s4.heap.objs.size)) (EP X pins σ Q) X.xe { s4 with heap := s4.heap.push { cls := .type "slice", data := .fields #[vl, vu, .int st tk] } }
    have hpick := vals_pick r l u st
    refine tail_any (ops := [.ref a, .ref s4.heap.objs.size]) ht.typeIs (PyProof.Rows.slot_tuple_getitem.lookup) ?_ (by with_unfolding_all rfl)
    refine getItem_tuple_step ht (Heap.IsSliceOf.new _ vl vu (.int st tk)) pl pu h0 h1 ?_ (by rw [← hpick.length]; exact hlen)
    refine ⟨.ref _, _, I5.laid (t' := s4.toks) (o := .tup (pickD xs l u st)) (fun b ob q => Heap.get?_push_of_some _ q) (Nat.le_refl _) ?_, rfl, q _ (I5.hok.fresh (Nat.le_refl _))⟩
    exact ⟨hlen, _, hpick, ⟨_, Heap.get?_push_size _ rfl, rfl, _, rfl⟩⟩
def stepK (l h s : Option Int) : Dat → Option Dat
  | .tup xs => match s with
    | some st => if st ≠ 0 ∧ st ≠ 1 ∧ (pickD xs l h st).length ≤ 10000000 then some (.tup (pickD xs l h st)) else none
    | none => none
  | _ => none
def vStep (fa : DEnv → Res Dat) (fl fh fs : DEnv → Res (Option Int)) : DEnv → Res Dat := fun ρ => (fa ρ).bind fun x => (fl ρ).bind fun l => (fh ρ).bind fun h => (fs ρ).bind fun s => ofO (stepK l h s x)
theorem de_step (ha : DE X T W ow e fa) (hl : DO X T W ow lo fl) (hh : DO X T W ow hi fh) (hs : DO X T W ow (some est) fs) : DE X T W ow (.Subscript e (.Slice lo hi (some est) p2) pos) (vStep fa fl fh fs) := pe_imp (pe_step ha hl hh hs) fun σ H Q h => by
  obtain ⟨ρ, S, re, w⟩ := h
  refine Want.part re w fun x dx H1 w1 re1 e1 rx => ?_
  refine Want.partO re1 w1 fun l H2 w2 re2 e2 => ?_
  refine Want.partO re2 w2 fun h H3 w3 re3 e3 => ?_
  refine Want.partO re3 w3 fun s H4 w4 re4 e4 => ?_
  have rx4 := ((rx.mono (hide_mono e2)).mono (hide_mono e3)).mono (hide_mono e4)
  cases rx4 with
  | @tup p vs ds hs rs =>
    cases s with
    | none => exact w4.elim
    | some st =>
      have w5 : Want X.K T W σ H4 S (ofO (if st ≠ 0 ∧ st ≠ 1 ∧ (pickD ds l h st).length ≤ 10000000 then some (.tup (pickD ds l h st)) else none)) Q := w4
      by_cases z : st ≠ 0 ∧ st ≠ 1 ∧ (pickD ds l h st).length ≤ 10000000
      · rw [if_pos z] at w5
        have rp := rs.pick l h st
        refine ⟨p, vs, st, rfl, rfl, ex_t hide_ex hs, z.1, z.2.1, ?_, fun p2 np => w5 _ _ (Ex.new np) (rep_newT re4.mt np rp)⟩
        rw [rp.length]
        exact Nat.le_trans z.2.2 (by decide)
      · rw [if_neg z] at w5
        exact w5.elim
  | _ => exact w4.elim

/-! ### a dict of the module with written texts as keys, read -/
structure GD (K : PySem.W.Frag) (T : CT) (w : World) (mg : Str → Option Value) (x : Str) (tb : List (Str × Dat)) : Prop where
  ex : ∃ d, mg x = some (.ref d) ∧ ∀ k e, tb.lookup k = some e → ∃ v, KDct K w d k v ∧ ∀ H, Rep K T H v e
def tabD (tb : List (Str × Dat)) : Dat → Option Dat
  | .str z => tb.lookup z
  | _ => none
theorem de_tab {x : Str} {tb : List (Str × Dat)} {xp : Pos} (g : GD X.K T X.w X.mg x tb) (hb : DE X T W ow b f) (hg : Gl X x := by rfl) (hd : (x == ("__debug__" : Str)) = false := by decide) (hs : PlainIx b := by exact fun _ _ => rfl) : DE X T W ow (.Subscript (.Name x xp) b pos) (v1 (tabD tb) f) := by
  obtain ⟨d, h1, h2⟩ := g.ex
  refine pe_imp (pe_ix ix_kdict (pe_glob (v := .ref d) hg h1 rfl hd) hb hs) fun σ H Q h => ?_
  obtain ⟨ρ, S, re, w⟩ := h
  refine Want.part re w fun x dx H1 w1 re1 e1 rx => ?_
  cases rx with
  | str z =>
    have w2 : Want X.K T W σ H1 S (ofO (tb.lookup z)) Q := w1
    cases q : tb.lookup z with
    | none =>
      rw [q] at w2
      exact w2.elim
    | some e =>
      rw [q] at w2
      obtain ⟨v, h3, h4⟩ := h2 z e q
      exact ⟨d, z, v, rfl, rfl, h3, w2 v H1 (Ex.refl H1) (h4 _)⟩
  | _ => exact w1.elim
end
end Dl
/-! The D layer, part 9: chains, small words, the law's end. -/
namespace Dl
open PySem PySem.Spec PyProof.Rows L2
theorem hu65 {A : Around} {k : Nat} (hr : Room k A) : A.units + 65 < cLine := by have := hr.un; omega
theorem hu64 {A : Around} {k : Nat} (hr : Room k A) : A.units + 64 < cLine := by have := hr.un; omega
section
variable {X : Cx} {T : CT} {W : WX} {ow : List Nat} {e a b c : Expr} {pos p2 : Pos} {fa fb fc : DEnv → Res Dat}
theorem de_chain {op op' : CmpOp} {r r' : R2} {g h : Dat → Dat → Option Dat} (ho : OpR X (compareOp op) r) (rd : R2D X.K T r g) (ho' : OpR X (compareOp op') r') (rd' : R2D X.K T r' h) (ha : DE X T W ow a fa) (hb : DE X T W ow b fb) (hc : DE X T W ow c fc)
    (hm : lastMarks [op, op'] [b, c] = false := by rfl) : DE X T W ow (.Compare a [op, op'] [b, c] pos) (vChain g h fa fb fc) := pe_imp (pe_chain ho ho' ha hb hc hm) fun _ _ _ q => chain_read rd rd' q
theorem dt_chain {op op' : CmpOp} {r r' : R2} {g h : Dat → Dat → Option Dat} (ho : OpR X (compareOp op) r) (rd : R2D X.K T r g) (ho' : OpR X (compareOp op') r') (rd' : R2D X.K T r' h) (ha : DE X T W ow a fa) (hb : DE X T W ow b fb) (hc : DE X T W ow c fc)
    (hm : lastMarks [op, op'] [b, c] = false := by rfl) : DT X T W ow (.Compare a [op, op'] [b, c] pos) (vTest (vChain g h fa fb fc)) := pt_imp (pt_chain ho ho' ha hb hc hm) fun σ H Q q => by
  obtain ⟨ρ, S, re, w⟩ := q
  refine chain_read rd rd' (Q := fun x H' => ∃ k, x = .bl k ∧ Q k H') ?_
  exact test_read ⟨ρ, S, re, w⟩
end
theorem FnD.mk' {P : Program} {w : World} {K : PySem.W.Frag} {mg : Str → Option Value} {base : Heap} {T : CT} {k n : Nat} {x qual : Str} {st : Stmt} {f : Addr} {fd : FuncData} {ps : List Str} {F : List Dat → Res Dat} (hm : mg x = some (.ref f)) (Fu : Fun K x qual st f fd) (b : Binds K fd ps []) (h : FnOk P w K mg base (L2.CX P w) k f fd ps (spD K T n F)) :
    FnD P w K mg base T k x n F := ⟨f, fd, ps, hm, Fu.kp, b, h⟩
/-! ### the law -/
def spLaw (K : PySem.W.Frag) : Sp := fun vs H Q _ => ∃ (a : Addr) (ns : List Int), vs = [.ref a] ∧ SqL K H a (ns.map V.int) ∧ ns.length ≤ 63 ∧ ∀ H', Q (.bl true) H'
theorem law_imp {P : Program} {w : World} {K : PySem.W.Frag} {mg : Str → Option Value} {base : Heap} {T : CT} {k : Nat} {f : Addr} {fd : FuncData} {ps : List Str} {F : List Dat → Res Dat} (h : FnOk P w K mg base (L2.CX P w) k f fd ps (spD K T 1 F))
    (hl : ∀ ns : List Int, ns.length ≤ 63 → F [.frz (ns.map .int)] = .ok (.bl true)) : FnOk P w K mg base (L2.CX P w) k f fd ps (spLaw K) := h.imp fun vs H Q E q => by
  obtain ⟨a, ns, rfl, hs, hlen, hq⟩ := q
  refine ⟨rfl, [], [.frz (ns.map .int)], (fun _ z => by cases z), .one (.frz ?_ (Reps.of_ints ns)), ?_⟩
  · refine ex_l ?_ hs
    intro b o e
    exact hide_get e (by simp)
  · rw [hl ns hlen]
    intro v H' e r
    cases r
    exact hq H'
theorem walk_law {l : PySem.W.OpenLaw} {k : Nat} {q : Program} {loose : List Str} {XP : (Str → Option Value) → Heap → Prop} {YP : World → Heap → Prop} {d : DefRec} {K : Params → PySem.W.Frag} (hn : l.most = some 63) (hdf : d.params.defaults = []) (hr : Room k callerA)
    (hY : ∀ (w : World) (h : Heap), YP w h → (K w.params).In h)
    (F : ∀ (w : World) (mg : Str → Option Value) (fa : Addr) (h : Heap), (K w.params).In h → h.Ns mainGlobals mg → mg d.name = some (.ref fa) →
      ∃ fd : FuncData, (∀ (s : Shared) (u : Value), BindsTo s fd ⟨[u], []⟩ [("script", u)]) ∧ ∀ base : Heap, (K w.params).In base → base.Ns mainGlobals mg → FnOk l.prog w (K w.params) mg base (L2.CX l.prog w) k fa fd ["script"] (spLaw (K w.params))) :
    PySem.W.WalkO q loose XP YP l.row.toRowW d [] (fun f vs => PySem.call f vs) :=
  L2.walk_of (n := 63) (k := k) (x := "script") (CX := fun w => L2.CX l.prog w) (sp := fun w => spLaw (K w.params)) hn (by decide) hdf hr hY F (fun _ _ a ns hl _ hS => ⟨a, ns, rfl, hS, hl, fun _ => rfl⟩) fun w H s e s' z => by
    obtain ⟨_, _, _, _, _, _, _, _, _, _, _, _, h⟩ := z
    exact h
end Dl
namespace Dl
open PySem PySem.Spec PyProof.Rows L2
theorem aName_same {i : Nat} : ∀ (d : Dat) (ρ ρ' : DEnv) (j : Nat), aName i d ρ = some ρ' → j ∉ [i] → ρ'[j]? = ρ[j]? := fun d ρ ρ' j e h => by
  cases e
  exact List.getElem?_set_ne fun z => h (by rw [z]; exact List.mem_singleton_self _)
theorem asNil_same : ∀ (ds : List Dat) (ρ ρ' : DEnv) (j : Nat), asNil ds ρ = some ρ' → j ∉ ([] : List Nat) → ρ'[j]? = ρ[j]? := fun ds ρ ρ' j e _ => by
  cases ds with
  | nil => cases e; rfl
  | cons d ds => cases e
theorem asCons_same {f : Dat → DEnv → Option DEnv} {g : List Dat → DEnv → Option DEnv} {is js : List Nat} (hf : ∀ d ρ ρ' j, f d ρ = some ρ' → j ∉ is → ρ'[j]? = ρ[j]?) (hg : ∀ ds ρ ρ' j, g ds ρ = some ρ' → j ∉ js → ρ'[j]? = ρ[j]?) :
    ∀ (ds : List Dat) (ρ ρ' : DEnv) (j : Nat), asCons f g ds ρ = some ρ' → j ∉ is ++ js → ρ'[j]? = ρ[j]? := fun ds ρ ρ' j e h => by
  cases ds with
  | nil => cases e
  | cons d ds =>
    cases q : f d ρ with
    | none => simp only [asCons, q] at e; cases e
    | some ρ1 =>
      simp only [asCons, q] at e
      rw [hg _ _ _ _ e fun z => h (List.mem_append_right _ z), hf _ _ _ _ q fun z => h (List.mem_append_left _ z)]
theorem aTup_same {g : List Dat → DEnv → Option DEnv} {is : List Nat} (hg : ∀ ds ρ ρ' j, g ds ρ = some ρ' → j ∉ is → ρ'[j]? = ρ[j]?) :
    ∀ (d : Dat) (ρ ρ' : DEnv) (j : Nat), aTup g d ρ = some ρ' → j ∉ is → ρ'[j]? = ρ[j]? := fun d ρ ρ' j e h => by
  cases d with
  | tup ds => exact hg _ _ _ _ e h
  | lst ds => exact hg _ _ _ _ e h
  | _ => cases e
def range3D : List Dat → Res (List Dat)
  | [.int i, .int j, .int c] => if decide (c ≠ 0) && decide (c.natAbs < 1073741824) && Builtin.Range.small i j c then .ok (rngC i c (Builtin.Range.rangeSize i j c).toNat) else .stuck
  | _ => .stuck
section
variable {X : Cx} {T : CT} {W : WX} {ow : List Nat} {a b c tg : Expr} {pos p : Pos} {fs : DEnv → Res (List Dat)}
theorem di_range3 (hm : X.mg "range" = none) (ha : DA X T W ow [a, b, c] fs) (hg : Gl X "range" := by rfl) (hs : starEach [a, b, c] X.env = (false, eval a X.env) :: starEach [b, c] X.env := by rfl) (hpl : (backTo pos (starEach [b, c] X.env)).any (·.1) = false := by rfl) :
    DI X T W ow tg (.Call (.Name "range" p) [a, b, c] [] pos) (gA range3D fs) := pi_imp (pi_range3 hg hm ha hs hpl) fun σ H R h => by
  obtain ⟨ρ, S, re, w⟩ := h
  refine WantI.partA re w fun vs ds H1 w1 re1 e1 rs => ?_
  cases rs with
  | nil => exact w1.elim
  | cons r rs =>
    cases rs with
    | nil => cases r <;> exact w1.elim
    | cons r2 rs =>
      cases rs with
      | nil => cases r <;> cases r2 <;> exact w1.elim
      | cons r3 rs =>
        cases rs with
        | cons _ _ => cases r <;> cases r2 <;> cases r3 <;> exact w1.elim
        | nil =>
          cases r with
          | int i =>
            cases r2 with
            | int j =>
              cases r3 with
              | int k =>
                have w2 : WantI X.K T W σ H1 S (if decide (k ≠ 0) && decide (k.natAbs < 1073741824) && Builtin.Range.small i j k then .ok (rngC i k (Builtin.Range.rangeSize i j k).toNat) else .stuck) R := w1
                by_cases z : (decide (k ≠ 0) && decide (k.natAbs < 1073741824) && Builtin.Range.small i j k) = true
                · rw [if_pos z] at w2
                  rw [Bool.and_eq_true, Bool.and_eq_true] at z
                  exact ⟨i, j, k, _, rfl, ⟨of_decide_eq_true z.1.1, of_decide_eq_true z.1.2, z.2, rangeSize_toNat _ _ _⟩, w2 _ H1 (Ex.refl H1) src_rangeC⟩
                · rw [if_neg z] at w2
                  exact w2.elim
              | _ => exact w1.elim
            | _ => cases r3 <;> exact w1.elim
          | _ => cases r2 <;> cases r3 <;> exact w1.elim
end
end Dl
namespace Dl
open PySem
theorem look_cases {k a : Str} {e x : Dat} {l : List (Str × Dat)} (h : ((a, x) :: l).lookup k = some e) : (k = a ∧ e = x) ∨ l.lookup k = some e := by
  have h' : (match k == a with | true => some x | false => List.lookup k l) = some e := h
  cases z : (k == a) with
  | true =>
    rw [z] at h'
    exact .inl ⟨eq_of_beq z, (Option.some.inj h').symm⟩
  | false =>
    rw [z] at h'
    exact .inr h'
end Dl
/-! The D layer, part 11: several handlers, methods of texts. -/
namespace Dl
open PySem PySem.Spec PyProof.Rows L2
/-- the handlers, one after the other: the classes, the suite (which raises nothing) -/
abbrev HdL := List ((Nat → Bool) × (DEnv → DFlow))
def endT : DFlow → DFlow
  | .ex _ _ => .stuck
  | f => f
def handM : HdL → Nat → DEnv → DFlow
  | [], c, ρ => .ex c ρ
  | (m, G) :: r, c, ρ => if m c = true then endT (G ρ) else handM r c ρ
def sTryM (F : DEnv → DFlow) (hs : HdL) : DEnv → DFlow := fun ρ => match F ρ with
  | .ex c ρ' => handM hs c ρ'
  | f => f
inductive HdD (X : Cx) (T : CT) (ow' ob : List Nat) : List ExceptHandler → HdL → List (Value × (Addr → Value → Option Addr → TS)) → Prop
  | nil : HdD X T ow' ob [] [] []
  | cons {x : Str} {cv : Value} {m : Nat → Bool} {G : DEnv → DFlow} {b₀ : Stmt} {suite : List Stmt} {np pos' : Pos} {hds : List ExceptHandler} {l : HdL} {l' : List (Value × (Addr → Value → Option Addr → TS))} (hc : Names X x cv) (hm : ∀ c, PySem.W.exmOne X.K (T.exc c) cv = some (m c))
      (hsu : ∀ (a : Addr) (oe : Obj) (cls : Value) (d : Option Addr) (pn : List (Addr × Obj)), Zc cls d oe → (∃ vs, oe.data = .fields vs) → DSs (X.suite a ((a, oe) :: pn)) T wNo [] ow' ob (b₀ :: suite) G) (r : HdD X T ow' ob hds l l') :
      HdD X T ow' ob (.ExceptHandler (some (.Name x np)) none (b₀ :: suite) pos' :: hds) ((m, G) :: l) ((cv, fun _ _ _ => tDS X.K T wNo [] ow' ob G) :: l')
section
variable {X : Cx} {T : CT} {W : WX} {ow ow' ob : List Nat} {pos : Pos} {F : DEnv → DFlow} {body : List Stmt}
theorem HdD.ok {hds : List ExceptHandler} {l : HdL} {l' : List (Value × (Addr → Value → Option Addr → TS))} (h : HdD X T ow' ob hds l l') : HdsOk X hds l' := by
  induction h with
  | nil => exact .nil
  | cons hc hm hsu r ih => exact .cons hc (fun a oe cls d pn hz hf => hsu a oe cls d pn hz hf) ih
theorem wants_ext {K : PySem.W.Frag} {B H H1 : Hp} {B0 S S1 : List Addr} {D : Ends} {f : DFlow} (w : Wants K T W B B0 ow' ob H S D (endT f)) (e : Ex (hide H S) (hide H1 S1)) (hn : W = wNo ∨ True) : Wants K T wNo B B0 ow' ob H1 S1 D f := by
  cases f with
  | ex c ρ => exact w.elim
  | nx ρ => exact fun σ' H' S' r e' => w σ' H' S' r (e.trans e')
  | bk ρ => exact fun σ' H' S' r e' => w σ' H' S' r (e.trans e')
  | ct ρ => exact fun σ' H' S' r e' => w σ' H' S' r (e.trans e')
  | rt d => exact w
  | stuck => exact w
theorem ds_tryM {h₀ : ExceptHandler} {hds : List ExceptHandler} {l : HdL} {l' : List (Value × (Addr → Value → Option Addr → TS))} (hs : X.stack = X.env :: X.outer) (hf : X.env.frame = some X.env.locals) (tk : Takes X W)
    (hb : ∀ (W : WX) (pn : List (Addr × Obj)) (xe : Value → Shared → Prop), Takes (X.tr pn xe) W → PassesOwn (model X.prog X.w) X.A X.env xe → DSs (X.tr pn xe) T W ow ow' ob body F)
    (hh : HdD X T ow' ob (h₀ :: hds) l l') : DS X T W ow ow' ob (.Try body (h₀ :: hds) [] [] pos) (sTryM F l) :=
  ps_imp (ps_try_many (tb := fun W => tDS X.K T W ow ow' ob F) hs hf tk hb hh.ok) fun D σ H q => by
    obtain ⟨B, B0, ρ, S, rs, w⟩ := q
    refine ⟨B, B0, ρ, S, rs, ?_⟩
    unfold sTryM at w
    cases qF : F ρ with
    | ex c ρ' =>
      rw [qF] at w
      intro σ' H' rs' e'
      have w : Wants X.K T W B B0 ow' ob H S D (handM l c ρ') := w
      clear qF hb
      generalize h₀ :: hds = hl at hh
      induction hh with
      | nil => exact w σ' H' rs' e'
      | @cons x cv m G b₀ suite np pos' hds2 l2 l2' hc hm hsu r ih =>
        refine ⟨m c, hm c, fun hb' a _ => ?_, fun hb' => ?_⟩
        · have w2 : Wants X.K T W B B0 ow' ob H S D (endT (G ρ')) := by
            have z : handM ((m, G) :: l2) c ρ' = endT (G ρ') := if_pos hb'
            rw [z] at w
            exact w
          exact ⟨B, B0, ρ', B0, rs', wants_ext w2 e' (.inr trivial)⟩
        · have z : handM ((m, G) :: l2) c ρ' = handM l2 c ρ' := if_neg (by rw [hb']; decide)
          rw [z] at w
          exact ih w w
    | nx ρ2 => rw [qF] at w; exact w
    | bk ρ2 => rw [qF] at w; exact w
    | ct ρ2 => rw [qF] at w; exact w
    | rt d => rw [qF] at w; exact w
    | stuck => rw [qF] at w; exact w
end
/-! ### methods of a text, one argument -/
def vM1 (g : Dat → Dat → Option Dat) (fo fa : DEnv → Res Dat) : DEnv → Res Dat := fun ρ => (fo ρ).bind fun x => match x with
  | .str z => (fa ρ).bind fun y => ofO (g (.str z) y)
  | _ => .stuck
def MtD (K : PySem.W.Frag) (T : CT) (r : V → List V → Hp → VK → Prop) (g : Dat → Dat → Option Dat) : Prop := ∀ (S : List Addr) (H : Hp) (z : Str) (v : V) (dv d : Dat) (Q : VK), Rep K T (hide H S) v dv → g (.str z) dv = some d →
  (∀ v' H', Ex H H' → Rep K T (hide H' S) v' d → Q v' H') → r (.str z) [v] H Q
section
variable {X : Cx} {T : CT} {W : WX} {ow : List Nat} {o e : Expr} {fo fa : DEnv → Res Dat} {id : String} {name : Str} {apos pos : Pos} {r : V → List V → Hp → VK → Prop} {g : Dat → Dat → Option Dat}
theorem de_sm1 (slot : Slot "str" name id) (ty : typeOf (.builtin id) = pure (.type "method_descriptor")) (rule : MtR X id r) (rd : MtD X.K T r g) (ho : DE X T W ow o fo) (he : DE X T W ow e fa)
    (hs : starEach [e] X.env = [(false, eval e X.env)] := by rfl) (hbase : attributeBase o name X.env (eval o X.env) = eval o X.env := by rfl) (hline : (apos.endLine == pos.line) = true := by rfl) :
    DE X T W ow (.Call (.Attribute o name apos) [e] [] pos) (vM1 g fo fa) := pe_imp (pe_m1 slot ty rule ho he hs hbase hline) fun σ H Q h => by
  obtain ⟨ρ, S, re, w⟩ := h
  refine Want.part re w fun x dx H1 w1 re1 e1 rx => ?_
  cases rx with
  | str z =>
    refine ⟨⟨z, rfl⟩, ?_⟩
    refine Want.part re1 w1 fun y dy H2 w2 re2 e2 ry => ?_
    cases q : g (.str z) dy with
    | none => rw [q] at w2; exact w2.elim
    | some d =>
      rw [q] at w2
      exact rd _ H2 z y dy d Q ry q w2
  | _ => exact w1.elim
end
def sindexD : Dat → Dat → Option Dat
  | .str a, .str b => (Builtin.Str.occurrences a b 0 a.length 1).head?.map fun i => .int (i : Nat)
  | _, _ => none
theorem md_sindex {K : PySem.W.Frag} {T : CT} : MtD K T (fun x xs H Q => ∃ a b i rest, x = .str a ∧ xs = [.str b] ∧ Builtin.Str.occurrences a b 0 a.length 1 = i :: rest ∧ Q (.int (i : Nat)) H) sindexD := fun S H z v dv d Q rv e q => by
  cases rv with
  | str b =>
    have e : (Builtin.Str.occurrences z b 0 z.length 1).head?.map (fun i => Dat.int (i : Nat)) = some d := e
    cases ho : Builtin.Str.occurrences z b 0 z.length 1 with
    | nil => rw [ho] at e; cases e
    | cons i rest =>
      rw [ho] at e
      cases e
      exact ⟨z, b, i, rest, rfl, rfl, ho, q _ H (Ex.refl H) (.int _)⟩
  | _ => cases e
end Dl
/-! The D layer, part 12: objects are made. An __init__ is: tests that raise, local names, then the attributes. -/
namespace Dl
open PySem PySem.Spec PyProof.Rows L2
/-- all but x is as it was -/
def Agr (x : Addr) (B H : Hp) : Prop := ∀ b o, b ≠ x → B b = some o → H b = some o
theorem Agr.ex {x : Addr} {B H H' : Hp} (a : Agr x B H) (e : Ex H H') : Agr x B H' := fun b o n q => e b o (a b o n q)
/-- what an __init__ stores, in order -/
def iEnd : DEnv → Res (List Dat) := fun _ => .ok []
def iFld (f : DEnv → Res Dat) (I : DEnv → Res (List Dat)) : DEnv → Res (List Dat) := fun ρ => (f ρ).bind fun d => (I ρ).bind fun l => .ok (d :: l)
def iIf (t : DEnv → Res Bool) (c : Nat) (I : DEnv → Res (List Dat)) : DEnv → Res (List Dat) := fun ρ => (t ρ).bind fun b => if b = true then .exc c else I ρ
def iAsg (i : Nat) (f : DEnv → Res Dat) (I : DEnv → Res (List Dat)) : DEnv → Res (List Dat) := fun ρ => (f ρ).bind fun d => I (ρ.set i (some d))
def iDrop (f : DEnv → Res Dat) (I : DEnv → Res (List Dat)) : DEnv → Res (List Dat) := fun ρ => (f ρ).bind fun _ => I ρ
def WantI2 (K : PySem.W.Frag) (T : CT) (W : WX) (x : Addr) (c : Nat) (S : List Addr) (B : Hp) (ds : List Dat) (D : Ends) : Res (List Dat) → Prop
  | .ok l => ∀ σ' H' dx' fs', Agr x B H' → H' x = some (.ins (T.addr c) dx' fs') → fs'.map (·.1) = T.names c → Reps K T (hide H' S) (fs'.map (·.2)) (ds ++ l) → D.nx σ' H'
  | .exc e => ∀ σ' H', Agr x B H' → W (T.exc e) none σ' H'
  | .stuck => False
def tIS (K : PySem.W.Frag) (T : CT) (W : WX) (c : Nat) (nms : List Str) (I : DEnv → Res (List Dat)) : TS := fun D σ H => ∃ (x : Addr) (S : List Addr) (B : Hp) (ρ : DEnv) (dx : Addr) (fs : List (Str × V)) (ds : List Dat),
  x ∈ S ∧ RE K T [] σ ρ H S ∧ σ[0]? = some (some (.ref x)) ∧ H x = some (.ins (T.addr c) dx fs) ∧ fs.map (·.1) ++ nms = T.names c ∧ Agr x B H ∧ Reps K T (hide H S) (fs.map (·.2)) ds ∧ WantI2 K T W x c S B ds D (I ρ)
def IS (X : Cx) (T : CT) (W : WX) (c : Nat) (st : List Stmt) (nms : List Str) (I : DEnv → Res (List Dat)) : Prop := PSs X st (tIS X.K T W c nms I)
section
variable {X : Cx} {T : CT} {W : WX} {c : Nat} {rest : List Stmt} {nms : List Str} {I : DEnv → Res (List Dat)} {pos p1 p2 p3 rpos : Pos} {e o : Expr}
theorem is_nil : IS X T W c [] [] iEnd := pss_imp pss_nil fun D σ H q => by
  obtain ⟨x, S, B, ρ, dx, fs, ds, hx, re, hs, hH, hn, ag, rs, w⟩ := q
  rw [List.append_nil] at hn
  exact w σ H dx fs ag hH hn (by rw [List.append_nil]; exact rs)
/-- the state goes on -/
theorem tIS_go {K : PySem.W.Frag} {D : Ends} {x : Addr} {S : List Addr} {B H H1 : Hp} {ρ : DEnv} {dx : Addr} {fs : List (Str × V)} {ds : List Dat} {σ : Sg} (e : Ex H H1) (hx : x ∈ S) (re : RE K T [] σ ρ H1 S) (hs : σ[0]? = some (some (.ref x))) (hH : H x = some (.ins (T.addr c) dx fs)) (hn : fs.map (·.1) ++ nms = T.names c)
    (ag : Agr x B H) (rs : Reps K T (hide H S) (fs.map (·.2)) ds) (w : WantI2 K T W x c S B ds D (I ρ)) : tIS K T W c nms I D σ H1 :=
  ⟨x, S, B, ρ, dx, fs, ds, hx, re, hs, e _ _ hH, hn, ag.ex e, rs.mono (hide_mono e), w⟩
theorem is_if {cn : Nat} {cond : Expr} {y m : Str} {j : Nat} {t : DEnv → Res Bool} (d : ExD X.K T X.mg cn y) (hc : X.calm = true) (tk : Takes X W) (ht : DT X T W [] cond t) (hr : IS X T W c rest nms I) (hg : Gl X y := by rfl) (hdb : (y == ("__debug__" : Str)) = false := by decide) :
    IS X T W c (.If cond [.Raise (some (.Call (.Name y p1) [.Constant (.str m) j p2] [] p3)) none rpos] [] pos :: rest) nms (iIf t cn I) := by
  obtain ⟨C, e1, e2, e3, e4, e5, e6⟩ := d.ex
  have pr := ps_raise (pos := rpos) hc tk (pmk_own (m := m) (j := j) (p := p1) (p2 := p2) (pos := p3) PySem.F.excBase_ValueError e4 e2 e3 (raises_own e5 e6) hg hdb)
  refine pss_imp (pss_cons (ps_if ht (pss_one pr) pss_nil) hr) fun D σ H q => ?_
  obtain ⟨x, S, B, ρ, dx, fs, ds, hx, re, hs, hH, hn, ag, rs, w⟩ := q
  refine ⟨ρ, S, re, ?_⟩
  unfold iIf at w
  cases qt : t ρ with
  | stuck => rw [qt] at w; exact w.elim
  | exc e => rw [qt] at w; exact fun H1 e1 => w σ H1 (ag.ex e1)
  | ok b =>
    rw [qt] at w
    intro H1 ex
    cases b with
    | true =>
      have := w σ H1 (ag.ex ex)
      rw [e1] at this
      exact this
    | false => exact tIS_go ex hx (re.mono ex) hs hH hn ag rs w
theorem is_drop {f : DEnv → Res Dat} (he : DE X T W [] e f) (hr : IS X T W c rest nms I) (hsw : swapsWith e none pos.line X.env = pure false := by rfl) : IS X T W c (.Expr e pos :: rest) nms (iDrop f I) := by
  refine pss_imp (pss_cons (ps_expr he hsw) hr) fun D σ H q => ?_
  obtain ⟨x, S, B, ρ, dx, fs, ds, hx, re, hs, hH, hn, ag, rs, w⟩ := q
  refine ⟨ρ, S, re, ?_⟩
  unfold iDrop at w
  cases qt : f ρ with
  | stuck => rw [qt] at w; exact w.elim
  | exc e => rw [qt] at w; exact fun H1 e1 => w σ H1 (ag.ex e1)
  | ok d =>
    rw [qt] at w
    intro v H1 ex r
    exact tIS_go ex hx (re.mono ex) hs hH hn ag rs w
theorem is_asg {i : Nat} {y : Str} {f : DEnv → Res Dat} {pos' : Pos} (hN : X.N.Nodup) (he : DE X T W [] e f) (hr : IS X T W c rest nms I) (h0 : i ≠ 0 := by decide) (hi : X.N[i]? = some y := by rfl) (hx : Loc X.env.scope y := by first | exact .inl rfl | exact .inr rfl)
    (hsw : swapsWith e (some (.Name y pos')) pos.line X.env = pure false := by rfl) (hf : X.fn y = true ∨ X.env.scope.names.lookup y = some .local := by first | exact .inl rfl | exact .inr rfl) : IS X T W c (.Assign [.Name y pos'] e pos :: rest) nms (iAsg i f I) := by
  refine pss_imp (pss_cons (ps_set hN hi hx he hsw hf) hr) fun D σ H q => ?_
  obtain ⟨x, S, B, ρ, dx, fs, ds, hx, re, hs, hH, hn, ag, rs, w⟩ := q
  refine ⟨ρ, S, re, ?_⟩
  unfold iAsg at w
  cases qt : f ρ with
  | stuck => rw [qt] at w; exact w.elim
  | exc e => rw [qt] at w; exact fun H1 e1 => w σ H1 (ag.ex e1)
  | ok d =>
    rw [qt] at w
    intro v H1 ex r
    exact tIS_go ex hx ((re.mono ex).set (by simp) r) (by rw [List.getElem?_set_ne h0]; exact hs) hH hn ag rs w
theorem putF_new {f : Str} {v : V} : ∀ {fs : List (Str × V)}, f ∉ fs.map (·.1) → putF f v fs = fs ++ [(f, v)]
  | [], _ => rfl
  | (g, y) :: r, h => by
    rw [List.map_cons, List.mem_cons, not_or] at h
    show (if g = f then (g, v) :: r else (g, y) :: putF f v r) = _
    rw [if_neg (fun z => h.1 z.symm), putF_new h.2]
    rfl
theorem hide_upd2 {H : Hp} {S : List Addr} {x : Addr} {ob : HO} (hx : x ∈ S) : hide (upd H x ob) S = hide H S := by
  funext b
  unfold hide
  by_cases z : b ∈ S
  · rw [if_pos z, if_pos z]
  · rw [if_neg z, if_neg z, upd_ne (fun q => z (by rw [q]; exact hx))]
theorem is_fld {f : Str} {g : DEnv → Res Dat} {slf : Str} {p p' : Pos} (cl : Cls X.K (T.addr c)) (na : NoAttr X.K (T.addr c) f) (hnd : (T.names c).Nodup) (hsz : (T.names c).length < 1000) (hN : X.N.Nodup) (he : DE X T W [] e g) (hr : IS X T W c rest nms I)
    (hi : X.N[0]? = some slf := by rfl) (hv : X.env.scope.names.lookup slf = some .local ∨ X.env.scope.names.lookup slf = some .cell ∨ X.env.scope.names.lookup slf = some .free := by first | exact .inl rfl | exact .inr (.inl rfl))
    (hd : (slf == ("__debug__" : Str)) = false := by decide) (hcd : (slf == ("__classdict__" : Str)) = false := by decide)
    (hsw : swapsWith e (some (.Attribute (.Name slf p) f p')) pos.line X.env = pure false := by rfl) : IS X T W c (.Assign [.Attribute (.Name slf p) f p'] e pos :: rest) (f :: nms) (iFld g I) := by
  refine pss_imp (pss_cons (ps_fld (pe_var hi hv hd hcd) he hsw) hr) fun D σ H q => ?_
  obtain ⟨x, S, B, ρ, dx, fs, ds, hx, re, hs, hH, hn, ag, rs, w⟩ := q
  refine ⟨ρ, S, re, ?_⟩
  unfold iFld at w
  cases qt : g ρ with
  | stuck => rw [qt] at w; exact w.elim
  | exc e => rw [qt] at w; exact fun H1 e1 => w σ H1 (ag.ex e1)
  | ok d =>
    rw [qt] at w
    intro v H1 ex r
    have hlen : fs.length < 1000 := by
      have := congrArg List.length hn
      rw [List.length_append, List.length_map] at this
      omega
    have hnf : f ∉ fs.map (·.1) := by
      rw [← hn, List.nodup_append] at hnd
      exact fun z => hnd.2.2 f z f (List.mem_cons_self ..) rfl
    refine ⟨_, hs, x, _, dx, fs, rfl, ex _ _ hH, cl, na, hlen, ?_⟩
    rw [putF_new hnf]
    have re1 := re.mono ex
    have eh := hide_upd2 (H := H1) (ob := .ins (T.addr c) dx (fs ++ [(f, v)])) hx
    refine ⟨x, S, B, ρ, dx, fs ++ [(f, v)], ds ++ [d], hx, ⟨fun q hq => ?_, re1.len, fun i d' hi hd => ?_, fun i d h => (by cases h), fun i j d e p h => (by cases h)⟩, hs, upd_same .., ?_, fun b ob hb hB => ?_, ?_, ?_⟩
    · by_cases z : q = x
      · subst z
        exact ⟨_, upd_same .., rfl⟩
      · rw [upd_ne z]
        exact re1.mt q hq
    · rw [eh]
      exact re1.fro i d' hi hd
    · rw [List.map_append, List.append_assoc]
      exact hn
    · rw [upd_ne hb]
      exact ex _ _ (ag b ob hb hB)
    · rw [eh, List.map_append]
      exact (rs.mono (hide_mono ex)).append (.cons r .nil)
    · have w : WantI2 X.K T W x c S B ds D ((I ρ).bind fun l => .ok (d :: l)) := w
      cases qi : I ρ with
      | stuck => rw [qi] at w; exact w.elim
      | exc e => rw [qi] at w; exact w
      | ok l =>
        rw [qi] at w
        intro σ' H' dx' fs' a h1 h2 h3
        exact w σ' H' dx' fs' a h1 h2 (by rw [List.append_assoc] at h3; exact h3)
end
end Dl
namespace Dl
open PySem PySem.Spec PyProof.Rows L2
/-! ### what an __init__ promises, a class is called -/
def startI (m : Nat) (ds : List Dat) : DEnv := (startD m (.non :: ds)).set 0 none
def spI (K : PySem.W.Frag) (T : CT) (c n m : Nat) (I : DEnv → Res (List Dat)) : Sp := fun vs H Q E => vs.length = n + 1 ∧ ∃ (x dx : Addr) (vs' : List V) (S : List Addr) (ds : List Dat), vs = .ref x :: vs' ∧ H x = some (.ins (T.addr c) dx []) ∧ x ∈ S ∧ Hid H S ∧ Reps K T (hide H S) vs' ds ∧
  WantI2 K T (fun cls d _ H => E cls d H) x c S H [] { nx := fun _ H' => Q .non H', rt := fun _ _ => False, bk := fun _ _ => False, ct := fun _ _ => False } (I (startI m ds))
theorem re_startI {K : PySem.W.Frag} {T : CT} {H : Hp} {S : List Addr} {N : List Str} {x : Addr} {vs : List V} {ds : List Dat} (hN : N ≠ []) (m : Hid H S) (r : Reps K T (hide H S) vs ds) : RE K T [] (start N (.ref x :: vs)) (startI N.length ds) H S ∧ (start N (.ref x :: vs))[0]? = some (some (.ref x)) := by
  have hl := r.length
  refine ⟨⟨m, ?_, fun i d _ hd => ?_, fun i d h => (by cases h), fun i j d e p h => (by cases h)⟩, ?_⟩
  · unfold L2.start startI startD
    simp [hl]
  · unfold startI startD at hd
    unfold L2.start
    cases i with
    | zero => simp at hd
    | succ i =>
      rw [List.getElem?_set_ne (by omega)] at hd
      simp only [List.map_cons, List.cons_append, List.getElem?_cons_succ, List.length_cons] at hd ⊢
      by_cases hi : i < ds.length
      · rw [List.getElem?_append_left (by simpa using hi), List.getElem?_map] at hd
        rw [List.getElem?_append_left (by rw [List.length_map, hl]; exact hi), List.getElem?_map]
        cases q : ds[i]? with
        | none => rw [q] at hd; cases hd
        | some d' =>
          rw [q] at hd
          cases hd
          obtain ⟨v, h1, h2⟩ := r.get q
          exact ⟨v, by rw [h1]; rfl, h2⟩
      · rw [List.getElem?_append_right (by simpa using hi), List.getElem?_replicate] at hd
        split at hd <;> cases hd
  · unfold L2.start
    rfl
theorem init_D {P : Program} {w : World} {K : PySem.W.Frag} {mg : Str → Option Value} {base : Heap} {T : CT} {x qual : Str} {st : Stmt} {f : Addr} {fd : FuncData} {N ps : List Str} {k n c : Nat} {I : DEnv → Res (List Dat)} (Fu : Fun K x qual st f fd) (Sc : FnScope N ps (defScope st)) (hn : ps.length = n + 1) (hN : N ≠ [])
    (hb : ∀ (cdv : Value) (A : Around) (outer : List Env) (s : Shared) (H : Hp) (E : XK), Room k (A.deeper (envOfC qual (defScope st) s.heap.objs.size f cdv)) →
      IS (cxOf (L2.CX P w) P w K mg base N qual (defScope st) f cdv A outer s H E) T (fun cls d _ H => E cls d H) c (defBody st) (T.names c) I) :
    FnOk P w K mg base (L2.CX P w) (k + 1) f fd ps (spI K T c n N.length I) := by
  refine Fu.okX Sc (fun vs H Q E h => h.1.trans hn.symm) (fun cdv A outer s H vs Q E hr h => ?_)
  obtain ⟨hlen, y, dx, vs', S, ds, rfl, h1, h2, h3, h4, h5⟩ := h
  refine ⟨_, hb cdv A outer s H E hr, ?_⟩
  obtain ⟨r1, r2⟩ := re_startI (x := y) hN h3 h4
  refine ⟨y, S, H, startI N.length ds, dx, [], [], h2, r1, r2, h1, rfl, fun b o _ q => q, .nil, ?_⟩
  cases q : I (startI N.length ds) with
  | stuck => rw [q] at h5; exact h5.elim
  | exc e => rw [q] at h5; exact h5
  | ok l => rw [q] at h5; exact h5
/-- a class that is made so: its index, how many arguments, what it stores -/
structure MkD (P : Program) (w : World) (K : PySem.W.Frag) (mg : Str → Option Value) (base : Heap) (T : CT) (k : Nat) (x : Str) (c n m : Nat) (I : DEnv → Res (List Dat)) : Prop where
  ex : ∃ f fd ps, mg x = some (.ref (T.addr c)) ∧ Mk K (T.addr c) f ∧ Binds K fd ps [] ∧ FnOk P w K mg base (L2.CX P w) k f fd ps (spI K T c n m I)
def makeD (c n m : Nat) (I : DEnv → Res (List Dat)) (ds : List Dat) : Res Dat := if ds.length = n then (I (startI m ds)).bind fun l => .ok (.obj c l) else .stuck
def vMake (c n m : Nat) (I : DEnv → Res (List Dat)) (fs : DEnv → Res (List Dat)) : DEnv → Res Dat := fun ρ => (fs ρ).bind (makeD c n m I)
section
variable {X : Cx} {T : CT} {W : WX} {ow : List Nat} {e : Expr} {es : List Expr} {pos p : Pos} {fs : DEnv → Res (List Dat)}
/-- a class is called: the errors of its __init__ go on by slots -/
theorem run_new {pins : List (Addr × Obj)} {σ : Sg} {H : Hp} {s : Shared} {Q : VK} {k : Nat} {f C : Addr} {fd : FuncData} {ps : List Str} {sp : Sp} {E : XK} {us : List Value} {vs : List V} (M : Mk X.K C f) (F : FnOk X.prog X.w X.K X.mg X.base (L2.CX X.prog X.w) k f fd ps sp) (hr : Room (k + 1) X.A) (hb : Binds X.K fd ps [])
    (hx : PassesAt (L2.CX X.prog X.w) X σ E) (I : Inv X pins σ H s) (r : Vals vs us) (h : ∀ x dx, H x = none → H dx = none → dx ≠ x → sp (.ref x :: vs) (upd (upd H dx (.own x)) x (.ins C dx [])) (fun v H2 => v = .non ∧ Q (.ref x) H2) E) :
    wpAny (model X.prog X.w) X.A (call (.ref C) us) (EP X pins σ Q) X.xe s := by
  have n1 := I.hok.fresh (Nat.le_succ s.heap.objs.size)
  have n2 := I.hok.fresh (Nat.le_refl s.heap.objs.size)
  have q := h _ _ n1 n2 (Nat.ne_of_lt (Nat.lt_succ_self _))
  have J := Inv.made (C := C) I
  have rr : Vals (V.ref (s.heap.objs.size + 1) :: vs) (Value.ref (s.heap.objs.size + 1) :: us) := .cons rfl r
  have len := (rr.length).symm.trans (F.len _ _ _ _ q)
  have bnd := hb _ (Value.ref (s.heap.objs.size + 1) :: us) J.kIn (by rw [List.append_nil]; exact len)
  rw [List.append_nil] at bnd
  have body := F.run _ X.stack _ _ ⟨Value.ref (s.heap.objs.size + 1) :: us, []⟩ _ _ _ E (hr.make C us []) (J.env0.make C us []) bnd rr q
  refine wpAny_call (make_map (f := f) I.kIn M.makes M.init (beq_iff_eq.mp M.fn) (codeAny_mono body fun res s' z => ?_))
  match res, z with
  | .error e, z => exact hx pins _ _ e s' J z
  | .ok (.ret u), z =>
    obtain ⟨v, H', J3, rv, ev, q3⟩ := J.after z
    subst ev
    exact ⟨rv, ⟨V.ref (s.heap.objs.size + 1), H', J3, rfl, q3⟩⟩
  | .ok .next, z => exact z.elim
  | .ok .brk, z => exact z.elim
  | .ok .cont, z => exact z.elim
theorem pe_new {k : Nat} {x : Str} {f C : Addr} {fd : FuncData} {ps : List Str} {sp : Sp} {E : Sg → XK} {t : TA} (M : Mk X.K C f) (F : FnOk X.prog X.w X.K X.mg X.base (L2.CX X.prog X.w) k f fd ps sp) (hr : Room (k + 1) X.A) (hg : Gl X x) (hm : X.mg x = some (.ref C)) (hb : Binds X.K fd ps [])
    (hx : ∀ σ, PassesAt (L2.CX X.prog X.w) X σ (E σ)) (ha : PA X (e :: es) t) (hdb : (x == ("__debug__" : Str)) = false) (he : starEach (e :: es) X.env = (false, eval e X.env) :: starEach es X.env) (hpl : (backTo pos (starEach es X.env)).any (·.1) = false) :
    PE X (.Call (.Name x p) (e :: es) [] pos) (fun σ H Q => t σ H fun vs H1 => ∀ y dx, H1 y = none → H1 dx = none → dx ≠ y → sp (.ref y :: vs) (upd (upd H1 dx (.own y)) y (.ins C dx [])) (fun v H2 => v = .non ∧ Q (.ref y) H2) (E σ)) :=
  ⟨fun pins s σ H Q I h => wpAny_Call_Name_kw (ld_glob I hg hm (PySem.W.callWith_K (h₀ := X.base) I.ok.mod.kin M.kp (thn (ha.run pos pins s σ H _ I h) fun us s1 ⟨vs, H1, I1, r, q⟩ => ⟨I1.kIn, run_new M F hr hb (hx σ) I1 r q⟩) he hpl) hdb)⟩
theorem de_make {k j c n m : Nat} {x : Str} {I : DEnv → Res (List Dat)} (cc : MkD X.prog X.w X.K X.mg X.base T k x c n m I) (hr : Room j X.A) (hk : k + 1 ≤ j) (hp : ∀ σ, PassesAt (L2.CX X.prog X.w) X σ (WE W σ)) (ha : DA X T W ow (e :: es) fs) (hg : Gl X x := by rfl)
    (hdb : (x == ("__debug__" : Str)) = false := by decide) (he : starEach (e :: es) X.env = (false, eval e X.env) :: starEach es X.env := by rfl) (hpl : (backTo pos (starEach es X.env)).any (·.1) = false := by rfl) :
    DE X T W ow (.Call (.Name x p) (e :: es) [] pos) (vMake c n m I fs) := by
  obtain ⟨f, fd, ps, h1, h2, h3, h4⟩ := cc.ex
  refine pe_imp (pe_new h2 h4 (hr.mono hk) hg h1 h3 hp ha hdb he hpl) fun σ H Q h => ?_
  obtain ⟨ρ, S, re, w⟩ := h
  refine Want.partA re w fun vs ds H1 w1 re1 e1 rs => ?_
  intro y dx hy hdx hne
  unfold makeD at w1
  split at w1
  · rename_i hl
    have eo : Ex H1 (upd (upd H1 dx (.own y)) y (.ins (T.addr c) dx [])) := (Ex.new hdx).trans (Ex.new (by rw [upd_ne (fun q => hne q.symm)]; exact hy))
    have yS : y ∉ S := re1.mt.not hy
    have eh : Ex (hide H1 S) (hide (upd (upd H1 dx (.own y)) y (.ins (T.addr c) dx [])) (y :: S)) := fun b o hb => by
      unfold hide at hb ⊢
      by_cases z : b ∈ S
      · rw [if_pos z] at hb; cases hb
      · rw [if_neg z] at hb
        have nb : b ≠ y := fun q => by rw [q, hy] at hb; cases hb
        rw [if_neg (by rw [List.mem_cons, not_or]; exact ⟨nb, z⟩)]
        exact eo b o hb
    refine ⟨by rw [List.length_cons, rs.length, hl], y, dx, vs, y :: S, ds, rfl, upd_same .., List.mem_cons_self .., fun q hq => ?_, rs.mono eh, ?_⟩
    · rcases List.mem_cons.mp hq with z | z
      · subst z
        exact ⟨_, upd_same .., rfl⟩
      · obtain ⟨o, a, b⟩ := re1.mt q z
        exact ⟨o, eo q o a, b⟩
    have back : ∀ {H' : Hp}, Agr y (upd (upd H1 dx (.own y)) y (.ins (T.addr c) dx [])) H' → Ex H1 H' := fun {H'} ag b o hb => ag b o (fun q => by rw [q, hy] at hb; cases hb) (eo b o hb)
    cases q : I (startI m ds) with
    | stuck => rw [q] at w1; exact w1.elim
    | exc e =>
      rw [q] at w1
      exact fun σ' H' ag => w1 H' (back ag)
    | ok l =>
      rw [q] at w1
      intro σ' H' dx' fs' ag hH hn hr'
      refine ⟨rfl, w1 (.ref y) H' (back ag) ?_⟩
      refine .obj (dx := dx') (fs := fs') ?_ hn (hr'.mono fun b o hb => ?_)
      · unfold hide
        rw [if_neg yS]
        exact hH
      · unfold hide at hb ⊢
        split at hb
        · cases hb
        · rename_i z
          rw [List.mem_cons, not_or] at z
          rw [if_neg z.2]
          exact hb
  · exact w1.elim
end
end Dl
/-! The D layer, part 13: methods of own objects; except .. as e. -/
namespace Dl
open PySem PySem.Spec PyProof.Rows L2
structure MetD (P : Program) (w : World) (K : PySem.W.Frag) (mg : Str → Option Value) (base : Heap) (T : CT) (k c : Nat) (m : Str) (n : Nat) (F : List Dat → Res Dat) : Prop where
  ex : ∃ f fd ps, Cls K (T.addr c) ∧ Meth K (T.addr c) m f ∧ Binds K fd ps [] ∧ FnOk P w K mg base (L2.CX P w) k f fd ps (spD K T n F)
def methK (c n : Nat) (F : List Dat → Res Dat) (ds : List Dat) : Dat → Res Dat
  | .obj c' l => if c' = c ∧ ds.length + 1 = n then F (.obj c' l :: ds) else .stuck
  | _ => .stuck
def isObj (c : Nat) : Dat → Bool
  | .obj c' _ => c' == c
  | _ => false
def vMeth (c n : Nat) (F : List Dat → Res Dat) (fo : DEnv → Res Dat) (fs : DEnv → Res (List Dat)) : DEnv → Res Dat := fun ρ => (fo ρ).bind fun x => if isObj c x = true then (fs ρ).bind fun ds => methK c n F ds x else .stuck
theorem lookup_none {m : Str} : ∀ {fs : List (Str × V)}, m ∉ fs.map (·.1) → fs.lookup m = none
  | [], _ => rfl
  | (g, y) :: r, h => by
    rw [List.map_cons, List.mem_cons, not_or] at h
    show (match m == g with | true => some y | false => r.lookup m) = none
    rw [beq_eq_false_iff_ne.mpr h.1]
    exact lookup_none h.2
section
variable {X : Cx} {T : CT} {W : WX} {ow : List Nat} {o e : Expr} {es : List Expr} {pos apos : Pos} {fo : DEnv → Res Dat} {fs : DEnv → Res (List Dat)}
theorem pe_mcall {pl : Sem Bool} {k : Nat} {C f : Addr} {m : Str} {fd : FuncData} {ps : List Str} {sp : Sp} {E : Sg → XK} {ta : TE} {t : TA} (he : PE X o ta) (c : Cls X.K C) (hm : Meth X.K C m f) (F : FnOk X.prog X.w X.K X.mg X.base (L2.CX X.prog X.w) k f fd ps sp) (hr : Room k X.A) (hb : Binds X.K fd ps []) (hx : ∀ σ, PassesAt (L2.CX X.prog X.w) X σ (E σ)) (ha : PA X (e :: es) t)
    (hst : starEach (e :: es) X.env = (false, eval e X.env) :: starEach es X.env) (hpl : (backTo pos (starEach es X.env)).any (·.1) = false)
    (ht : eval (.Call (.Attribute o m apos) (e :: es) [] pos) X.env = (do
      let ov ← eval o X.env
      standAt apos.atName
      let (f, first) ← holding [ov] (getMethod ov m pl)
      callWith pos f first (backTo pos (starEach (e :: es) X.env)) (backToKw pos (keywordEach [] X.env)))) :
    PE X (.Call (.Attribute o m apos) (e :: es) [] pos) (fun σ H Q => ta σ H fun x H1 => ∃ a dx fs, x = .ref a ∧ H1 a = some (.ins C dx fs) ∧ fs.lookup m = none ∧ t σ H1 fun vs H2 => sp (x :: vs) H2 Q (E σ)) :=
  ⟨fun pins s σ H Q I h => PySem.W.methodCall_KW (pl := pl) (thn (he.run pins s σ H _ I h) fun u s1 z => by
    obtain ⟨x, H1, I1, rx, a, dx, fs, ex, ea, l, q⟩ := z
    subst ex
    obtain rfl : u = Value.ref a := rx
    exact getmeth_ok I1 ea c hm l (PySem.W.callWith_K (first := [.ref a]) (h₀ := X.base) I.ok.mod.kin hm.kp (thn (ha.run pos pins s1 σ H1 _ I1 q) fun us s2 ⟨vs, H2, I2, r, q2⟩ => ⟨I2.kIn, run_fnS (us := .ref a :: us) (vs := .ref a :: vs) F hr hb (hx σ) I2 (.cons rfl r) q2⟩) hst hpl)) ht⟩
theorem pe_mcall0 {pl : Sem Bool} {k : Nat} {C f : Addr} {m : Str} {fd : FuncData} {ps : List Str} {sp : Sp} {E : Sg → XK} {ta : TE} (he : PE X o ta) (c : Cls X.K C) (hm : Meth X.K C m f) (F : FnOk X.prog X.w X.K X.mg X.base (L2.CX X.prog X.w) k f fd ps sp) (hr : Room k X.A) (hb : Binds X.K fd ps []) (hx : ∀ σ, PassesAt (L2.CX X.prog X.w) X σ (E σ))
    (ht : eval (.Call (.Attribute o m apos) [] [] pos) X.env = (do
      let ov ← eval o X.env
      standAt apos.atName
      let (f, first) ← holding [ov] (getMethod ov m pl)
      callWith pos f first (backTo pos (starEach [] X.env)) (backToKw pos (keywordEach [] X.env)))) :
    PE X (.Call (.Attribute o m apos) [] [] pos) (fun σ H Q => ta σ H fun x H1 => ∃ a dx fs, x = .ref a ∧ H1 a = some (.ins C dx fs) ∧ fs.lookup m = none ∧ sp [x] H1 Q (E σ)) :=
  ⟨fun pins s σ H Q I h => PySem.W.methodCall_KW (pl := pl) (thn (he.run pins s σ H _ I h) fun u s1 z => by
    obtain ⟨x, H1, I1, rx, a, dx, fs, ex, ea, l, q⟩ := z
    subst ex
    obtain rfl : u = Value.ref a := rx
    exact getmeth_ok I1 ea c hm l (PySem.W.callWith_K0 (first := [.ref a]) I1.kIn hm.kp (run_fnS (us := [.ref a]) (vs := [.ref a]) F hr hb (hx σ) I1 (.cons rfl .nil) q))) ht⟩
theorem want_call {K : PySem.W.Frag} {σ : Sg} {H : Hp} {S : List Addr} {r : Res Dat} {Q : VK} (w : Want K T W σ H S r Q) : Want K T (fun cls d _ H => WE W σ cls d H) [] H S r Q := by
  cases r with
  | ok d => exact w
  | exc c => exact w
  | stuck => exact w
theorem de_meth {pl : Sem Bool} {k j c n : Nat} {m : Str} {F : List Dat → Res Dat} (cm : MetD X.prog X.w X.K X.mg X.base T k c m n F) (hr : Room j X.A) (hk : k ≤ j) (hp : ∀ σ, PassesAt (L2.CX X.prog X.w) X σ (WE W σ)) (hn : m ∉ T.names c) (ho : DE X T W ow o fo) (ha : DA X T W ow (e :: es) fs)
    (hst : starEach (e :: es) X.env = (false, eval e X.env) :: starEach es X.env := by rfl) (hpl : (backTo pos (starEach es X.env)).any (·.1) = false := by rfl)
    (ht : eval (.Call (.Attribute o m apos) (e :: es) [] pos) X.env = (do
      let ov ← eval o X.env
      standAt apos.atName
      let (f, first) ← holding [ov] (getMethod ov m pl)
      callWith pos f first (backTo pos (starEach (e :: es) X.env)) (backToKw pos (keywordEach [] X.env))) := by rfl) :
    DE X T W ow (.Call (.Attribute o m apos) (e :: es) [] pos) (vMeth c n F fo fs) := by
  obtain ⟨f, fd, ps, h1, h2, h3, h4⟩ := cm.ex
  refine pe_imp (pe_mcall (pl := pl) ho h1 h2 h4 (hr.mono hk) h3 hp ha hst hpl ht) fun σ H Q h => ?_
  obtain ⟨ρ, S, re, w⟩ := h
  refine Want.part re w fun x dx H1 w1 re1 e1 rx => ?_
  cases rx with
  | @obj a dx' c' fs' ds' hs hnm rs' =>
    split at w1
    · rename_i hc
      have hc : (c' == c) = true := hc
      obtain rfl : c' = c := eq_of_beq hc
      have hH : H1 a = some (.ins (T.addr c') dx' fs') := hide_ex _ _ hs
      refine ⟨a, dx', fs', rfl, hH, lookup_none (by rw [hnm]; exact hn), ?_⟩
      refine Want.partA re1 w1 fun vs ds H2 w2 re2 e2 rs => ?_
      have w2 : Want X.K T W σ H2 S (if c' = c' ∧ ds.length + 1 = n then F (.obj c' ds' :: ds) else .stuck) Q := w2
      split at w2
      · rename_i hl
        exact ⟨by rw [List.length_cons, rs.length]; exact hl.2, S, .obj c' ds' :: ds, re2.mt, .cons ((Rep.obj hs hnm rs').mono (hide_mono e2)) rs, want_call w2⟩
      · exact w2.elim
    · exact w1.elim
  | _ => exact w1.elim
theorem de_meth0 {pl : Sem Bool} {k j c : Nat} {m : Str} {F : List Dat → Res Dat} (cm : MetD X.prog X.w X.K X.mg X.base T k c m 1 F) (hr : Room j X.A) (hk : k ≤ j) (hp : ∀ σ, PassesAt (L2.CX X.prog X.w) X σ (WE W σ)) (hn : m ∉ T.names c) (ho : DE X T W ow o fo)
    (ht : eval (.Call (.Attribute o m apos) [] [] pos) X.env = (do
      let ov ← eval o X.env
      standAt apos.atName
      let (f, first) ← holding [ov] (getMethod ov m pl)
      callWith pos f first (backTo pos (starEach [] X.env)) (backToKw pos (keywordEach [] X.env))) := by rfl) :
    DE X T W ow (.Call (.Attribute o m apos) [] [] pos) (vMeth c 1 F fo aNil) := by
  obtain ⟨f, fd, ps, h1, h2, h3, h4⟩ := cm.ex
  refine pe_imp (pe_mcall0 (pl := pl) ho h1 h2 h4 (hr.mono hk) h3 hp ht) fun σ H Q h => ?_
  obtain ⟨ρ, S, re, w⟩ := h
  refine Want.part re w fun x dx H1 w1 re1 e1 rx => ?_
  cases rx with
  | @obj a dx' c' fs' ds' hs hnm rs' =>
    split at w1
    · rename_i hc
      have hc : (c' == c) = true := hc
      obtain rfl : c' = c := eq_of_beq hc
      refine ⟨a, dx', fs', rfl, hide_ex _ _ hs, lookup_none (by rw [hnm]; exact hn), ?_⟩
      have w2 : Want X.K T W σ H1 S (if c' = c' ∧ ([] : List Dat).length + 1 = 1 then F [.obj c' ds'] else .stuck) Q := w1
      rw [if_pos ⟨rfl, rfl⟩] at w2
      exact ⟨rfl, S, [.obj c' ds'], re1.mt, .cons (Rep.obj hs hnm rs') .nil, want_call w2⟩
    · exact w1.elim
  | _ => exact w1.elim
end
end Dl
namespace Dl
open PySem PySem.Spec PyProof.Rows L2
def isBD : Dat → Dat → Option Dat
  | .bl a, .bl b => some (.bl (decide (a = b)))
  | _, _ => none
def isnotBD : Dat → Dat → Option Dat
  | .bl a, .bl b => some (.bl (!decide (a = b)))
  | _, _ => none
section
variable {K : PySem.W.Frag} {T : CT}
theorem rd_isB : R2D K T (fun x y H Q => ∃ a b, x = .bl a ∧ y = .bl b ∧ Q (.bl (decide (a = b))) H) isBD := fun S H x y dx dy d Q m rx ry e q => by
  cases rx with
  | bl a =>
    cases ry with
    | bl b =>
      cases e
      exact ⟨a, b, rfl, rfl, q _ H (Ex.refl H) (.bl _)⟩
    | _ => cases e
  | _ => cases ry <;> cases e
theorem rd_isnotB : R2D K T (fun x y H Q => ∃ a b, x = .bl a ∧ y = .bl b ∧ Q (.bl (!decide (a = b))) H) isnotBD := fun S H x y dx dy d Q m rx ry e q => by
  cases rx with
  | bl a =>
    cases ry with
    | bl b =>
      cases e
      exact ⟨a, b, rfl, rfl, q _ H (Ex.refl H) (.bl _)⟩
    | _ => cases e
  | _ => cases ry <;> cases e
end
end Dl
namespace Dl
open PySem PySem.Spec PyProof.Rows L2
/-! ### division by a great negative number, three names at once -/
def CDivX (_ j : Int) : Prop := j ≠ 0 ∧ j.natAbs.log2 < 9000
theorem op_fdivX {X : Cx} : OpR X (binaryOp .FloorDiv) (rI CDivX fun i j => .int (i.fdiv j)) := opI fun _ _ _ _ _ _ _ hc q => floordiv_int hc.1 q (.inl (PyProof.noPylong_of_log2 hc.2))
def fdivXI (i j : Int) : Option Int := if j ≠ 0 ∧ j.natAbs.log2 < 9000 then some (i.fdiv j) else none
def fdivXD := intOp fdivXI
theorem rd_fdivX {K : PySem.W.Frag} {T : CT} : R2D K T (rI CDivX fun i j => .int (i.fdiv j)) fdivXD := rd_int fun i j k Q H e q => by
  unfold fdivXI at e
  split at e
  · rename_i h
    exact ⟨i, j, rfl, rfl, h, by cases e; exact q⟩
  · cases e
def sPar3 (i j l : Nat) (f g h : DEnv → Res Dat) : DEnv → DFlow := fun ρ => rBind (f ρ) ρ fun d => rBind (g ρ) ρ fun e => rBind (h ρ) ρ fun d3 => .nx (((ρ.set i (some d)).set j (some e)).set l (some d3))
section
variable {X : Cx} {T : CT} {W : WX} {ow ow' ob : List Nat} {a b c : Expr} {pos : Pos} {f g h : DEnv → Res Dat}
theorem ds_par3 {i j l : Nat} {x y z : Str} {px py pz pt : Pos} {kt k2 pt2} (hc : X.calm = true) (hN : X.N.Nodup) (ha : DE X T W ow a f) (hb : DE X T W ow b g) (hd : DE X T W ow c h) (hs : ∀ k ∈ ow', k ∈ ow) (hi1 : i ∉ ow') (hj1 : j ∉ ow') (hl1 : l ∉ ow')
    (hw : swappedStores [.Tuple [.Name x px, .Name y py, .Name z pz] kt pt] (.Tuple [a, b, c] k2 pt2) X.env = pure (some [x, y, z]))
    (hi : X.N[i]? = some x := by rfl) (hj : X.N[j]? = some y := by rfl) (hl : X.N[l]? = some z := by rfl) (hij : i ≠ j := by decide) (hil : i ≠ l := by decide) (hjl : j ≠ l := by decide)
    (hx : X.env.scope.names.lookup x = some .local := by rfl) (hy : X.env.scope.names.lookup y = some .local := by rfl) (hz : X.env.scope.names.lookup z = some .local := by rfl)
    (h1 : starEach [a, b, c] X.env = (false, eval a X.env) :: starEach [b, c] X.env := by rfl) (h2 : starEach [b, c] X.env = (false, eval b X.env) :: starEach [c] X.env := by rfl) (h3 : starEach [c] X.env = (false, eval c X.env) :: starEach [] X.env := by rfl)
    (hsw : swapsWithSole [.Tuple [.Name x px, .Name y py, .Name z pz] kt pt] (.Tuple [a, b, c] k2 pt2) pos.line X.env = pure false := by rfl) :
    DS X T W ow ow' ob (.Assign [.Tuple [.Name x px, .Name y py, .Name z pz] kt pt] (.Tuple [a, b, c] k2 pt2) pos) (sPar3 i j l f g h) := ps_imp (ps_par3 hc hN hi hj hl hij hil hjl hx hy hz (pa_cons ha (pa_cons hb (pa_cons hd pa_nil h3) h2) h1) hw hsw) fun D σ H q => by
  obtain ⟨B, B0, ρ, S, rs, w⟩ := q
  refine Wants.part rs w fun v d H1 w1 rs1 e1 r => ?_
  refine Wants.part rs1 w1 fun v2 d2 H2 w2 rs2 e2 r2 => ?_
  refine Wants.part rs2 w2 fun v3 d3 H3 w3 rs3 e3 r3 => ?_
  obtain ⟨rs4, sub⟩ := rs3.less hs
  refine ⟨v, v2, v3, rfl, ?_⟩
  exact Wants.go w3 (((rs4.set hi1 (((r.mono (hide_mono e2)).mono (hide_mono e3)).mono (hide_sub sub))).set hj1 ((r2.mono (hide_mono e3)).mono (hide_sub sub))).set hl1 (r3.mono (hide_sub sub))) (hide_sub sub)
end
end Dl
/-! The D layer, part 14: a list's last item taken; defs that call themselves. -/
namespace Dl
open PySem PySem.Spec PyProof.Rows L2
/-- targets = x.pop(), x's list its own -/
def sPopT (i : Nat) (asg : Dat → DEnv → Option DEnv) : DEnv → DFlow := fun ρ => match ρ[i]? with
  | some (some (.lst l)) => (match l.getLast? with
    | some d => (match asg d (ρ.set i (some (.lst l.dropLast))) with
      | some ρ' => .nx ρ'
      | none => .stuck)
    | none => .stuck)
  | _ => .stuck
theorem Reps.init {K : PySem.W.Frag} {T : CT} {H : Hp} : ∀ {vs : List V} {ds : List Dat}, Reps K T H vs ds → Reps K T H vs.dropLast ds.dropLast
  | _, _, .nil => .nil
  | [_], [_], .cons _ .nil => .nil
  | _ :: _ :: _, _ :: _ :: _, .cons r (.cons r2 rs) => .cons r (Reps.init (.cons r2 rs))
section
variable {X : Cx} {T : CT} {W : WX} {ow ob : List Nat} {pos : Pos}
theorem ds_popT {tg : Expr} {is : List Nat} {asg : Dat → DEnv → Option DEnv} {i : Nat} {x : Str} {apos cpos xp : Pos} (hg : DG X T ow is tg asg) (hd' : ∀ j ∈ ow, j ∉ is) (hsame : ∀ d ρ ρ' j, asg d ρ = some ρ' → j ∉ is → ρ'[j]? = ρ[j]?)
    (hiw : i ∈ ow := by decide) (hN : X.N[i]? = some x := by rfl) (hv : Vis X.env.scope x := by first | exact Or.inl rfl | exact Or.inr (Or.inl rfl) | exact Or.inr (Or.inr rfl)) (hd : (x == ("__debug__" : Str)) = false := by decide)
    (hcd : (x == ("__classdict__" : Str)) = false := by decide) (hbase : attributeBase (.Name x xp) "pop" X.env (eval (.Name x xp) X.env) = eval (.Name x xp) X.env := by rfl) (hline : (apos.endLine == cpos.line) = true := by rfl)
    (hsw : swapsWithSole [tg] (.Call (.Attribute (.Name x xp) "pop" apos) [] [] cpos) pos.line X.env = pure false := by rfl) (hw : swappedStores [tg] (.Call (.Attribute (.Name x xp) "pop" apos) [] [] cpos) X.env = pure none := by rfl) (hae : (assignEach [tg] X.env).map (·.2) = [assign tg X.env] := by rfl) :
    DS X T W ow ow ob (.Assign [tg] (.Call (.Attribute (.Name x xp) "pop" apos) [] [] cpos) pos) (sPopT i asg) :=
  ps_imp (ps_asg (pe_bm0 PySem.F.plainAttrs_list PySem.F.slot_list_pop PySem.F.type_list_pop mt_pop (pe_var hN hv hd hcd) hbase hline) hg hsw hw hae) fun D σ H q => by
    obtain ⟨B, B0, ρ, S, rs, w⟩ := q
    unfold sPopT at w
    split at w
    · rename_i l hl
      obtain ⟨p, vs, h1, h2, h3, h4⟩ := own_at rs hiw hl
      refine ⟨_, h1, .inl ⟨rfl, vs, .inl (.inl h3)⟩, ?_⟩
      split at w
      · rename_i d hlast
        rw [List.getLast?_eq_getElem?] at hlast
        obtain ⟨v, hv1, hv2⟩ := h4.get hlast
        refine ⟨p, vs, v, rfl, rfl, h3, by rw [h4.length]; exact hv1, ?_⟩
        have rs1 := rs.chg hiw hl h1 h2 h4.init
        split at w
        · rename_i ρ' qa
          refine ⟨ρ.set i (some (.lst l.dropLast)), S, d, rs1.re, by rw [hide_upd h2]; exact hv2, ρ', qa, fun σ' re' hsm hlen => ?_⟩
          refine Wants.go w (S' := S) ⟨re', rs1.ex, rs1.sub, rs1.bd, fun j d' p' hj g1 g2 => ?_, rs1.new⟩ (by rw [hide_upd h2]; exact Ex.refl _)
          rw [hsame _ _ _ j qa (hd' j hj)] at g1
          rw [hsm j (hd' j hj)] at g2
          exact rs1.onew j d' p' hj g1 g2
        · exact w.elim
      · exact w.elim
    · exact w.elim
end
/-! ### a def that calls itself: by how deep -/
theorem fnok_none {P : Program} {w : World} {K : PySem.W.Frag} {mg : Str → Option Value} {base : Heap} {T : CT} {k n : Nat} {f : Addr} {fd : FuncData} {ps : List Str} (hn : ps.length = n) : FnOk P w K mg base (L2.CX P w) k f fd ps (spD K T n fun _ => .stuck) :=
  ⟨fun vs H Q E h => h.1.trans hn.symm, fun A outer s H args us vs Q E _ _ _ _ h => by
    obtain ⟨_, S, ds, _, _, z⟩ := h
    exact z.elim⟩
theorem rec_D {P : Program} {w : World} {K : PySem.W.Frag} {mg : Str → Option Value} {base : Heap} {T : CT} {L n : Nat} {x qual : Str} {st : Stmt} {f : Addr} {fd : FuncData} {ps : List Str} {D : Nat → List Dat → Res Dat} (hm : mg x = some (.ref f)) (Fu : Fun K x qual st f fd) (b : Binds K fd ps []) (hn : ps.length = n)
    (h0 : D 0 = fun _ => .stuck) (hs : ∀ m, FnD P w K mg base T (L + m) x n (D m) → FnOk P w K mg base (L2.CX P w) (L + m + 1) f fd ps (spD K T n (D (m + 1)))) : ∀ m, FnD P w K mg base T (L + m) x n (D m)
  | 0 => FnD.mk' hm Fu b (by rw [h0]; exact fnok_none hn)
  | m + 1 => FnD.mk' hm Fu b (hs m (rec_D hm Fu b hn h0 hs m))
end Dl
/-! The D layer, part 15: enumerate over a tuple. -/
namespace Dl
open PySem PySem.Spec PyProof.Rows L2
open AutoSeq1 (wpAny_loadPart')
/-- an enumerate over the tuple at t is made -/
theorem enumT_new (t : Addr) (its : Array Value) (n : Nat) (dct : Option Addr) (sl : Array (Option Value)) :
    Meets (Builtin.«enumerate.__new__» ⟨[.type "enumerate", .ref t], []⟩) (fun _ R s => s.heap.get? t = some { cls := .type "tuple", dict := dct, data := .seq its n, slots := sl } ∧
      R (.ok (.ret (.ref (s.heap.push { cls := .type "tuple_iterator", data := .fields #[.ref t, .int 0 0] }).objs.size)))
        { s with heap := (s.heap.push { cls := .type "tuple_iterator", data := .fields #[.ref t, .int 0 0] }).push { cls := .type "enumerate", data := .fields #[.none, .bool false, .ref s.heap.objs.size, rawInt 0, .none, .none] } }) :=
  .of_wp fun prog w A R s h => by
    obtain ⟨hp, g, d, tk, os⟩ := s; obtain ⟨ht, h⟩ := h
    have sub := sub_enumerate
    have hT : Heap.IsTuple (Shared.heap ⟨hp, g, d, tk, os⟩) t its := ⟨_, ht, rfl, n, rfl⟩
    wp_walk using wpAny_loadPart' ht
    refine wpAny_stack_any fun st => wpAny_pure ?_
    split
    · rename_i c _ _ _ _ _
      cases (c == Value.type "enumerate")
      · wp_walk using wpAny_loadPart' ht, wpAny_pyIter_tuple hT
        exact ⟨_, rfl, h⟩
      · wp_walk using wpAny_loadPart' ht, wpAny_pyIter_tuple hT
        exact ⟨_, rfl, h⟩
    · wp_walk using wpAny_loadPart' ht, wpAny_pyIter_tuple hT
      exact ⟨_, rfl, h⟩
section
variable {prog : Program} {w : World} {A : Around} {E : Value → Shared → Prop} {s : Shared}
theorem call_enumT {t : Addr} {its : Array Value} {Q : Value → Shared → Prop} (hT : s.heap.IsTuple t its)
    (h : ∀ h', IsEnum h' (s.heap.objs.size + 1) s.heap.objs.size 0 .none → h'.IsTupleIter s.heap.objs.size t 0 → h'.objs.size = s.heap.objs.size + 2 →
      (∀ b o, s.heap.get? b = some o → h'.get? b = some o) → Q (.ref (s.heap.objs.size + 1)) { s with heap := h' }) :
    wpAny (model prog w) A (call (.type "enumerate") [.ref t]) Q E s := by
  obtain ⟨⟨c, dct, dt, sl⟩, ht, hc, n, hd⟩ := hT
  obtain rfl : c = .type "tuple" := hc
  obtain rfl : dt = .seq its n := hd
  refine callType_new F.called_enumerate (by decide) (F.typeCall_enumerate_1 _) (F.newCall_enumerate_1 _) (fun obj => F.args_object_init_2 obj _) F.entry_enumerate_new (enumT_new t its n dct sl) ⟨ht, ?_⟩
  have hz : (s.heap.push { cls := .type "tuple_iterator", data := .fields #[.ref t, .int 0 0] }).objs.size = s.heap.objs.size + 1 := Heap.size_push ..
  show _ ∧ _
  rw [hz]
  have he : IsEnum ((s.heap.push { cls := .type "tuple_iterator", data := .fields #[.ref t, .int 0 0] }).push { cls := .type "enumerate", data := .fields #[.none, .bool false, .ref s.heap.objs.size, rawInt 0, .none, .none] }) (s.heap.objs.size + 1) s.heap.objs.size 0 .none := by
    have q := Heap.get?_push_size (s.heap.push { cls := .type "tuple_iterator", data := .fields #[.ref t, .int 0 0] }) (o := { cls := .type "enumerate", data := .fields #[.none, .bool false, .ref s.heap.objs.size, rawInt 0, .none, .none] }) rfl
    rw [hz] at q
    exact q
  exact ⟨⟨_, he, rfl⟩, h _ he ⟨_, Heap.get?_push_of_some _ (Heap.get?_push_size _ rfl), rfl, rfl⟩ (by rw [Heap.size_push, hz]) fun b o x => Heap.get?_push_of_some _ (Heap.get?_push_of_some _ x)⟩
end
theorem draws_tup {prog : Program} {w : World} {A : Around} (hh : A.handled = none) (it t : Addr) (hne : t ≠ it) (its : Array Value) :
    Draws prog w A it [it, t] its.size (fun i v => its[i]? = some v) (fun i h => h.IsTupleIter it t i ∧ h.IsTuple t its) where
  live := fun _ _ st => let ⟨o, ho, _⟩ := st.1; ⟨o, ho⟩
  frame := fun _ _ _ st hk => ⟨st.1.at fun o e => hk it (by simp) o e, let ⟨o, ho, r⟩ := st.2; ⟨o, hk t (by simp) o ho, r⟩⟩
  item := fun i s Q E hi st hQ => by
    obtain ⟨s1, s2⟩ := st
    refine RZ.nextOf_tuple_item s1 s2 (x := its[i]) (by simp [hi]) fun h' a b => ?_
    obtain ⟨o, ho, r⟩ := s2
    exact hQ _ h' s.toks (by simp [hi]) ⟨a, o, (b.2 t hne).trans ho, r⟩ b
  done := fun s Q E st hE => RZ.nextOf_tuple_end hh st.1 st.2 (by simp) hE
end Dl
namespace Dl
open PySem PySem.Spec PyProof.Rows L2
/-- the tuple at a, each item in a new pair -/
def ItT (K : PySem.W.Frag) (a : Addr) : It :=
  ⟨fun i H => ∃ (xs : List V) (x : V), SqT K H a xs ∧ xs[i]? = some x, fun i H v H' => ∃ T x, v = .ref T ∧ H T = none ∧ H' = upd H T (.tup [.int (i : Nat), x]) ∧ ∀ xs, SqT K H a xs → xs[i]? = some x, fun i H => ∃ xs : List V, SqT K H a xs ∧ xs.length = i⟩
theorem turn_enumT {P : Program} {w : World} {K : PySem.W.Frag} {elts : List Expr} {kk : Nat} {tpos : Pos} (a e it : Addr) (hae : a ≠ e) (hai : a ≠ it) :
    Turn P w K (.Tuple elts kk tpos) (ItT K a) [e, it] e (fun i h => (∃ old, IsEnum h e it ((i : Nat) : Int) old) ∧ h.IsTupleIter it a i ∧ e ≠ it) where
  mem := by simp
  obj := fun i h st b hb => by
    obtain ⟨⟨old, he⟩, ⟨o, ho, hc, hd⟩, _⟩ := st
    rcases (by simpa using hb : b = e ∨ b = it) with z | z
    · rw [z]; exact ⟨_, he, fun v q => nomatch q⟩
    · rw [z]; exact ⟨o, ho, fun v q => by rw [hd] at q; cases q⟩
  keep := fun i h h' st k => let ⟨⟨old, he⟩, hi, hne⟩ := st; ⟨⟨old, k e (by simp) _ he⟩, hi.at fun o q => k it (by simp) o q, hne⟩
  item := by
    intro X hP hw hK hc i pins s σ H E I hf st hg
    subst hP hw hK
    obtain ⟨⟨old, he⟩, hit, hne⟩ := st
    obtain ⟨xs, x, hq, hx⟩ := hg
    obtain ⟨its, rv, p, hz⟩ := I.tuple hq
    obtain ⟨u, hu, ru⟩ := rv.get hx
    have hil : i < its.toArray.size := by
      have := (List.getElem?_eq_some_iff.mp hu).1
      simpa using this
    have le : e < s.heap.objs.size := Heap.lt_size he
    have li : it < s.heap.objs.size := by obtain ⟨_, q, _⟩ := hit; exact Heap.lt_size q
    have D := draws_tup (prog := X.prog) (w := X.w) (A := X.A.in1) (by exact I.ok.hd hc) it a hai its.toArray
    refine wpAny_pyNext_enum_itemD D he ⟨hit, p⟩ hil hne (by simp [hne, hae.symm]) fun y h' tk hy ho hst hT hsz hk => ?_
    have ey : y = u := by
      have hu' : its.toArray[i]? = some u := by simpa using hu
      rw [hu'] at hy
      exact (Option.some.inj hy).symm
    subst ey
    refine ⟨_, rfl, wpAny_letOwnedTupleGo_enum (s := { s with heap := h', toks := tk + 1 }) ho fun h'' he' sb => ?_⟩
    have hT2 : h''.get? s.heap.objs.size = some { cls := .type "tuple", data := .seq #[.int i tk, y] } := (sb.2 _ (Nat.ne_of_gt le)).trans hT
    have new : ObjOk X.prog X.w (upd H s.heap.objs.size (.tup [.int (i : Nat), x])) h'' s.heap.objs.size (.tup [.int (i : Nat), x]) :=
      ⟨by show 2 ≤ sizeLine; decide, [.int i tk, y], .cons ⟨_, rfl⟩ (.cons ru .nil), ⟨_, hT2, rfl, _, rfl⟩⟩
    have J : Inv X pins σ (upd H s.heap.objs.size (.tup [.int (i : Nat), x])) { s with heap := h'', toks := tk + 1 } :=
      I.turnedNew (ch := [e, it]) (fun b ob hb q => (sb.2 b (fun z => hb (by simp [z]))).trans (hk b ob (fun z => hb (by simp [z])) (fun z => hb (by simp [z])) q)) hf (Nat.le_refl _) new
    refine ⟨.ref s.heap.objs.size, _, J, rfl, ⟨_, x, rfl, I.hok.fresh (Nat.le_refl _), rfl, fun ys hy => by rw [I.tuple_inj hy hq]; exact hx⟩, ⟨⟨y, ?_⟩, hst.1.at fun o q => (sb.2 it (Ne.symm hne)).trans q, hne⟩, fun b hb => ?_⟩
    · rw [show ((i + 1 : Nat) : Int) = (i : Int) + 1 by omega]
      exact he'
    · have lb : b < s.heap.objs.size := by
        rcases (by simpa using hb : b = e ∨ b = it) with z | z
        · rw [z]; exact le
        · rw [z]; exact li
      rw [upd_ne (Nat.ne_of_lt lb)]
      exact (hf b hb).1
  done := by
    intro X hP hw hK hc i pins s σ H E I hf st hg
    subst hP hw hK
    obtain ⟨⟨old, he⟩, hit, hne⟩ := st
    obtain ⟨xs, hq, hx⟩ := hg
    obtain ⟨its, rv, p, hz⟩ := I.tuple hq
    obtain ⟨f0, f1, f2, f3, f4, f5⟩ := hf it (by simp)
    have D := draws_tup (prog := X.prog) (w := X.w) (A := X.A.in1) (by exact I.ok.hd hc) it a hai its.toArray
    have en : i = its.toArray.size := by
      rw [List.size_toArray, ← rv.length]
      exact hx.symm
    rw [en] at hit
    exact wpAny_pyNext_enum_endD D he ⟨hit, p⟩ fun h' eb => ⟨rfl, I.turned (t' := s.toks) (fun b o hb q => eb b o hb q) f0 f1 f3 f4 f5⟩
  self := fun A i s Q E st h => let ⟨⟨_, he⟩, _⟩ := st; wpAny_pyIter_enum he h
end Dl
namespace Dl
open PySem PySem.Spec PyProof.Rows L2
def iEnumT (K : PySem.W.Frag) (ta : TA) : TI := fun σ H R => ta σ H fun vs H1 => ∃ a xs, vs = [.ref a] ∧ SqT K H1 a xs ∧ R (ItT K a) H1
theorem pi_enumT {X : Cx} {e : Expr} {ta : TA} {p pos tpos : Pos} {elts : List Expr} {kk : Nat} (hg : Gl X "enumerate") (hm : X.mg "enumerate" = none) (ha : PA X [e] ta) (hs : starEach [e] X.env = [(false, eval e X.env)] := by rfl) :
    PI X (.Tuple elts kk tpos) (.Call (.Name "enumerate" p) [e] [] pos) (iEnumT X.K ta) := by
  refine ⟨fun pins s σ H R I h => ?_⟩
  refine Call_ (ld_blt I hg hm boot_enumerate (PyProof.Rows.callWith_type1 (thn (ha.run pos pins s σ H _ I h) fun us s1 ⟨vs, H1, I1, r1, q1⟩ => ?_) hs rfl))
  obtain ⟨a, xs, rfl, hq, q⟩ := q1
  obtain ⟨u, rfl, ru⟩ := r1.one
  obtain rfl : u = Value.ref a := ru
  obtain ⟨its, rv, pt, hz⟩ := I1.tuple hq
  have la : a < s1.heap.objs.size := by obtain ⟨_, z, _⟩ := pt; exact Heap.lt_size z
  refine call_enumT pt fun h' he hit hsz hk => wpAny_pyIter_enum he ?_
  have I2 : Inv X pins σ H1 { s1 with heap := h' } := I1.kept (t' := s1.toks) hk
  refine ⟨s1.heap.objs.size + 1, [s1.heap.objs.size + 1, s1.heap.objs.size], _, _, H1, rfl, I2, turn_enumT a (s1.heap.objs.size + 1) s1.heap.objs.size (Nat.ne_of_lt (Nat.lt_succ_of_lt la)) (Nat.ne_of_lt la), ⟨⟨.none, he⟩, hit, Nat.succ_ne_self _⟩, fun b hb => ?_, q⟩
  have le : s1.heap.objs.size ≤ b := by
    rcases (by simpa using hb : b = s1.heap.objs.size + 1 ∨ b = s1.heap.objs.size) with z | z
    · rw [z]; exact Nat.le_succ _
    · rw [z]; exact Nat.le_refl _
  exact I1.fpOk le (I1.hok.fresh le)
end Dl
namespace Dl
open PySem PySem.Spec PyProof.Rows L2
/-- the numbered items -/
def numD (l : List Dat) : List Dat := (List.range l.length).map fun i => .tup [.int (i : Nat), l[i]?.getD .non]
def enumK : Dat → Res (List Dat)
  | .tup l => .ok (numD l)
  | _ => .stuck
def gEnum (fa : DEnv → Res Dat) : DEnv → Res (List Dat) := fun ρ => (fa ρ).bind enumK
theorem walk_enumT {K : PySem.W.Frag} {a : Addr} {xs : List V} : Walk (ItT K a) xs.length (fun H => SqT K H a xs) (fun i H v H' => ∃ T x, v = .ref T ∧ H T = none ∧ H' = upd H T (.tup [.int (i : Nat), x]) ∧ xs[i]? = some x) :=
  ⟨fun i _ hi q => ⟨xs, xs[i], q, by simp [hi]⟩, fun _ q => ⟨xs, q, rfl⟩, fun _ _ _ _ _ q y => by
    obtain ⟨T, x, h1, h2, h3, h4⟩ := y
    exact ⟨T, x, h1, h2, h3, h4 xs q⟩⟩
theorem src_enumT {K : PySem.W.Frag} {T : CT} {S : List Addr} {H1 : Hp} {vs : List V} {ds : List Dat} {a : Addr} (h : SqT K (hide H1 S) a vs) (rs : Reps K T (hide H1 S) vs ds) : Src K T S (numD ds) (ItT K a) H1 :=
  ⟨_, _, walk_of_eq walk_enumT (by unfold numD; rw [List.length_map, List.length_range]; exact rs.length.symm), fun H' S' e => ex_t hide_ex (ex_t e h), fun i d x H2 H3 S' hi e m y => by
    obtain ⟨P, v, rfl, hP, rfl, hv⟩ := y
    have il : i < ds.length := by
      rw [← rs.length]
      exact (List.getElem?_eq_some_iff.mp hv).1
    unfold numD at hi
    rw [List.getElem?_map, List.getElem?_range il] at hi
    cases hi
    obtain ⟨v', h1, h2⟩ := rs.get (List.getElem?_eq_getElem il)
    rw [hv] at h1
    cases h1
    show Ex H2 (upd H2 P (.tup [.int (i : Nat), v])) ∧ Rep K T (hide (upd H2 P (.tup [.int (i : Nat), v])) S') (.ref P) (.tup [.int (i : Nat), ds[i]?.getD .non])
    rw [List.getElem?_eq_getElem il]
    exact ⟨Ex.new hP, rep_newT m hP (.cons (.int _) (.cons (h2.mono e) .nil))⟩⟩
section
variable {X : Cx} {T : CT} {W : WX} {ow : List Nat} {e : Expr} {pos p tpos : Pos} {fa : DEnv → Res Dat} {elts : List Expr} {kk : Nat}
theorem di_enum (hm : X.mg "enumerate" = none) (ha : DE X T W ow e fa) (hg : Gl X "enumerate" := by rfl) (hs : starEach [e] X.env = [(false, eval e X.env)] := by rfl) (hs2 : starEach [e] X.env = (false, eval e X.env) :: starEach [] X.env := by rfl) :
    DI X T W ow (.Tuple elts kk tpos) (.Call (.Name "enumerate" p) [e] [] pos) (gEnum fa) := pi_imp (pi_enumT hg hm (pa_cons ha pa_nil hs2) hs) fun σ H R h => by
  obtain ⟨ρ, S, re, w⟩ := h
  refine ⟨ρ, S, re, ?_⟩
  unfold gEnum at w
  cases q : fa ρ with
  | stuck => rw [q] at w; exact w.elim
  | exc c => rw [q] at w; exact w
  | ok d =>
    rw [q] at w
    intro v H1 e1 r
    cases r with
    | tup hs rs => exact ⟨_, _, rfl, ex_t hide_ex hs, w _ H1 e1 (src_enumT hs rs)⟩
    | _ => exact w.elim
end
end Dl
/-! What the pure functions of the D layer compute: steps of loops, the draws. -/
namespace Dl
open PySem PySem.Spec PyProof.Rows L2
theorem seq_nx {F G : DEnv → DFlow} {ρ ρ' : DEnv} (h : F ρ = .nx ρ') : sSeq F G ρ = G ρ' := by unfold sSeq; rw [h]
theorem seq_rt {F G : DEnv → DFlow} {ρ : DEnv} {d : Dat} (h : F ρ = .rt d) : sSeq F G ρ = .rt d := by unfold sSeq; rw [h]
theorem seq_ex {F G : DEnv → DFlow} {ρ ρ' : DEnv} {c : Nat} (h : F ρ = .ex c ρ') : sSeq F G ρ = .ex c ρ' := by unfold sSeq; rw [h]
theorem asg_ok {i : Nat} {f : DEnv → Res Dat} {ρ : DEnv} {d : Dat} (h : f ρ = .ok d) : sAsg i f ρ = .nx (ρ.set i (some d)) := by unfold sAsg; rw [h]; rfl
theorem asgO_ok {i : Nat} {f : DEnv → Res (List Dat)} {ρ : DEnv} {d : List Dat} (h : f ρ = .ok d) : sAsgO i f ρ = .nx (ρ.set i (some (.lst d))) := by unfold sAsgO; rw [h]; rfl
theorem ret_ok {f : DEnv → Res Dat} {ρ : DEnv} {d : Dat} (h : f ρ = .ok d) : sRet f ρ = .rt d := by unfold sRet; rw [h]; rfl
theorem drop_ok {f : DEnv → Res Dat} {ρ : DEnv} {d : Dat} (h : f ρ = .ok d) : sDrop f ρ = .nx ρ := by unfold sDrop; rw [h]; rfl
theorem if_t {t : DEnv → Res Bool} {F G : DEnv → DFlow} {ρ : DEnv} (h : t ρ = .ok true) : sIf t F G ρ = F ρ := by unfold sIf; rw [h]; rfl
theorem if_f {t : DEnv → Res Bool} {F G : DEnv → DFlow} {ρ : DEnv} (h : t ρ = .ok false) : sIf t F G ρ = G ρ := by unfold sIf; rw [h]; rfl
theorem asgT_ok {asg : Dat → DEnv → Option DEnv} {f : DEnv → Res Dat} {ρ ρ' : DEnv} {d : Dat} (h : f ρ = .ok d) (ha : asg d ρ = some ρ') : sAsgT asg f ρ = .nx ρ' := by
  unfold sAsgT; rw [h]; show (match asg d ρ with | some ρ' => DFlow.nx ρ' | none => .stuck) = _; rw [ha]
theorem for_ok {g : DEnv → Res (List Dat)} {asg : Dat → DEnv → Option DEnv} {F : DEnv → DFlow} {ρ : DEnv} {l : List Dat} (h : g ρ = .ok l) : sFor g asg F ρ = forL asg F l ρ := by unfold sFor; rw [h]; rfl
theorem op_ok {g : Dat → Dat → Option Dat} {f1 f2 : DEnv → Res Dat} {ρ : DEnv} {x y z : Dat} (h1 : f1 ρ = .ok x) (h2 : f2 ρ = .ok y) (h : g x y = some z) : vOp g f1 f2 ρ = .ok z := by
  unfold vOp; rw [h1]; show (f2 ρ).bind _ = _; rw [h2]; show ofO (g x y) = _; rw [h]; rfl
theorem v1_ok {g : Dat → Option Dat} {f : DEnv → Res Dat} {ρ : DEnv} {x z : Dat} (h1 : f ρ = .ok x) (h : g x = some z) : v1 g f ρ = .ok z := by
  unfold v1; rw [h1]; show ofO (g x) = _; rw [h]; rfl
theorem cb_ok {g : List Dat → Option Dat} {fs : DEnv → Res (List Dat)} {ρ : DEnv} {l : List Dat} {z : Dat} (h1 : fs ρ = .ok l) (h : g l = some z) : vCB g fs ρ = .ok z := by
  unfold vCB; rw [h1]; show ofO (g l) = _; rw [h]; rfl
theorem call_ok {n : Nat} {F : List Dat → Res Dat} {fs : DEnv → Res (List Dat)} {ρ : DEnv} {l : List Dat} {r : Res Dat} (h1 : fs ρ = .ok l) (hl : l.length = n) (h : F l = r) : vCall n F fs ρ = r := by
  unfold vCall; rw [h1]; show (if l.length = n then F l else .stuck) = _; rw [if_pos hl]; exact h
theorem ac_ok {f : DEnv → Res Dat} {fs : DEnv → Res (List Dat)} {ρ : DEnv} {x : Dat} {l : List Dat} (h1 : f ρ = .ok x) (h2 : fs ρ = .ok l) : aCons f fs ρ = .ok (x :: l) := by
  unfold aCons; rw [h1]; show (fs ρ).bind _ = _; rw [h2]; rfl
theorem an_ok {ρ : DEnv} : aNil ρ = .ok [] := rfl
theorem tup_ok {fs : DEnv → Res (List Dat)} {ρ : DEnv} {l : List Dat} (h1 : fs ρ = .ok l) (hl : l.length ≤ 1000) : vTup fs ρ = .ok (.tup l) := by
  unfold vTup; rw [h1]; show (if l.length ≤ 1000 then _ else _) = _; rw [if_pos hl]
theorem lst_ok {fs : DEnv → Res (List Dat)} {ρ : DEnv} {l : List Dat} (h1 : fs ρ = .ok l) (hl : l.length ≤ 1000) : fLst fs ρ = .ok l := by
  unfold fLst; rw [h1]; show (if l.length ≤ 1000 then _ else _) = _; rw [if_pos hl]
theorem vl_ok {f : DEnv → Res (List Dat)} {ρ : DEnv} {l : List Dat} (h1 : f ρ = .ok l) : vL f ρ = .ok (.lst l) := by unfold vL; rw [h1]; rfl
theorem ga_ok {k : List Dat → Res (List Dat)} {fs : DEnv → Res (List Dat)} {ρ : DEnv} {l : List Dat} {r : Res (List Dat)} (h1 : fs ρ = .ok l) (h : k l = r) : gA k fs ρ = r := by unfold gA; rw [h1]; exact h
theorem gs_ok {f : DEnv → Res Dat} {ρ : DEnv} {x : Dat} {r : Res (List Dat)} (h1 : f ρ = .ok x) (h : itemsD x = r) : gSeq f ρ = r := by unfold gSeq; rw [h1]; exact h
theorem test_ok {f : DEnv → Res Dat} {ρ : DEnv} {b : Bool} (h : f ρ = .ok (.bl b)) : vTest f ρ = .ok b := by unfold vTest; rw [h]; rfl
theorem tru_ok {f : DEnv → Res Dat} {ρ : DEnv} {d : Dat} {b : Bool} (h : f ρ = .ok d) (ht : truD d = some b) : vTru f ρ = .ok b := by unfold vTru; rw [h]; show ofO (truD d) = _; rw [ht]; rfl
theorem not_ok {t : DEnv → Res Bool} {ρ : DEnv} {b : Bool} (h : t ρ = .ok b) : vNotT t ρ = .ok (!b) := by unfold vNotT; rw [h]; rfl
theorem or_f {t u : DEnv → Res Bool} {ρ : DEnv} (h : t ρ = .ok false) : vOrT t u ρ = u ρ := by unfold vOrT; rw [h]; rfl
theorem or_t {t u : DEnv → Res Bool} {ρ : DEnv} (h : t ρ = .ok true) : vOrT t u ρ = .ok true := by unfold vOrT; rw [h]; rfl
theorem and_t {t u : DEnv → Res Bool} {ρ : DEnv} (h : t ρ = .ok true) : vAndT t u ρ = u ρ := by unfold vAndT; rw [h]; rfl
theorem and_f {t u : DEnv → Res Bool} {ρ : DEnv} (h : t ρ = .ok false) : vAndT t u ρ = .ok false := by unfold vAndT; rw [h]; rfl
theorem vand_t {t u : DEnv → Res Dat} {ρ : DEnv} (h : t ρ = .ok (.bl true)) : vAnd t u ρ = u ρ := by unfold vAnd; rw [h]; rfl
theorem vand_f {t u : DEnv → Res Dat} {ρ : DEnv} (h : t ρ = .ok (.bl false)) : vAnd t u ρ = .ok (.bl false) := by unfold vAnd; rw [h]; rfl
theorem vor_f {t u : DEnv → Res Dat} {ρ : DEnv} (h : t ρ = .ok (.bl false)) : vOr t u ρ = u ρ := by unfold vOr; rw [h]; rfl
theorem vor_t {t u : DEnv → Res Dat} {ρ : DEnv} (h : t ρ = .ok (.bl true)) : vOr t u ρ = .ok (.bl true) := by unfold vOr; rw [h]; rfl
theorem vif_t {t : DEnv → Res Bool} {f g : DEnv → Res Dat} {ρ : DEnv} (h : t ρ = .ok true) : vIf t f g ρ = f ρ := by unfold vIf; rw [h]; rfl
theorem vif_f {t : DEnv → Res Bool} {f g : DEnv → Res Dat} {ρ : DEnv} (h : t ρ = .ok false) : vIf t f g ρ = g ρ := by unfold vIf; rw [h]; rfl
theorem sl_ok {f : DEnv → Res Dat} {fl fh : DEnv → Res (Option Int)} {ρ : DEnv} {x z : Dat} {l h : Option Int} (h1 : f ρ = .ok x) (h2 : fl ρ = .ok l) (h3 : fh ρ = .ok h) (e : slD x l h = some z) : vSl f fl fh ρ = .ok z := by
  unfold vSl; rw [h1]; show (fl ρ).bind _ = _; rw [h2]; show (fh ρ).bind _ = _; rw [h3]; show ofO (slD x l h) = _; rw [e]; rfl
theorem step_ok {f : DEnv → Res Dat} {fl fh fs : DEnv → Res (Option Int)} {ρ : DEnv} {x z : Dat} {l h s : Option Int} (h1 : f ρ = .ok x) (h2 : fl ρ = .ok l) (h3 : fh ρ = .ok h) (h4 : fs ρ = .ok s) (e : stepK l h s x = some z) : vStep f fl fh fs ρ = .ok z := by
  unfold vStep; rw [h1]; show (fl ρ).bind _ = _; rw [h2]; show (fh ρ).bind _ = _; rw [h3]; show (fs ρ).bind _ = _; rw [h4]; show ofO (stepK l h s x) = _; rw [e]; rfl
theorem os_ok {f : DEnv → Res Dat} {ρ : DEnv} {i : Int} (h : f ρ = .ok (.int i)) : oSome f ρ = .ok (some i) := by unfold oSome; rw [h]; rfl
theorem lc_ok {g : DEnv → Res (List Dat)} {asg : Dat → DEnv → Option DEnv} {vs : List Nat} {t : DEnv → Res Bool} {f : DEnv → Res Dat} {ρ : DEnv} {l : List Dat} {r : Res (List Dat)} (h : g ρ = .ok l) (hl : l.length ≤ 10000000) (hr : lcL asg t f (wipeD ρ vs) l = r) : vLc g asg vs t f ρ = r := by
  unfold vLc; rw [h]; show (if l.length ≤ 10000000 then _ else _) = _; rw [if_pos hl]; exact hr
/-- a comprehension without «if» -/
theorem lcL_map {asg : Dat → DEnv → Option DEnv} {f : DEnv → Res Dat} {ρ : DEnv} {g : Dat → Dat} : ∀ {l : List Dat}, (∀ d ∈ l, ∃ ρ1, asg d ρ = some ρ1 ∧ f ρ1 = .ok (g d)) → lcL asg tYesD f ρ l = .ok (l.map g)
  | [], _ => rfl
  | d :: r, h => by
    obtain ⟨ρ1, e1, e2⟩ := h d (List.mem_cons_self ..)
    have ih := lcL_map (asg := asg) (f := f) (ρ := ρ) (g := g) (l := r) fun e he => h e (List.mem_cons_of_mem _ he)
    unfold lcL
    rw [e1]
    show (noExc (f ρ1)).bind (fun y => (lcL asg tYesD f ρ r).bind fun ys => .ok (y :: ys)) = _
    rw [e2, ih]
    rfl
theorem lcL_of {α : Type} {asg : Dat → DEnv → Option DEnv} {f : DEnv → Res Dat} {ρ : DEnv} {e : α → Dat} {g : α → Dat} {l : List α} (h : ∀ a ∈ l, ∃ ρ1, asg (e a) ρ = some ρ1 ∧ f ρ1 = .ok (g a)) : lcL asg tYesD f ρ (l.map e) = .ok (l.map g) := by
  induction l with
  | nil => rfl
  | cons a r ih =>
    obtain ⟨ρ1, e1, e2⟩ := h a (List.mem_cons_self ..)
    have ih := ih fun e he => h e (List.mem_cons_of_mem _ he)
    rw [List.map_cons, List.map_cons]
    unfold lcL
    rw [e1]
    show (noExc (f ρ1)).bind (fun y => (lcL asg tYesD f ρ (r.map e)).bind fun ys => .ok (y :: ys)) = _
    rw [e2, ih]
    rfl
/-- a loop by its state -/
theorem forL_inv {asg : Dat → DEnv → Option DEnv} {F : DEnv → DFlow} : ∀ {l : List Dat} {ρ : DEnv} (P : Nat → DEnv → Prop), P 0 ρ → (∀ k d ρ, l[k]? = some d → P k ρ → ∃ ρ1 ρ2, asg d ρ = some ρ1 ∧ (F ρ1 = .nx ρ2 ∨ F ρ1 = .ct ρ2) ∧ P (k + 1) ρ2) → ∃ ρ', forL asg F l ρ = .nx ρ' ∧ P l.length ρ'
  | [], ρ, P, h0, _ => ⟨ρ, rfl, h0⟩
  | d :: r, ρ, P, h0, hs => by
    obtain ⟨ρ1, ρ2, e1, e2, p⟩ := hs 0 d ρ rfl h0
    obtain ⟨ρ', e, q⟩ := forL_inv (asg := asg) (F := F) (l := r) (ρ := ρ2) (fun k => P (k + 1)) p fun k d ρ hk hp => hs (k + 1) d ρ (by rw [List.getElem?_cons_succ]; exact hk) hp
    refine ⟨ρ', ?_, by rw [List.length_cons]; exact q⟩
    unfold forL
    rw [e1]
    show (match F ρ1 with | .nx ρ2 => forL asg F r ρ2 | .ct ρ2 => forL asg F r ρ2 | .bk ρ2 => .nx ρ2 | f => f) = _
    rcases e2 with e2 | e2 <;> rw [e2] <;> exact e
/-- … that returns at item m -/
theorem forL_ret {asg : Dat → DEnv → Option DEnv} {F : DEnv → DFlow} {x : Dat} : ∀ {l : List Dat} {ρ : DEnv} {m : Nat} (P : Nat → DEnv → Prop), m < l.length → P 0 ρ → (∀ k d ρ, l[k]? = some d → k < m → P k ρ → ∃ ρ1 ρ2, asg d ρ = some ρ1 ∧ (F ρ1 = .nx ρ2 ∨ F ρ1 = .ct ρ2) ∧ P (k + 1) ρ2) →
    (∀ d ρ, l[m]? = some d → P m ρ → ∃ ρ1, asg d ρ = some ρ1 ∧ F ρ1 = .rt x) → forL asg F l ρ = .rt x
  | [], ρ, m, P, hm, _, _, _ => by cases hm
  | d :: r, ρ, 0, P, hm, h0, _, hr => by
    obtain ⟨ρ1, e1, e2⟩ := hr d ρ rfl h0
    unfold forL
    rw [e1]
    show (match F ρ1 with | .nx ρ2 => forL asg F r ρ2 | .ct ρ2 => forL asg F r ρ2 | .bk ρ2 => .nx ρ2 | f => f) = _
    rw [e2]
  | d :: r, ρ, m + 1, P, hm, h0, hs, hr => by
    obtain ⟨ρ1, ρ2, e1, e2, p⟩ := hs 0 d ρ rfl (Nat.succ_pos _) h0
    have ih := forL_ret (asg := asg) (F := F) (x := x) (l := r) (ρ := ρ2) (m := m) (fun k => P (k + 1)) (by rw [List.length_cons] at hm; omega) p
      (fun k d ρ hk hkm hp => hs (k + 1) d ρ (by rw [List.getElem?_cons_succ]; exact hk) (by omega) hp) fun d ρ hk hp => hr d ρ (by rw [List.getElem?_cons_succ]; exact hk) hp
    unfold forL
    rw [e1]
    show (match F ρ1 with | .nx ρ2 => forL asg F r ρ2 | .ct ρ2 => forL asg F r ρ2 | .bk ρ2 => .nx ρ2 | f => f) = _
    rcases e2 with e2 | e2 <;> rw [e2] <;> exact ih
theorem whileL_t {t : DEnv → Res Bool} {F : DEnv → DFlow} {n : Nat} {ρ ρ2 : DEnv} (h : t ρ = .ok true) (hf : F ρ = .nx ρ2) : whileL t F (n + 1) ρ = whileL t F n ρ2 := by
  show rBind (t ρ) ρ _ = _
  rw [h]
  show (match F ρ with | .nx ρ2 => whileL t F n ρ2 | .ct ρ2 => whileL t F n ρ2 | .bk ρ2 => .nx ρ2 | f => f) = _
  rw [hf]
theorem whileL_f {t : DEnv → Res Bool} {F : DEnv → DFlow} {n : Nat} {ρ : DEnv} (h : t ρ = .ok false) : whileL t F (n + 1) ρ = .nx ρ := by
  show rBind (t ρ) ρ _ = _
  rw [h]
  rfl
theorem run_rt {m : Nat} {F : DEnv → DFlow} {ds : List Dat} {d : Dat} (h : F (startD m ds) = .rt d) : runD m F ds = .ok d := by unfold runD; rw [h]; rfl
theorem run_nx {m : Nat} {F : DEnv → DFlow} {ds : List Dat} {ρ : DEnv} (h : F (startD m ds) = .nx ρ) : runD m F ds = .ok .non := by unfold runD; rw [h]; rfl
theorem rng_get {lo : Int} {n k : Nat} {d : Dat} (h : (rng lo n)[k]? = some d) : k < n ∧ d = .int (lo + k) := by
  unfold rng at h
  rw [List.getElem?_map] at h
  by_cases z : k < n
  · rw [List.getElem?_range z] at h
    exact ⟨z, (Option.some.inj h).symm⟩
  · rw [List.getElem?_eq_none (by rw [List.length_range]; omega)] at h
    cases h
theorem rng_len {lo : Int} {n : Nat} : (rng lo n).length = n := by unfold rng; rw [List.length_map, List.length_range]
end Dl
/-! What the laws draw from the script. -/
namespace Dl
open PySem PySem.Spec PyProof.Rows L2
theorem mul_c {i j : Int} (h : j.natAbs < 2 ^ 64) : mulD (.int i) (.int j) = some (.int (i * j)) := by
  show (if mulOk i j = true then _ else _) = _
  rw [if_pos]
  unfold mulOk
  rw [decide_eq_true h]
  simp
theorem mod_c {i j : Int} (h : 0 < j) : modD (.int i) (.int j) = some (.int (i % j)) := by
  show (modI i j).map _ = _
  unfold modI
  rw [if_pos h]
  rfl
theorem pow1018 : powD (.int 10) (.int 18) = some (.int 1000000000000000000) := by
  show (powI 10 18).map _ = _
  have : powI 10 18 = some 1000000000000000000 := by decide +kernel
  rw [this]
  rfl
theorem fdiv_c {i j : Int} (h : 0 < j) (h2 : j.natAbs.log2 < 9000) : fdivD (.int i) (.int j) = some (.int (i / j)) := by
  show (fdivI i j).map _ = _
  unfold fdivI
  rw [if_pos h, if_pos h2]
  rfl
def Drawn (ds : List Int) : Prop := ∀ d ∈ ds, 0 ≤ d ∧ d < 65521
theorem Drawn.snoc {ds : List Int} {d : Int} (h : Drawn ds) (h1 : 0 ≤ d) (h2 : d < 65521) : Drawn (ds ++ [d]) := fun e he => by
  rcases List.mem_append.mp he with z | z
  · exact h e z
  · rw [List.mem_singleton] at z
    subst z
    exact ⟨h1, h2⟩
theorem app_ok {i : Nat} {f : DEnv → Res Dat} {ρ : DEnv} {d : Dat} {l : List Dat} (hi : ρ[i]? = some (some (.lst l))) (h : f ρ = .ok d) (hl : l.length < 10000000) : sApp i f ρ = .nx (ρ.set i (some (.lst (l ++ [d])))) := by
  unfold sApp
  rw [hi]
  show rBind (f ρ) ρ _ = _
  rw [h]
  show (if l.length < 10000000 then _ else _) = _
  rw [if_pos hl]
/-- the inner loop's turn -/
def G1 : DEnv → DFlow := sIf (vTest (vOp gtD (vVar 5) (vC (.int 0)))) (sSeq (sApp 2 (vOp modD (vCB intD (aCons (vVar 5) (aNil))) (vC (.int 1009)))) (sAsg 5 (vOp fdivD (vVar 5) (vC (.int 1009))))) (sNop)
def G2 : DEnv → DFlow := sSeq (sAsg 5 (vCB absD (aCons (vVar 4) (aNil)))) (sSeq (sAsg 3 (vOp modD (vCB intD (aCons (vOp addD (vOp addD (vOp mulD (vVar 3) (vC (.int 48271))) (vVar 5)) (vC (.int 11))) (aNil))) (vC (.int 2147483647)))) (sIf (vTest (vOp geD (vVar 5) (vOp powD (vC (.int 10)) (vC (.int 18))))) (sFor (gA range1D (aCons (vC (.int 60)) (aNil))) (aName 6) G1) (sApp 2 (vOp modD (vOp fdivD (vCB intD (aCons (vOp addD (vOp mulD (vVar 3) (vC (.int 16807))) (vC (.int 5))) (aNil))) (vC (.int 3))) (vC (.int 65521))))))
def G3 : DEnv → DFlow := sIf (vTest (vOp ltD (vCB lenD (aCons (vVar 2) (aNil))) (vVar 1))) (sSeq (sAsg 3 (vOp modD (vCB intD (aCons (vOp addD (vOp addD (vOp mulD (vVar 3) (vC (.int 69621))) (vVar 6)) (vC (.int 1))) (aNil))) (vC (.int 2147483647)))) (sApp 2 (vOp modD (vOp fdivD (vCB intD (aCons (vVar 3) (aNil))) (vC (.int 7))) (vC (.int 65521))))) (sNop)
def Gd : DEnv → DFlow := sSeq (sAsgO 2 (fLst (aNil))) (sSeq (sAsg 3 (vC (.int 7))) (sSeq (sFor (gSeq (vSl (vVar 0) (oNone) (oSome (vC (.int 63))))) (aName 4) G2) (sSeq (sFor (gA range1D (aCons (vVar 1) (aNil))) (aName 6) G3) (sRet (vSl (vVar 2) (oNone) (oSome (vVar 1)))))))
theorem g1_turn {a b x y : Option Dat} {ds : List Int} {s n : Int} (hd : Drawn ds) (hl : ds.length < 10000000) : ∃ (ds' : List Int) (n' : Int), G1 [a, b, some (.lst (ds.map .int)), some (.int s), x, some (.int n), y] = .nx [a, b, some (.lst (ds'.map .int)), some (.int s), x, some (.int n'), y] ∧ Drawn ds' ∧ ds'.length ≤ ds.length + 1 := by
  by_cases z : 0 < n
  · refine ⟨ds ++ [n % 1009], n / 1009, ?_, hd.snoc (Int.emod_nonneg _ (by decide)) (by have := Int.emod_lt_of_pos n (show (0 : Int) < 1009 by decide); omega), by rw [List.length_append]; exact Nat.le_refl _⟩
    unfold G1
    rw [if_t (by exact test_ok (op_ok (x := .int n) (y := .int 0) rfl rfl (by show some (Dat.bl (decide (0 < n))) = _; rw [decide_eq_true z])))]
    rw [seq_nx (app_ok (l := ds.map .int) rfl (op_ok (x := .int n) (y := .int 1009) rfl rfl (mod_c (by decide))) (by rw [List.length_map]; exact hl))]
    rw [asg_ok (op_ok (x := .int n) (y := .int 1009) rfl rfl (fdiv_c (by decide) (by decide)))]
    rw [List.map_append]
    rfl
  · refine ⟨ds, n, ?_, hd, Nat.le_succ _⟩
    unfold G1
    rw [if_f (by exact test_ok (op_ok (x := .int n) (y := .int 0) rfl rfl (by show some (Dat.bl (decide (0 < n))) = _; rw [decide_eq_false z])))]
    rfl
theorem g2_turn {a b x y : Option Dat} {ds : List Int} {s c : Int} (hd : Drawn ds) (hl : ds.length < 100000) : ∃ (ds' : List Int) (s' n' : Int) (y' : Option Dat), G2 [a, b, some (.lst (ds.map .int)), some (.int s), some (.int c), x, y] = .nx [a, b, some (.lst (ds'.map .int)), some (.int s'), some (.int c), some (.int n'), y'] ∧ Drawn ds' ∧ ds'.length ≤ ds.length + 60 := by
  unfold G2
  have e1 : ∀ G, sSeq (sAsg 5 (vCB absD (aCons (vVar 4) (aNil)))) G [a, b, some (.lst (ds.map .int)), some (.int s), some (.int c), x, y] = G [a, b, some (.lst (ds.map .int)), some (.int s), some (.int c), some (.int (if c < 0 then -c else c)), y] := fun G => seq_nx rfl
  rw [e1]
  generalize (if c < 0 then -c else c) = n
  rw [seq_nx (ρ' := [a, b, some (.lst (ds.map .int)), some (.int ((s * 48271 + n + 11) % 2147483647)), some (.int c), some (.int n), y]) (asg_ok (op_ok (x := .int (s * 48271 + n + 11)) (y := .int 2147483647)
    (cb_ok (ac_ok (op_ok (op_ok (op_ok (x := .int s) (y := .int 48271) rfl rfl (mul_c (by decide))) (y := .int n) rfl rfl) (y := .int 11) rfl rfl) an_ok) rfl) rfl (mod_c (by decide))))]
  generalize (s * 48271 + n + 11) % 2147483647 = s'
  have ht : vTest (vOp geD (vVar 5) (vOp powD (vC (.int 10)) (vC (.int 18)))) [a, b, some (.lst (ds.map .int)), some (.int s'), some (.int c), some (.int n), y] = .ok (decide (1000000000000000000 ≤ n)) :=
    test_ok (op_ok (x := .int n) (y := .int 1000000000000000000) rfl (op_ok (x := .int 10) (y := .int 18) rfl rfl pow1018) rfl)
  by_cases z : 1000000000000000000 ≤ n
  · rw [decide_eq_true z] at ht
    rw [if_t ht, for_ok (l := rng 0 60) rfl]
    obtain ⟨ρ', e, p⟩ := forL_inv (asg := aName 6) (F := G1) (l := rng 0 60) (ρ := [a, b, some (.lst (ds.map .int)), some (.int s'), some (.int c), some (.int n), y])
      (fun k ρ => ∃ (ds' : List Int) (n' : Int) (y' : Option Dat), ρ = [a, b, some (.lst (ds'.map .int)), some (.int s'), some (.int c), some (.int n'), y'] ∧ Drawn ds' ∧ ds'.length ≤ ds.length + k ∧ k ≤ 60) ⟨ds, n, y, rfl, hd, Nat.le_refl _, by decide⟩ fun k d ρ hk hp => by
        obtain ⟨ds', n', y', rfl, h1, h2, h3⟩ := hp
        obtain ⟨ds2, n2, e2, h4, h5⟩ := g1_turn (a := a) (b := b) (x := some (.int c)) (y := some d) (s := s') (n := n') h1 (by omega)
        have hk' := (rng_get hk).1
        exact ⟨_, _, rfl, .inl e2, ds2, n2, _, rfl, h4, by omega, by omega⟩
    obtain ⟨ds', n', y', rfl, h1, h2, h3⟩ := p
    exact ⟨ds', s', n', y', e, h1, by rw [rng_len] at h2; exact h2⟩
  · rw [decide_eq_false z] at ht
    rw [if_f ht]
    refine ⟨ds ++ [(s' * 16807 + 5) / 3 % 65521], s', n, y, ?_, hd.snoc (Int.emod_nonneg _ (by decide)) (Int.emod_lt_of_pos _ (by decide)), by rw [List.length_append, List.length_singleton]; omega⟩
    rw [app_ok (l := ds.map .int) rfl (op_ok (x := .int ((s' * 16807 + 5) / 3)) (y := .int 65521) (op_ok (x := .int (s' * 16807 + 5)) (y := .int 3)
      (cb_ok (ac_ok (op_ok (op_ok (x := .int s') (y := .int 16807) rfl rfl (mul_c (by decide))) (y := .int 5) rfl rfl) an_ok) rfl) rfl (fdiv_c (by decide) (by decide))) rfl (mod_c (by decide))) (by rw [List.length_map]; omega)]
    rw [List.map_append]
    rfl
theorem g3_turn {a x y : Option Dat} {m : Nat} {ds : List Int} {s k : Int} (hd : Drawn ds) (hl : ds.length < 100000) : ∃ (ds' : List Int) (s' : Int), G3 [a, some (.int m), some (.lst (ds.map .int)), some (.int s), x, y, some (.int k)] = .nx [a, some (.int m), some (.lst (ds'.map .int)), some (.int s'), x, y, some (.int k)] ∧ Drawn ds' ∧ (ds.length < m → ds'.length = ds.length + 1) ∧ (m ≤ ds.length → ds'.length = ds.length) := by
  unfold G3
  have ht : vTest (vOp ltD (vCB lenD (aCons (vVar 2) (aNil))) (vVar 1)) [a, some (.int m), some (.lst (ds.map .int)), some (.int s), x, y, some (.int k)] = .ok (decide (((ds.map Dat.int).length : Int) < m)) := rfl
  rw [List.length_map] at ht
  by_cases z : ds.length < m
  · rw [decide_eq_true (by omega)] at ht
    rw [if_t ht]
    refine ⟨ds ++ [(s * 69621 + k + 1) % 2147483647 / 7 % 65521], (s * 69621 + k + 1) % 2147483647, ?_, hd.snoc (Int.emod_nonneg _ (by decide)) (Int.emod_lt_of_pos _ (by decide)), fun _ => by rw [List.length_append]; rfl, fun h => by omega⟩
    rw [seq_nx (ρ' := [a, some (.int m), some (.lst (ds.map .int)), some (.int ((s * 69621 + k + 1) % 2147483647)), x, y, some (.int k)]) (asg_ok (op_ok (x := .int (s * 69621 + k + 1)) (y := .int 2147483647)
      (cb_ok (ac_ok (op_ok (op_ok (op_ok (x := .int s) (y := .int 69621) rfl rfl (mul_c (by decide))) (y := .int k) rfl rfl) (y := .int 1) rfl rfl) an_ok) rfl) rfl (mod_c (by decide))))]
    generalize (s * 69621 + k + 1) % 2147483647 = s'
    rw [app_ok (l := ds.map .int) rfl (op_ok (x := .int (s' / 7)) (y := .int 65521) (op_ok (x := .int s') (y := .int 7)
      (cb_ok (ac_ok rfl an_ok) rfl) rfl (fdiv_c (by decide) (by decide))) rfl (mod_c (by decide))) (by rw [List.length_map]; omega)]
    rw [List.map_append]
    rfl
  · rw [decide_eq_false (by omega)] at ht
    rw [if_f ht]
    exact ⟨ds, s, rfl, hd, fun h => absurd h z, fun _ => rfl⟩
theorem cut_pre {α : Type} (l : List α) (k : Nat) : cutD l none (some (k : Int)) = l.take k := by
  unfold cutD
  rw [HT.sIx_nat]
  show (l.drop 0).take (min k l.length - 0) = _
  rw [List.drop_zero, Nat.sub_zero]
  by_cases z : k ≤ l.length
  · rw [Nat.min_eq_left z]
  · rw [Nat.min_eq_right (by omega), List.take_of_length_le (Nat.le_refl _), List.take_of_length_le (by omega)]
/-- the draws: m numbers below 65521 -/
theorem draws_eq {m : Nat} (hm : m ≤ 10000) (ns : List Int) : ∃ ds : List Int, runD 7 Gd [.frz (ns.map .int), .int m] = .ok (.lst (ds.map .int)) ∧ ds.length = m ∧ Drawn ds := by
  have e0 : startD 7 [.frz (ns.map .int), .int m] = [some (.frz (ns.map .int)), some (.int m), none, none, none, none, none] := rfl
  obtain ⟨ρ', e, ds, s, x, y, z, rfl, h1, h2⟩ := forL_inv (asg := aName 4) (F := G2) (l := (ns.take 63).map .int) (ρ := [some (.frz (ns.map .int)), some (.int m), some (.lst []), some (.int 7), none, none, none])
    (fun k ρ => ∃ (ds : List Int) (s : Int) (x y z : Option Dat), ρ = [some (.frz (ns.map .int)), some (.int m), some (.lst (ds.map .int)), some (.int s), x, y, z] ∧ Drawn ds ∧ ds.length ≤ 60 * k) ⟨[], 7, none, none, none, rfl, (fun _ h => by cases h), Nat.le_refl _⟩ fun k d ρ hk hp => by
      obtain ⟨ds, s, x, y, z, rfl, h1, h2⟩ := hp
      have hk2 : k < 63 := by
        have := (List.getElem?_eq_some_iff.mp hk).1
        rw [List.length_map, List.length_take] at this
        omega
      rw [List.getElem?_map] at hk
      cases q : (ns.take 63)[k]? with
      | none => rw [q] at hk; cases hk
      | some c =>
        rw [q] at hk
        cases hk
        obtain ⟨ds', s', n', y', e2, h3, h4⟩ := g2_turn (a := some (.frz (ns.map .int))) (b := some (.int m)) (x := y) (y := z) (s := s) (c := c) h1 (by omega)
        exact ⟨_, _, rfl, .inl e2, ds', s', _, _, _, rfl, h3, by omega⟩
  have hl : ((ns.take 63).map Dat.int).length ≤ 63 := by rw [List.length_map, List.length_take]; omega
  obtain ⟨ρ2, e2, ds2, s2, x2, y2, z2, rfl, h3, h4, h5, h6⟩ := forL_inv (asg := aName 6) (F := G3) (l := rng 0 m) (ρ := [some (.frz (ns.map .int)), some (.int m), some (.lst (ds.map .int)), some (.int s), x, y, z])
    (fun k ρ => ∃ (ds : List Int) (s : Int) (x y z : Option Dat), ρ = [some (.frz (ns.map .int)), some (.int m), some (.lst (ds.map .int)), some (.int s), x, y, z] ∧ Drawn ds ∧ ds.length ≤ 3780 + k ∧ (k ≤ ds.length ∨ m ≤ ds.length) ∧ k ≤ m) ⟨ds, s, x, y, z, rfl, h1, by omega, .inl (Nat.zero_le _), Nat.zero_le _⟩ fun k d ρ hk hp => by
      obtain ⟨ds, s, x, y, z, rfl, h1, h2, h3, h4⟩ := hp
      obtain ⟨hk', rfl⟩ := rng_get hk
      obtain ⟨ds', s', e2, h5, h6, h7⟩ := g3_turn (a := some (.frz (ns.map .int))) (x := x) (y := y) (m := m) (s := s) (k := 0 + (k : Nat)) h1 (by omega)
      refine ⟨_, _, rfl, .inl e2, ds', s', _, _, _, rfl, h5, ?_, ?_, by omega⟩
      · by_cases z : ds.length < m
        · rw [h6 z]; omega
        · rw [h7 (by omega)]; omega
      · by_cases z : ds.length < m
        · rw [h6 z]; omega
        · rw [h7 (by omega)]; omega
  rw [rng_len] at h4 h5
  refine ⟨ds2.take m, ?_, by rw [List.length_take]; omega, fun d hd => h3 d (List.mem_of_mem_take hd)⟩
  refine run_rt ?_
  rw [e0]
  unfold Gd
  refine (seq_nx (ρ' := [some (.frz (ns.map .int)), some (.int m), some (.lst []), none, none, none, none]) rfl).trans ?_
  refine (seq_nx (ρ' := [some (.frz (ns.map .int)), some (.int m), some (.lst []), some (.int 7), none, none, none]) rfl).trans ?_
  rw [seq_nx (ρ' := [some (.frz (ns.map .int)), some (.int m), some (.lst (ds.map .int)), some (.int s), x, y, z])]
  · rw [seq_nx (ρ' := [some (.frz (ns.map .int)), some (.int m), some (.lst (ds2.map .int)), some (.int s2), x2, y2, z2])]
    · rw [ret_ok (sl_ok (x := .lst (ds2.map .int)) (l := none) (h := some (m : Int)) rfl rfl (os_ok rfl) rfl)]
      rw [cut_pre, List.map_take]
    · rw [for_ok (l := rng 0 m)]
      · exact e2
      · refine ga_ok (ac_ok (x := .int m) rfl an_ok) ?_
        show (if big62 (m : Int) = true then Res.ok (rng 0 (m : Int).toNat) else .stuck) = _
        rw [if_pos, Int.toNat_natCast]
        unfold big62
        rw [decide_eq_true, decide_eq_true] <;> first | rfl | omega
  · rw [for_ok (l := (ns.take 63).map .int)]
    · exact e
    · refine gs_ok (sl_ok (x := .frz (ns.map .int)) (l := none) (h := some ((63 : Nat) : Int)) rfl rfl (os_ok rfl) rfl) ?_
      rw [cut_pre, List.map_take]
      rfl
end Dl
/-! Stepping through the pure functions by rewriting. -/
namespace Dl
open PySem PySem.Spec PyProof.Rows L2

theorem e_v0 {d : Dat} {r : DEnv} : vVar 0 (some d :: r) = .ok d := rfl
theorem e_vS {n : Nat} {x : Option Dat} {r : DEnv} : vVar (n + 1) (x :: r) = vVar n r := rfl
theorem e_vC {d : Dat} {ρ : DEnv} : vC d ρ = .ok d := rfl
theorem e_s0 {x : Option Dat} {r : DEnv} {y : Option Dat} : List.set (x :: r) 0 y = y :: r := rfl
theorem e_sS {x : Option Dat} {r : DEnv} {y : Option Dat} {n : Nat} : List.set (x :: r) (n + 1) y = x :: List.set r n y := rfl
def opK (g : Dat → Dat → Option Dat) : Res Dat → (DEnv → Res Dat) → DEnv → Res Dat := fun x f ρ => x.bind fun x => (f ρ).bind fun y => ofO (g x y)
def opK2 (g : Dat → Dat → Option Dat) (x : Dat) : Res Dat → Res Dat := fun y => y.bind fun y => ofO (g x y)
theorem e_op {g : Dat → Dat → Option Dat} {f1 f2 : DEnv → Res Dat} {ρ : DEnv} : vOp g f1 f2 ρ = opK g (f1 ρ) f2 ρ := rfl
theorem e_op1 {g : Dat → Dat → Option Dat} {x : Dat} {f2 : DEnv → Res Dat} {ρ : DEnv} : opK g (.ok x) f2 ρ = opK2 g x (f2 ρ) := rfl
theorem e_op2 {g : Dat → Dat → Option Dat} {x y : Dat} : opK2 g x (.ok y) = ofO (g x y) := rfl
theorem e_opx {g : Dat → Dat → Option Dat} {c : Nat} {f2 : DEnv → Res Dat} {ρ : DEnv} : opK g (.exc c) f2 ρ = .exc c := rfl
theorem e_opx2 {g : Dat → Dat → Option Dat} {x : Dat} {c : Nat} : opK2 g x (.exc c) = .exc c := rfl
theorem e_some {α : Type} {a : α} : ofO (some a) = .ok a := rfl
def v1K (g : Dat → Option Dat) : Res Dat → Res Dat := fun x => x.bind fun x => ofO (g x)
theorem e_1 {g : Dat → Option Dat} {f : DEnv → Res Dat} {ρ : DEnv} : v1 g f ρ = v1K g (f ρ) := rfl
theorem e_11 {g : Dat → Option Dat} {x : Dat} : v1K g (.ok x) = ofO (g x) := rfl
def tstK : Res Dat → Res Bool := fun x => x.bind fun x => ofO (blOf x)
theorem e_t {f : DEnv → Res Dat} {ρ : DEnv} : vTest f ρ = tstK (f ρ) := rfl
theorem e_t1 {b : Bool} : tstK (.ok (.bl b)) = .ok b := rfl
theorem e_tx {c : Nat} : tstK (.exc c) = .exc c := rfl
def truK : Res Dat → Res Bool := fun x => x.bind fun x => ofO (truD x)
theorem e_tr {f : DEnv → Res Dat} {ρ : DEnv} : vTru f ρ = truK (f ρ) := rfl
theorem e_tr1 {x : Dat} : truK (.ok x) = ofO (truD x) := rfl
theorem e_trx {c : Nat} : truK (.exc c) = .exc c := rfl
theorem e_trb {b : Bool} : truD (.bl b) = some b := rfl
theorem e_trn : truD .non = some false := rfl
def ntK : Res Bool → Res Bool := fun x => x.bind fun x => .ok (!x)
theorem e_nt {f : DEnv → Res Bool} {ρ : DEnv} : vNotT f ρ = ntK (f ρ) := rfl
theorem e_nt1 {b : Bool} : ntK (.ok b) = .ok (!b) := rfl
theorem e_ntx {c : Nat} : ntK (.exc c) = .exc c := rfl
def andTK : Res Bool → (DEnv → Res Bool) → DEnv → Res Bool := fun x g ρ => x.bind fun x => if x = true then g ρ else .ok false
theorem e_and {f g : DEnv → Res Bool} {ρ : DEnv} : vAndT f g ρ = andTK (f ρ) g ρ := rfl
theorem e_andt {g : DEnv → Res Bool} {ρ : DEnv} : andTK (.ok true) g ρ = g ρ := rfl
theorem e_andf {g : DEnv → Res Bool} {ρ : DEnv} : andTK (.ok false) g ρ = .ok false := rfl
theorem e_andx {g : DEnv → Res Bool} {ρ : DEnv} {c : Nat} : andTK (.exc c) g ρ = .exc c := rfl
def orTK : Res Bool → (DEnv → Res Bool) → DEnv → Res Bool := fun x g ρ => x.bind fun x => if x = true then .ok true else g ρ
theorem e_or {f g : DEnv → Res Bool} {ρ : DEnv} : vOrT f g ρ = orTK (f ρ) g ρ := rfl
theorem e_ort {g : DEnv → Res Bool} {ρ : DEnv} : orTK (.ok true) g ρ = .ok true := rfl
theorem e_orf {g : DEnv → Res Bool} {ρ : DEnv} : orTK (.ok false) g ρ = g ρ := rfl
theorem e_orx {g : DEnv → Res Bool} {ρ : DEnv} {c : Nat} : orTK (.exc c) g ρ = .exc c := rfl
def andVK : Res Dat → (DEnv → Res Dat) → DEnv → Res Dat := fun x g ρ => vAnd (fun _ => x) g ρ
theorem e_va {f g : DEnv → Res Dat} {ρ : DEnv} : vAnd f g ρ = andVK (f ρ) g ρ := rfl
theorem e_vat {g : DEnv → Res Dat} {ρ : DEnv} : andVK (.ok (.bl true)) g ρ = g ρ := rfl
theorem e_vaf {g : DEnv → Res Dat} {ρ : DEnv} : andVK (.ok (.bl false)) g ρ = .ok (.bl false) := rfl
theorem e_vax {g : DEnv → Res Dat} {ρ : DEnv} {c : Nat} : andVK (.exc c) g ρ = .exc c := rfl
def orVK : Res Dat → (DEnv → Res Dat) → DEnv → Res Dat := fun x g ρ => vOr (fun _ => x) g ρ
theorem e_vo {f g : DEnv → Res Dat} {ρ : DEnv} : vOr f g ρ = orVK (f ρ) g ρ := rfl
theorem e_vot {g : DEnv → Res Dat} {ρ : DEnv} : orVK (.ok (.bl true)) g ρ = .ok (.bl true) := rfl
theorem e_vof {g : DEnv → Res Dat} {ρ : DEnv} : orVK (.ok (.bl false)) g ρ = g ρ := rfl
theorem e_vox {g : DEnv → Res Dat} {ρ : DEnv} {c : Nat} : orVK (.exc c) g ρ = .exc c := rfl
def vifK : Res Bool → (DEnv → Res Dat) → (DEnv → Res Dat) → DEnv → Res Dat := fun x f g ρ => x.bind fun x => if x = true then f ρ else g ρ
theorem e_vi {t : DEnv → Res Bool} {f g : DEnv → Res Dat} {ρ : DEnv} : vIf t f g ρ = vifK (t ρ) f g ρ := rfl
theorem e_vit {f g : DEnv → Res Dat} {ρ : DEnv} : vifK (.ok true) f g ρ = f ρ := rfl
theorem e_vif {f g : DEnv → Res Dat} {ρ : DEnv} : vifK (.ok false) f g ρ = g ρ := rfl
theorem e_vix {f g : DEnv → Res Dat} {ρ : DEnv} {c : Nat} : vifK (.exc c) f g ρ = .exc c := rfl
def vlK : Res (List Dat) → Res Dat := fun x => x.bind fun l => .ok (.lst l)
theorem e_vl {f : DEnv → Res (List Dat)} {ρ : DEnv} : vL f ρ = vlK (f ρ) := rfl
theorem e_vl1 {l : List Dat} : vlK (.ok l) = .ok (.lst l) := rfl
theorem e_an {ρ : DEnv} : aNil ρ = .ok [] := rfl
def consK : Res Dat → (DEnv → Res (List Dat)) → DEnv → Res (List Dat) := fun x g ρ => x.bind fun x => (g ρ).bind fun l => .ok (x :: l)
def consK2 (x : Dat) : Res (List Dat) → Res (List Dat) := fun y => y.bind fun l => .ok (x :: l)
theorem e_ac {f : DEnv → Res Dat} {g : DEnv → Res (List Dat)} {ρ : DEnv} : aCons f g ρ = consK (f ρ) g ρ := rfl
theorem e_ac1 {x : Dat} {g : DEnv → Res (List Dat)} {ρ : DEnv} : consK (.ok x) g ρ = consK2 x (g ρ) := rfl
theorem e_acx {c : Nat} {g : DEnv → Res (List Dat)} {ρ : DEnv} : consK (.exc c) g ρ = .exc c := rfl
theorem e_ac2 {x : Dat} {l : List Dat} : consK2 x (.ok l) = .ok (x :: l) := rfl
theorem e_acx2 {x : Dat} {c : Nat} : consK2 x (.exc c) = .exc c := rfl
def tupK : Res (List Dat) → Res Dat := fun x => x.bind fun l => if l.length ≤ 1000 then .ok (.tup l) else .stuck
theorem e_tu {f : DEnv → Res (List Dat)} {ρ : DEnv} : vTup f ρ = tupK (f ρ) := rfl
theorem e_tu1 {l : List Dat} (h : l.length ≤ 1000) : tupK (.ok l) = .ok (.tup l) := if_pos h
theorem e_tux {c : Nat} : tupK (.exc c) = .exc c := rfl
def lstK : Res (List Dat) → Res (List Dat) := fun x => x.bind fun l => if l.length ≤ 1000 then .ok l else .stuck
theorem e_ls {f : DEnv → Res (List Dat)} {ρ : DEnv} : fLst f ρ = lstK (f ρ) := rfl
theorem e_ls1 {l : List Dat} (h : l.length ≤ 1000) : lstK (.ok l) = .ok l := if_pos h
def cbK (g : List Dat → Option Dat) : Res (List Dat) → Res Dat := fun x => x.bind fun l => ofO (g l)
theorem e_cb {g : List Dat → Option Dat} {f : DEnv → Res (List Dat)} {ρ : DEnv} : vCB g f ρ = cbK g (f ρ) := rfl
theorem e_cb1 {g : List Dat → Option Dat} {l : List Dat} : cbK g (.ok l) = ofO (g l) := rfl
theorem e_cbx {g : List Dat → Option Dat} {c : Nat} : cbK g (.exc c) = .exc c := rfl
def caK (n : Nat) (F : List Dat → Res Dat) : Res (List Dat) → Res Dat := fun x => x.bind fun l => if l.length = n then F l else .stuck
theorem e_ca {n : Nat} {F : List Dat → Res Dat} {f : DEnv → Res (List Dat)} {ρ : DEnv} : vCall n F f ρ = caK n F (f ρ) := rfl
theorem e_ca_0 {F : List Dat → Res Dat} : caK 0 F (.ok []) = F [] := rfl
theorem e_ca_1 {F : List Dat → Res Dat} {x0 : Dat} : caK 1 F (.ok [x0]) = F [x0] := rfl
theorem e_ca_2 {F : List Dat → Res Dat} {x0 x1 : Dat} : caK 2 F (.ok [x0, x1]) = F [x0, x1] := rfl
theorem e_ca_3 {F : List Dat → Res Dat} {x0 x1 x2 : Dat} : caK 3 F (.ok [x0, x1, x2]) = F [x0, x1, x2] := rfl
theorem e_ca_4 {F : List Dat → Res Dat} {x0 x1 x2 x3 : Dat} : caK 4 F (.ok [x0, x1, x2, x3]) = F [x0, x1, x2, x3] := rfl
theorem e_ca_5 {F : List Dat → Res Dat} {x0 x1 x2 x3 x4 : Dat} : caK 5 F (.ok [x0, x1, x2, x3, x4]) = F [x0, x1, x2, x3, x4] := rfl
theorem e_ca_6 {F : List Dat → Res Dat} {x0 x1 x2 x3 x4 x5 : Dat} : caK 6 F (.ok [x0, x1, x2, x3, x4, x5]) = F [x0, x1, x2, x3, x4, x5] := rfl
theorem e_cax {n : Nat} {F : List Dat → Res Dat} {c : Nat} : caK n F (.exc c) = .exc c := rfl
def chK (g h : Dat → Dat → Option Dat) : Res Dat → (DEnv → Res Dat) → (DEnv → Res Dat) → DEnv → Res Dat := fun x fb fc ρ => vChain g h (fun _ => x) fb fc ρ
def chK2 (g h : Dat → Dat → Option Dat) (x : Dat) : Res Dat → (DEnv → Res Dat) → DEnv → Res Dat := fun y fc ρ => vChain g h (fun _ => .ok x) (fun _ => y) fc ρ
def chK3 (h : Dat → Dat → Option Dat) (y : Dat) : Option Dat → (DEnv → Res Dat) → DEnv → Res Dat := fun z fc ρ => (ofO z).bind fun z => vChainK h fc ρ y z
theorem e_ch {g h : Dat → Dat → Option Dat} {fa fb fc : DEnv → Res Dat} {ρ : DEnv} : vChain g h fa fb fc ρ = chK g h (fa ρ) fb fc ρ := rfl
theorem e_ch1 {g h : Dat → Dat → Option Dat} {x : Dat} {fb fc : DEnv → Res Dat} {ρ : DEnv} : chK g h (.ok x) fb fc ρ = chK2 g h x (fb ρ) fc ρ := rfl
theorem e_ch2 {g h : Dat → Dat → Option Dat} {x y : Dat} {fc : DEnv → Res Dat} {ρ : DEnv} : chK2 g h x (.ok y) fc ρ = chK3 h y (g x y) fc ρ := rfl
theorem e_ch3 {h : Dat → Dat → Option Dat} {y : Dat} {fc : DEnv → Res Dat} {ρ : DEnv} : chK3 h y (some (.bl true)) fc ρ = opK2 h y (fc ρ) := rfl
theorem e_ch4 {h : Dat → Dat → Option Dat} {y : Dat} {fc : DEnv → Res Dat} {ρ : DEnv} : chK3 h y (some (.bl false)) fc ρ = .ok (.bl false) := rfl
def slK (x : Res Dat) (l h : Res (Option Int)) : Res Dat := x.bind fun x => l.bind fun l => h.bind fun h => ofO (slD x l h)
theorem e_sl {f : DEnv → Res Dat} {fl fh : DEnv → Res (Option Int)} {ρ : DEnv} : vSl f fl fh ρ = slK (f ρ) (fl ρ) (fh ρ) := rfl
theorem e_sl1 {x : Dat} {l h : Option Int} : slK (.ok x) (.ok l) (.ok h) = ofO (slD x l h) := rfl
theorem e_slt {x : List Dat} {l h : Option Int} : slD (.tup x) l h = some (.tup (cutD x l h)) := rfl
theorem e_sll {x : List Dat} {l h : Option Int} : slD (.lst x) l h = some (.lst (cutD x l h)) := rfl
theorem e_slf {x : List Dat} {l h : Option Int} : slD (.frz x) l h = some (.lst (cutD x l h)) := rfl
def stK (x : Res Dat) (l h s : Res (Option Int)) : Res Dat := x.bind fun x => l.bind fun l => h.bind fun h => s.bind fun s => ofO (stepK l h s x)
theorem e_st {f : DEnv → Res Dat} {fl fh fs : DEnv → Res (Option Int)} {ρ : DEnv} : vStep f fl fh fs ρ = stK (f ρ) (fl ρ) (fh ρ) (fs ρ) := rfl
theorem e_st1 {x : Dat} {l h s : Option Int} : stK (.ok x) (.ok l) (.ok h) (.ok s) = ofO (stepK l h s x) := rfl
def osK : Res Dat → Res (Option Int) := fun x => x.bind oInt
theorem e_os {f : DEnv → Res Dat} {ρ : DEnv} : oSome f ρ = osK (f ρ) := rfl
theorem e_os1 {i : Int} : osK (.ok (.int i)) = .ok (some i) := rfl
theorem e_on {ρ : DEnv} : oNone ρ = .ok none := rfl
def gaK (k : List Dat → Res (List Dat)) : Res (List Dat) → Res (List Dat) := fun x => x.bind k
theorem e_ga {k : List Dat → Res (List Dat)} {f : DEnv → Res (List Dat)} {ρ : DEnv} : gA k f ρ = gaK k (f ρ) := rfl
theorem e_ga1 {k : List Dat → Res (List Dat)} {l : List Dat} : gaK k (.ok l) = k l := rfl
def gsK : Res Dat → Res (List Dat) := fun x => x.bind itemsD
theorem e_gs {f : DEnv → Res Dat} {ρ : DEnv} : gSeq f ρ = gsK (f ρ) := rfl
theorem e_gst {l : List Dat} : gsK (.ok (.tup l)) = .ok l := rfl
theorem e_gsl {l : List Dat} : gsK (.ok (.lst l)) = .ok l := rfl
theorem e_gsf {l : List Dat} : gsK (.ok (.frz l)) = .ok l := rfl
def geK : Res Dat → Res (List Dat) := fun x => x.bind enumK
theorem e_ge {f : DEnv → Res Dat} {ρ : DEnv} : gEnum f ρ = geK (f ρ) := rfl
theorem e_get {l : List Dat} : geK (.ok (.tup l)) = .ok (numD l) := rfl
theorem e_r1 {b : Nat} (h : b < 2 ^ 40) : range1D [.int (b : Int)] = .ok (rng 0 b) := by
  show (if big62 (b : Int) = true then Res.ok (rng 0 (b : Int).toNat) else .stuck) = _
  rw [if_pos, Int.toNat_natCast]
  unfold big62
  rw [decide_eq_true, decide_eq_true] <;> first | rfl | omega
theorem e_r1i {b : Int} (h : b < 2 ^ 40) (h2 : - 2 ^ 40 < b) : range1D [.int b] = .ok (rng 0 b.toNat) := by
  show (if big62 (b : Int) = true then Res.ok (rng 0 (b : Int).toNat) else .stuck) = _
  rw [if_pos]
  unfold big62
  rw [decide_eq_true, decide_eq_true] <;> first | rfl | omega
theorem e_r2i {a b : Int} (ha : a < 2 ^ 40) (ha2 : -2 ^ 40 < a) (hb : b < 2 ^ 40) (hb2 : -2 ^ 40 < b) : range2D [.int a, .int b] = .ok (rng a (b - a).toNat) := by
  show (if (big62 a && big62 b) = true then Res.ok (rng a (b - a).toNat) else .stuck) = _
  rw [if_pos]
  unfold big62
  rw [decide_eq_true, decide_eq_true, decide_eq_true, decide_eq_true] <;> first | rfl | omega
theorem fits_of {i : Int} (h : i < 2 ^ 62) (h2 : -2 ^ 62 < i) : Builtin.Range.rangeFitsLong i = true := by
  unfold Builtin.Range.rangeFitsLong
  rw [Bool.and_eq_true, decide_eq_true_iff, decide_eq_true_iff]
  omega
theorem e_r3 {i j c : Int} (hc : 0 < c) (hc2 : c < 1073741824) (hi : i < 2 ^ 40) (hi2 : -2 ^ 40 < i) (hj : j < 2 ^ 40) (hj2 : -2 ^ 40 < j) : range3D [.int i, .int j, .int c] = .ok (rngC i c (if i < j then (j - i - 1) / c + 1 else 0).toNat) := by
  have e : Builtin.Range.rangeSize i j c = if i < j then (j - i - 1) / c + 1 else 0 := by
    unfold Builtin.Range.rangeSize
    rw [if_pos (by omega)]
  have b : 0 ≤ (if i < j then (j - i - 1) / c + 1 else 0) ∧ (if i < j then (j - i - 1) / c + 1 else 0) < 2 ^ 42 := by
    by_cases z : i < j
    · rw [if_pos z]
      have h1 : 0 ≤ (j - i - 1) / c := Int.ediv_nonneg (by omega) (by omega)
      have h2 : (j - i - 1) / c ≤ j - i - 1 := Int.ediv_le_self _ (by omega)
      omega
    · rw [if_neg z]
      omega
  have hs : Builtin.Range.small i j c = true := by
    unfold Builtin.Range.small
    rw [e, fits_of (by omega) (by omega), fits_of (by omega) (by omega), fits_of (by omega) (by omega), fits_of (by omega) (by omega), fits_of (by omega) (by omega)]
    simp
    exact .inr (.inl hc)
  show (if (decide (c ≠ 0) && decide (c.natAbs < 1073741824) && Builtin.Range.small i j c) = true then Res.ok (rngC i c (Builtin.Range.rangeSize i j c).toNat) else .stuck) = _
  rw [hs, decide_eq_true (by omega), decide_eq_true (by omega), e]
  rfl
def lcK (asg : Dat → DEnv → Option DEnv) (vs : List Nat) (t : DEnv → Res Bool) (f : DEnv → Res Dat) (ρ : DEnv) : Res (List Dat) → Res (List Dat) := fun x => x.bind fun items => if items.length ≤ 10000000 then lcL asg t f (wipeD ρ vs) items else .stuck
theorem e_lc {g : DEnv → Res (List Dat)} {asg : Dat → DEnv → Option DEnv} {vs : List Nat} {t : DEnv → Res Bool} {f : DEnv → Res Dat} {ρ : DEnv} : vLc g asg vs t f ρ = lcK asg vs t f ρ (g ρ) := rfl
theorem e_lc1 {asg : Dat → DEnv → Option DEnv} {vs : List Nat} {t : DEnv → Res Bool} {f : DEnv → Res Dat} {ρ : DEnv} {l : List Dat} (h : l.length ≤ 10000000) : lcK asg vs t f ρ (.ok l) = lcL asg t f (wipeD ρ vs) l := if_pos h
theorem e_wp0 {ρ : DEnv} : wipeD ρ [] = ρ := rfl
theorem e_wp1 {ρ : DEnv} {v : Nat} {vs : List Nat} : wipeD ρ (v :: vs) = (wipeD ρ vs).set v none := rfl
theorem e_gn {i : Nat} {d : Dat} {ρ : DEnv} : aName i d ρ = some (ρ.set i (some d)) := rfl
theorem e_gt {g : List Dat → DEnv → Option DEnv} {l : List Dat} {ρ : DEnv} : aTup g (.tup l) ρ = g l ρ := rfl
theorem e_gl {g : List Dat → DEnv → Option DEnv} {l : List Dat} {ρ : DEnv} : aTup g (.lst l) ρ = g l ρ := rfl
def asK (g : List Dat → DEnv → Option DEnv) (r : List Dat) : Option DEnv → Option DEnv := fun x => x.bind fun ρ => g r ρ
theorem e_gc {f : Dat → DEnv → Option DEnv} {g : List Dat → DEnv → Option DEnv} {d : Dat} {r : List Dat} {ρ : DEnv} : asCons f g (d :: r) ρ = asK g r (f d ρ) := rfl
theorem e_gc1 {g : List Dat → DEnv → Option DEnv} {r : List Dat} {ρ : DEnv} : asK g r (some ρ) = g r ρ := rfl
theorem e_g0 {ρ : DEnv} : asNil [] ρ = some ρ := rfl
def seqK : DFlow → (DEnv → DFlow) → DFlow
  | .nx ρ, G => G ρ
  | f, _ => f
theorem e_seq {F G : DEnv → DFlow} {ρ : DEnv} : sSeq F G ρ = seqK (F ρ) G := by unfold sSeq seqK; cases F ρ <;> rfl
theorem e_seqn {G : DEnv → DFlow} {ρ : DEnv} : seqK (.nx ρ) G = G ρ := rfl
theorem e_seqr {G : DEnv → DFlow} {d : Dat} : seqK (.rt d) G = .rt d := rfl
theorem e_seqx {G : DEnv → DFlow} {ρ : DEnv} {c : Nat} : seqK (.ex c ρ) G = .ex c ρ := rfl
theorem e_seqc {G : DEnv → DFlow} {ρ : DEnv} : seqK (.ct ρ) G = .ct ρ := rfl
theorem e_seqb {G : DEnv → DFlow} {ρ : DEnv} : seqK (.bk ρ) G = .bk ρ := rfl
theorem e_nop {ρ : DEnv} : sNop ρ = .nx ρ := rfl
theorem e_brk {ρ : DEnv} : sBreak ρ = .bk ρ := rfl
theorem e_cnt {ρ : DEnv} : sCont ρ = .ct ρ := rfl
theorem e_rai {ρ : DEnv} {c : Nat} : sRaise c ρ = .ex c ρ := rfl
def asgK (i : Nat) (ρ : DEnv) : Res Dat → DFlow := fun x => rBind x ρ fun d => .nx (ρ.set i (some d))
theorem e_asg {i : Nat} {f : DEnv → Res Dat} {ρ : DEnv} : sAsg i f ρ = asgK i ρ (f ρ) := rfl
theorem e_asg1 {i : Nat} {ρ : DEnv} {d : Dat} : asgK i ρ (.ok d) = .nx (ρ.set i (some d)) := rfl
theorem e_asgx {i : Nat} {ρ : DEnv} {c : Nat} : asgK i ρ (.exc c) = .ex c ρ := rfl
def asgOK (i : Nat) (ρ : DEnv) : Res (List Dat) → DFlow := fun x => rBind x ρ fun d => .nx (ρ.set i (some (.lst d)))
theorem e_asgO {i : Nat} {f : DEnv → Res (List Dat)} {ρ : DEnv} : sAsgO i f ρ = asgOK i ρ (f ρ) := rfl
theorem e_asgO1 {i : Nat} {ρ : DEnv} {d : List Dat} : asgOK i ρ (.ok d) = .nx (ρ.set i (some (.lst d))) := rfl
def tgK : Option DEnv → DFlow
  | some ρ' => .nx ρ'
  | none => .stuck
def asgTK (asg : Dat → DEnv → Option DEnv) (ρ : DEnv) : Res Dat → DFlow := fun x => rBind x ρ fun d => tgK (asg d ρ)
theorem e_asgT {asg : Dat → DEnv → Option DEnv} {f : DEnv → Res Dat} {ρ : DEnv} : sAsgT asg f ρ = asgTK asg ρ (f ρ) := rfl
theorem e_asgT1 {asg : Dat → DEnv → Option DEnv} {ρ : DEnv} {d : Dat} : asgTK asg ρ (.ok d) = tgK (asg d ρ) := rfl
theorem e_asgTx {asg : Dat → DEnv → Option DEnv} {ρ : DEnv} {c : Nat} : asgTK asg ρ (.exc c) = .ex c ρ := rfl
theorem e_tg {ρ : DEnv} : tgK (some ρ) = .nx ρ := rfl
def parK (i j : Nat) (ρ : DEnv) : Res Dat → (DEnv → Res Dat) → DFlow := fun x g => rBind x ρ fun d => rBind (g ρ) ρ fun e => .nx ((ρ.set i (some d)).set j (some e))
def parK2 (i j : Nat) (ρ : DEnv) (d : Dat) : Res Dat → DFlow := fun x => rBind x ρ fun e => .nx ((ρ.set i (some d)).set j (some e))
theorem e_par {i j : Nat} {f g : DEnv → Res Dat} {ρ : DEnv} : sPar i j f g ρ = parK i j ρ (f ρ) g := rfl
theorem e_par1 {i j : Nat} {g : DEnv → Res Dat} {ρ : DEnv} {d : Dat} : parK i j ρ (.ok d) g = parK2 i j ρ d (g ρ) := rfl
theorem e_par2 {i j : Nat} {ρ : DEnv} {d e : Dat} : parK2 i j ρ d (.ok e) = .nx ((ρ.set i (some d)).set j (some e)) := rfl
def parOK (i j : Nat) (ρ : DEnv) : Res (List Dat) → (DEnv → Res Dat) → DFlow := fun x g => rBind x ρ fun d => rBind (g ρ) ρ fun e => .nx ((ρ.set i (some (.lst d))).set j (some e))
theorem e_parO {i j : Nat} {f : DEnv → Res (List Dat)} {g : DEnv → Res Dat} {ρ : DEnv} : sParO i j f g ρ = parOK i j ρ (f ρ) g := rfl
theorem e_parO1 {i j : Nat} {g : DEnv → Res Dat} {ρ : DEnv} {d : List Dat} : parOK i j ρ (.ok d) g = parK2 i j ρ (.lst d) (g ρ) := rfl
def dropK (ρ : DEnv) : Res Dat → DFlow := fun x => rBind x ρ fun _ => .nx ρ
theorem e_drop {f : DEnv → Res Dat} {ρ : DEnv} : sDrop f ρ = dropK ρ (f ρ) := rfl
theorem e_drop1 {ρ : DEnv} {d : Dat} : dropK ρ (.ok d) = .nx ρ := rfl
theorem e_dropx {ρ : DEnv} {c : Nat} : dropK ρ (.exc c) = .ex c ρ := rfl
def retK (ρ : DEnv) : Res Dat → DFlow := fun x => rBind x ρ .rt
theorem e_ret {f : DEnv → Res Dat} {ρ : DEnv} : sRet f ρ = retK ρ (f ρ) := rfl
theorem e_ret1 {ρ : DEnv} {d : Dat} : retK ρ (.ok d) = .rt d := rfl
theorem e_retx {ρ : DEnv} {c : Nat} : retK ρ (.exc c) = .ex c ρ := rfl
theorem e_retN {ρ : DEnv} : sRetN ρ = .rt .non := rfl
def ifK (ρ : DEnv) : Res Bool → (DEnv → DFlow) → (DEnv → DFlow) → DFlow := fun x F G => rBind x ρ fun b => if b = true then F ρ else G ρ
theorem e_if {t : DEnv → Res Bool} {F G : DEnv → DFlow} {ρ : DEnv} : sIf t F G ρ = ifK ρ (t ρ) F G := rfl
theorem e_ift {F G : DEnv → DFlow} {ρ : DEnv} : ifK ρ (.ok true) F G = F ρ := rfl
theorem e_iff {F G : DEnv → DFlow} {ρ : DEnv} : ifK ρ (.ok false) F G = G ρ := rfl
theorem e_ifx {F G : DEnv → DFlow} {ρ : DEnv} {c : Nat} : ifK ρ (.exc c) F G = .ex c ρ := rfl
def augK (i : Nat) (g : Dat → Dat → Option Dat) (ρ : DEnv) : Res Dat → Res Dat → DFlow
  | .ok d, e => rBind e ρ fun e => match g d e with
    | some z => .nx (ρ.set i (some z))
    | none => .stuck
  | _, _ => .stuck
def augK2 (i : Nat) (ρ : DEnv) : Option Dat → DFlow
  | some z => .nx (ρ.set i (some z))
  | none => .stuck
theorem vVar_eq {i : Nat} {ρ : DEnv} : vVar i ρ = (match ρ[i]? with
  | some (some d) => .ok d
  | _ => .stuck) := by
  unfold vVar
  rcases ρ[i]? with _ | _ | d <;> rfl
theorem e_aug {i : Nat} {g : Dat → Dat → Option Dat} {f : DEnv → Res Dat} {ρ : DEnv} : sAug i g f ρ = augK i g ρ (vVar i ρ) (f ρ) := by unfold sAug; rw [vVar_eq]; rcases ρ[i]? with _ | _ | d <;> rfl
theorem e_aug1 {i : Nat} {g : Dat → Dat → Option Dat} {ρ : DEnv} {d e : Dat} : augK i g ρ (.ok d) (.ok e) = augK2 i ρ (g d e) := by show (match g d e with | some z => DFlow.nx (ρ.set i (some z)) | none => .stuck) = _; cases g d e <;> rfl
theorem e_aug2 {i : Nat} {ρ : DEnv} {z : Dat} : augK2 i ρ (some z) = .nx (ρ.set i (some z)) := rfl
def appK (i : Nat) (ρ : DEnv) : Res Dat → Res Dat → DFlow
  | .ok (.lst l), e => rBind e ρ fun d => if l.length < 10000000 then .nx (ρ.set i (some (.lst (l ++ [d])))) else .stuck
  | _, _ => .stuck
theorem e_app {i : Nat} {f : DEnv → Res Dat} {ρ : DEnv} : sApp i f ρ = appK i ρ (vVar i ρ) (f ρ) := by unfold sApp; rw [vVar_eq]; rcases ρ[i]? with _ | _ | d <;> first | rfl | (cases d <;> rfl)
theorem e_app1 {i : Nat} {ρ : DEnv} {l : List Dat} {d : Dat} (h : l.length < 10000000) : appK i ρ (.ok (.lst l)) (.ok d) = .nx (ρ.set i (some (.lst (l ++ [d])))) := if_pos h
def exK (i : Nat) (ρ : DEnv) : Res Dat → Res Dat → DFlow
  | .ok (.lst l), e => rBind e ρ (extK i l ρ)
  | _, _ => .stuck
theorem e_ext {i : Nat} {f : DEnv → Res Dat} {ρ : DEnv} : sExt i f ρ = exK i ρ (vVar i ρ) (f ρ) := by unfold sExt; rw [vVar_eq]; rcases ρ[i]? with _ | _ | d <;> first | rfl | (cases d <;> rfl)
theorem e_ext1 {i : Nat} {ρ : DEnv} {l m : List Dat} (h : l.length + m.length ≤ 10000000) : exK i ρ (.ok (.lst l)) (.ok (.lst m)) = .nx (ρ.set i (some (.lst (l ++ m)))) := if_pos h
def siK (i : Nat) (ρ : DEnv) : Res Dat → Res Dat → (DEnv → Res Dat) → DFlow
  | .ok d, .ok (.lst l), fi => rBind (fi ρ) ρ (setK i l ρ d)
  | .ok d, _, _ => .stuck
  | .exc c, _, _ => .ex c ρ
  | .stuck, _, _ => .stuck
def siK2 (i : Nat) (ρ : DEnv) (d : Dat) (l : List Dat) : Option Nat → DFlow
  | some j => .nx (ρ.set i (some (.lst (l.set j d))))
  | none => .stuck
def siK3 (i : Nat) (ρ : DEnv) (d : Dat) (l : List Dat) : Res Dat → DFlow := fun x => rBind x ρ (setK i l ρ d)
theorem e_si {i : Nat} {fi f : DEnv → Res Dat} {ρ : DEnv} : sSetI i fi f ρ = siK i ρ (f ρ) (vVar i ρ) fi := by unfold sSetI; rw [vVar_eq]; cases f ρ <;> first | rfl | (rcases ρ[i]? with _ | _ | d <;> first | rfl | (cases d <;> rfl))
theorem e_si1 {i : Nat} {fi : DEnv → Res Dat} {ρ : DEnv} {d : Dat} {l : List Dat} : siK i ρ (.ok d) (.ok (.lst l)) fi = siK3 i ρ d l (fi ρ) := rfl
theorem e_si2 {i : Nat} {ρ : DEnv} {d : Dat} {l : List Dat} {n : Int} : siK3 i ρ d l (.ok (.int n)) = siK2 i ρ d l (ixN l.length n) := by show (match ixN l.length n with | some j => DFlow.nx (ρ.set i (some (.lst (l.set j d)))) | none => .stuck) = _; cases ixN l.length n <;> rfl
theorem e_si3 {i : Nat} {ρ : DEnv} {d : Dat} {l : List Dat} {j : Nat} : siK2 i ρ d l (some j) = .nx (ρ.set i (some (.lst (l.set j d)))) := rfl
def popK (i : Nat) (asg : Dat → DEnv → Option DEnv) (ρ : DEnv) : Res Dat → DFlow
  | .ok (.lst l) => (match l.getLast? with
    | some d => tgK (asg d (ρ.set i (some (.lst l.dropLast))))
    | none => .stuck)
  | _ => .stuck
theorem e_pop {i : Nat} {asg : Dat → DEnv → Option DEnv} {ρ : DEnv} : sPopT i asg ρ = popK i asg ρ (vVar i ρ) := by
  unfold sPopT; rw [vVar_eq]
  rcases ρ[i]? with _ | _ | d <;> first | rfl | skip
  cases d <;> first | rfl | skip
theorem e_pop1 {i : Nat} {asg : Dat → DEnv → Option DEnv} {ρ : DEnv} {l : List Dat} {d : Dat} : popK i asg ρ (.ok (.lst (l ++ [d]))) = tgK (asg d (ρ.set i (some (.lst l)))) := by show (match (l ++ [d]).getLast? with | some d => _ | none => DFlow.stuck) = _; rw [List.getLast?_concat]; show tgK (asg d (ρ.set i (some (.lst (l ++ [d]).dropLast)))) = _; rw [List.dropLast_concat]
def forK (asg : Dat → DEnv → Option DEnv) (F : DEnv → DFlow) (ρ : DEnv) : Res (List Dat) → DFlow := fun x => rBind x ρ fun items => forL asg F items ρ
theorem e_for {g : DEnv → Res (List Dat)} {asg : Dat → DEnv → Option DEnv} {F : DEnv → DFlow} {ρ : DEnv} : sFor g asg F ρ = forK asg F ρ (g ρ) := rfl
theorem e_for1 {asg : Dat → DEnv → Option DEnv} {F : DEnv → DFlow} {ρ : DEnv} {l : List Dat} : forK asg F ρ (.ok l) = forL asg F l ρ := rfl
theorem e_whl {n : Nat} {t : DEnv → Res Bool} {F : DEnv → DFlow} {ρ : DEnv} : sWhile n t F ρ = whileL t F n ρ := rfl
def fsK (asg : Dat → DEnv → Option DEnv) (F : DEnv → DFlow) (r : List Dat) : DFlow → DFlow
  | .nx ρ2 => forL asg F r ρ2
  | .ct ρ2 => forL asg F r ρ2
  | .bk ρ2 => .nx ρ2
  | f => f
def ftK (asg : Dat → DEnv → Option DEnv) (F : DEnv → DFlow) (r : List Dat) : Option DEnv → DFlow
  | none => .stuck
  | some ρ1 => fsK asg F r (F ρ1)
def wsK (t : DEnv → Res Bool) (F : DEnv → DFlow) (n : Nat) : DFlow → DFlow
  | .nx ρ2 => whileL t F n ρ2
  | .ct ρ2 => whileL t F n ρ2
  | .bk ρ2 => .nx ρ2
  | f => f
def wtK (t : DEnv → Res Bool) (F : DEnv → DFlow) (n : Nat) (ρ : DEnv) : Res Bool → DFlow
  | .ok true => wsK t F n (F ρ)
  | .ok false => .nx ρ
  | .exc c => .ex c ρ
  | .stuck => .stuck
theorem u_for {asg : Dat → DEnv → Option DEnv} {F : DEnv → DFlow} {d : Dat} {r : List Dat} {ρ : DEnv} : forL asg F (d :: r) ρ = ftK asg F r (asg d ρ) := by
  unfold forL ftK
  cases asg d ρ with
  | none => rfl
  | some ρ1 =>
    show (match F ρ1 with | .nx ρ2 => forL asg F r ρ2 | .ct ρ2 => forL asg F r ρ2 | .bk ρ2 => .nx ρ2 | f => f) = fsK asg F r (F ρ1)
    unfold fsK
    cases F ρ1 <;> rfl
theorem u_whl {n : Nat} {t : DEnv → Res Bool} {F : DEnv → DFlow} {ρ : DEnv} : whileL t F (n + 1) ρ = wtK t F n ρ (t ρ) := by
  show rBind (t ρ) ρ _ = _
  rcases t ρ with (_ | _) | _ | _ <;> try rfl
theorem e_fl0 {asg : Dat → DEnv → Option DEnv} {F : DEnv → DFlow} {ρ : DEnv} : forL asg F [] ρ = .nx ρ := rfl
theorem e_ft {asg : Dat → DEnv → Option DEnv} {F : DEnv → DFlow} {r : List Dat} {ρ : DEnv} : ftK asg F r (some ρ) = fsK asg F r (F ρ) := rfl
theorem e_fsn {asg : Dat → DEnv → Option DEnv} {F : DEnv → DFlow} {r : List Dat} {ρ : DEnv} : fsK asg F r (.nx ρ) = forL asg F r ρ := rfl
theorem e_fsc {asg : Dat → DEnv → Option DEnv} {F : DEnv → DFlow} {r : List Dat} {ρ : DEnv} : fsK asg F r (.ct ρ) = forL asg F r ρ := rfl
theorem e_fsb {asg : Dat → DEnv → Option DEnv} {F : DEnv → DFlow} {r : List Dat} {ρ : DEnv} : fsK asg F r (.bk ρ) = .nx ρ := rfl
theorem e_fsr {asg : Dat → DEnv → Option DEnv} {F : DEnv → DFlow} {r : List Dat} {d : Dat} : fsK asg F r (.rt d) = .rt d := rfl
theorem e_fsx {asg : Dat → DEnv → Option DEnv} {F : DEnv → DFlow} {r : List Dat} {c : Nat} {ρ : DEnv} : fsK asg F r (.ex c ρ) = .ex c ρ := rfl
theorem e_wtt {t : DEnv → Res Bool} {F : DEnv → DFlow} {n : Nat} {ρ : DEnv} : wtK t F n ρ (.ok true) = wsK t F n (F ρ) := rfl
theorem e_wtf {t : DEnv → Res Bool} {F : DEnv → DFlow} {n : Nat} {ρ : DEnv} : wtK t F n ρ (.ok false) = .nx ρ := rfl
theorem e_wsn {t : DEnv → Res Bool} {F : DEnv → DFlow} {n : Nat} {ρ : DEnv} : wsK t F n (.nx ρ) = whileL t F n ρ := rfl
theorem e_wsc {t : DEnv → Res Bool} {F : DEnv → DFlow} {n : Nat} {ρ : DEnv} : wsK t F n (.ct ρ) = whileL t F n ρ := rfl
theorem e_wsb {t : DEnv → Res Bool} {F : DEnv → DFlow} {n : Nat} {ρ : DEnv} : wsK t F n (.bk ρ) = .nx ρ := rfl
theorem e_wsr {t : DEnv → Res Bool} {F : DEnv → DFlow} {n : Nat} {d : Dat} : wsK t F n (.rt d) = .rt d := rfl
theorem e_wsx {t : DEnv → Res Bool} {F : DEnv → DFlow} {n : Nat} {c : Nat} {ρ : DEnv} : wsK t F n (.ex c ρ) = .ex c ρ := rfl
def tryK (hs : HdL) : DFlow → DFlow := fun f => sTryM (fun _ => f) hs []
theorem e_try {F : DEnv → DFlow} {hs : HdL} {ρ : DEnv} : sTryM F hs ρ = tryK hs (F ρ) := rfl
theorem e_tryn {hs : HdL} {ρ : DEnv} : tryK hs (.nx ρ) = .nx ρ := rfl
theorem e_tryr {hs : HdL} {d : Dat} : tryK hs (.rt d) = .rt d := rfl
theorem e_tryc {hs : HdL} {ρ : DEnv} : tryK hs (.ct ρ) = .ct ρ := rfl
def try1K (m : Nat → Bool) (G : DEnv → DFlow) : DFlow → DFlow := fun f => sTry m (fun _ => f) G []
theorem e_try1 {m : Nat → Bool} {F G : DEnv → DFlow} {ρ : DEnv} : sTry m F G ρ = try1K m G (F ρ) := rfl
theorem e_try1n {m : Nat → Bool} {G : DEnv → DFlow} {ρ : DEnv} : try1K m G (.nx ρ) = .nx ρ := rfl
theorem e_try1r {m : Nat → Bool} {G : DEnv → DFlow} {d : Dat} : try1K m G (.rt d) = .rt d := rfl
theorem e_run {m : Nat} {F : DEnv → DFlow} {ds : List Dat} : runD m F ds = endD (F (startD m ds)) := rfl
theorem e_endn {ρ : DEnv} : endD (.nx ρ) = .ok .non := rfl
theorem e_endr {d : Dat} : endD (.rt d) = .ok d := rfl
theorem e_endx {c : Nat} {ρ : DEnv} : endD (.ex c ρ) = .exc c := rfl
theorem e_sta1 {m : Nat} {d : Dat} {ds : List Dat} : startD (m + 1) (d :: ds) = some d :: startD m ds := by unfold startD; rw [List.length_cons, show m + 1 - (ds.length + 1) = m - ds.length by omega]; rfl
theorem e_sta2 {m : Nat} : startD (m + 1) [] = none :: startD m [] := rfl
theorem e_sta3 : startD 0 [] = [] := rfl
theorem l_eqb {a b : Int} : (a == b) = decide (a = b) := by
  by_cases h : a = b
  · subst h; simp
  · rw [decide_eq_false h]; exact beq_eq_false_iff_ne.mpr h
theorem l_eq {a b : Int} : eqD (.int a) (.int b) = some (.bl (decide (a = b))) := by show some (Dat.bl (a == b)) = _; rw [l_eqb]
theorem l_ne {a b : Int} : neD (.int a) (.int b) = some (.bl (!decide (a = b))) := by show some (Dat.bl (!(a == b))) = _; rw [l_eqb]
theorem l_eqbb {a b : Bool} : eqD (.bl a) (.bl b) = some (.bl (a == b)) := rfl
theorem l_nebb {a b : Bool} : neD (.bl a) (.bl b) = some (.bl (!(a == b))) := rfl
theorem l_lt {a b : Int} : ltD (.int a) (.int b) = some (.bl (decide (a < b))) := rfl
theorem l_le {a b : Int} : leD (.int a) (.int b) = some (.bl (decide (a ≤ b))) := rfl
theorem l_gt {a b : Int} : gtD (.int a) (.int b) = some (.bl (decide (b < a))) := rfl
theorem l_ge {a b : Int} : geD (.int a) (.int b) = some (.bl (decide (b ≤ a))) := rfl
theorem l_add {a b : Int} : addD (.int a) (.int b) = some (.int (a + b)) := rfl
theorem l_addt {a b : List Dat} (h : a.length + b.length ≤ 100000) : addD (.tup a) (.tup b) = some (.tup (a ++ b)) := if_pos (Nat.le_trans h (by decide))
theorem l_addl {a b : List Dat} (h : a.length + b.length ≤ 100000) : addD (.lst a) (.lst b) = some (.lst (a ++ b)) := if_pos (Nat.le_trans h (by decide))
theorem l_sub {a b : Int} : subD (.int a) (.int b) = some (.int (a - b)) := rfl
theorem l_neg {a : Int} : negD (.int a) = some (.int (-a)) := rfl
theorem l_mod {i j : Int} (h : 0 < j) : modD (.int i) (.int j) = some (.int (i % j)) := mod_c h
theorem l_fdiv {i j : Int} (h : 0 < j) (h2 : j < 18446744073709551616) : fdivD (.int i) (.int j) = some (.int (i / j)) := by
  refine fdiv_c h ?_
  by_cases z : j.natAbs = 0
  · rw [z]; decide
  · exact Nat.lt_trans ((Nat.log2_lt z).mpr (show j.natAbs < 2 ^ 64 by omega)) (by decide)
theorem l_mul {i j : Int} (h : j < 18446744073709551616) (h2 : -18446744073709551616 < j) : mulD (.int i) (.int j) = some (.int (i * j)) := mul_c (by omega)
theorem l_mul2 {i j : Int} (h : i < 18446744073709551616) (h2 : -18446744073709551616 < i) : mulD (.int i) (.int j) = some (.int (i * j)) := by
  show (if mulOk i j = true then _ else _) = _
  rw [if_pos]
  unfold mulOk
  rw [decide_eq_true (show i.natAbs < 2 ^ 64 by omega)]
  rfl
theorem l_iadd {a b : Int} : iaddD (.int a) (.int b) = some (.int (a + b)) := rfl
theorem l_not {b : Bool} : notD (.bl b) = some (.bl (!b)) := rfl
theorem l_len1 {l : List Dat} : lenD [.tup l] = some (.int l.length) := rfl
theorem l_len2 {l : List Dat} : lenD [.lst l] = some (.int l.length) := rfl
theorem l_len3 {l : List Dat} : lenD [.frz l] = some (.int l.length) := rfl
theorem l_int {i : Int} : intD [.int i] = some (.int i) := rfl
theorem l_intb {b : Bool} : intD [.bl b] = some (.int (if b then 1 else 0)) := rfl
theorem l_tup1 {l : List Dat} : tupleD [.lst l] = some (.tup l) := rfl
theorem l_tup2 {l : List Dat} : tupleD [.tup l] = some (.tup l) := rfl
theorem l_lst1 {l : List Dat} : listD [.tup l] = some (.lst l) := rfl
theorem l_lst2 {l : List Dat} : listD [.lst l] = some (.lst l) := rfl
theorem l_max {i j : Int} : max2D [.int i, .int j] = some (.int (if j > i then j else i)) := rfl
theorem l_min {i j : Int} : min2D [.int i, .int j] = some (.int (if j < i then j else i)) := rfl
theorem l_ixt0 {a : Dat} {l : List Dat} : ixD (.tup (a :: l)) (.int 0) = some a := by
  show atI (a :: l) ((0 : Nat) : Int) = _
  unfold atI ixN
  rw [if_pos (by omega), if_pos (by rw [List.length_cons]; omega)]
  rfl
theorem l_ixt1 {a b : Dat} {l : List Dat} : ixD (.tup (a :: b :: l)) (.int 1) = some b := by
  show atI (a :: b :: l) ((1 : Nat) : Int) = _
  unfold atI ixN
  rw [if_pos (by omega), if_pos (by rw [List.length_cons, List.length_cons]; omega)]
  rfl
theorem l_ixt2 {a b c : Dat} {l : List Dat} : ixD (.tup (a :: b :: c :: l)) (.int 2) = some c := by
  show atI (a :: b :: c :: l) ((2 : Nat) : Int) = _
  unfold atI ixN
  rw [if_pos (by omega), if_pos (by rw [List.length_cons, List.length_cons, List.length_cons]; omega)]
  rfl
theorem l_ixtl {a : Dat} {l : List Dat} : ixD (.tup (l ++ [a])) (.int (-1)) = some a := by
  show atI (l ++ [a]) (-1) = _
  unfold atI ixN
  rw [if_neg (by omega), if_pos (by rw [List.length_append]; simp; omega)]
  rw [show ((-1 : Int) + ((l ++ [a]).length : Nat)).toNat = l.length by rw [List.length_append]; simp; omega]
  simp
theorem l_ixl0 {a : Dat} {l : List Dat} : ixD (.lst (a :: l)) (.int 0) = some a := by
  show atI (a :: l) ((0 : Nat) : Int) = _
  unfold atI ixN
  rw [if_pos (by omega), if_pos (by rw [List.length_cons]; omega)]
  rfl
theorem l_ixl1 {a b : Dat} {l : List Dat} : ixD (.lst (a :: b :: l)) (.int 1) = some b := by
  show atI (a :: b :: l) ((1 : Nat) : Int) = _
  unfold atI ixN
  rw [if_pos (by omega), if_pos (by rw [List.length_cons, List.length_cons]; omega)]
  rfl
theorem l_ixl2 {a b c : Dat} {l : List Dat} : ixD (.lst (a :: b :: c :: l)) (.int 2) = some c := by
  show atI (a :: b :: c :: l) ((2 : Nat) : Int) = _
  unfold atI ixN
  rw [if_pos (by omega), if_pos (by rw [List.length_cons, List.length_cons, List.length_cons]; omega)]
  rfl
theorem l_ixll {a : Dat} {l : List Dat} : ixD (.lst (l ++ [a])) (.int (-1)) = some a := by
  show atI (l ++ [a]) (-1) = _
  unfold atI ixN
  rw [if_neg (by omega), if_pos (by rw [List.length_append]; simp; omega)]
  rw [show ((-1 : Int) + ((l ++ [a]).length : Nat)).toNat = l.length by rw [List.length_append]; simp; omega]
  simp
theorem l_isn_bl {b : Bool} : isND (.bl b) .non = some (.bl false) := rfl
theorem l_inn_bl {b : Bool} : notND (.bl b) .non = some (.bl true) := rfl
theorem l_ty_int_bl {b : Bool} : isiD "int" (.bl b) = some (.bl true) := rfl
theorem l_ty_bool_bl {b : Bool} : isiD "bool" (.bl b) = some (.bl true) := rfl
theorem l_ty_str_bl {b : Bool} : isiD "str" (.bl b) = some (.bl false) := rfl
theorem l_ty_tuple_bl {b : Bool} : isiD "tuple" (.bl b) = some (.bl false) := rfl
theorem l_ty_list_bl {b : Bool} : isiD "list" (.bl b) = some (.bl false) := rfl
theorem l_isn_int {i : Int} : isND (.int i) .non = some (.bl false) := rfl
theorem l_inn_int {i : Int} : notND (.int i) .non = some (.bl true) := rfl
theorem l_ty_int_int {i : Int} : isiD "int" (.int i) = some (.bl true) := rfl
theorem l_ty_bool_int {i : Int} : isiD "bool" (.int i) = some (.bl false) := rfl
theorem l_ty_str_int {i : Int} : isiD "str" (.int i) = some (.bl false) := rfl
theorem l_ty_tuple_int {i : Int} : isiD "tuple" (.int i) = some (.bl false) := rfl
theorem l_ty_list_int {i : Int} : isiD "list" (.int i) = some (.bl false) := rfl
theorem l_isn_str {s : Str} : isND (.str s) .non = some (.bl false) := rfl
theorem l_inn_str {s : Str} : notND (.str s) .non = some (.bl true) := rfl
theorem l_ty_int_str {s : Str} : isiD "int" (.str s) = some (.bl false) := rfl
theorem l_ty_bool_str {s : Str} : isiD "bool" (.str s) = some (.bl false) := rfl
theorem l_ty_str_str {s : Str} : isiD "str" (.str s) = some (.bl true) := rfl
theorem l_ty_tuple_str {s : Str} : isiD "tuple" (.str s) = some (.bl false) := rfl
theorem l_ty_list_str {s : Str} : isiD "list" (.str s) = some (.bl false) := rfl
theorem l_isn_tup {l : List Dat} : isND (.tup l) .non = some (.bl false) := rfl
theorem l_inn_tup {l : List Dat} : notND (.tup l) .non = some (.bl true) := rfl
theorem l_ty_int_tup {l : List Dat} : isiD "int" (.tup l) = some (.bl false) := rfl
theorem l_ty_bool_tup {l : List Dat} : isiD "bool" (.tup l) = some (.bl false) := rfl
theorem l_ty_str_tup {l : List Dat} : isiD "str" (.tup l) = some (.bl false) := rfl
theorem l_ty_tuple_tup {l : List Dat} : isiD "tuple" (.tup l) = some (.bl true) := rfl
theorem l_ty_list_tup {l : List Dat} : isiD "list" (.tup l) = some (.bl false) := rfl
theorem l_isn_lst {l : List Dat} : isND (.lst l) .non = some (.bl false) := rfl
theorem l_inn_lst {l : List Dat} : notND (.lst l) .non = some (.bl true) := rfl
theorem l_ty_int_lst {l : List Dat} : isiD "int" (.lst l) = some (.bl false) := rfl
theorem l_ty_bool_lst {l : List Dat} : isiD "bool" (.lst l) = some (.bl false) := rfl
theorem l_ty_str_lst {l : List Dat} : isiD "str" (.lst l) = some (.bl false) := rfl
theorem l_ty_tuple_lst {l : List Dat} : isiD "tuple" (.lst l) = some (.bl false) := rfl
theorem l_ty_list_lst {l : List Dat} : isiD "list" (.lst l) = some (.bl true) := rfl
theorem l_isn_non  : isND (.non) .non = some (.bl true) := rfl
theorem l_inn_non  : notND (.non) .non = some (.bl false) := rfl
theorem l_ty_int_non  : isiD "int" (.non) = some (.bl false) := rfl
theorem l_ty_bool_non  : isiD "bool" (.non) = some (.bl false) := rfl
theorem l_ty_str_non  : isiD "str" (.non) = some (.bl false) := rfl
theorem l_ty_tuple_non  : isiD "tuple" (.non) = some (.bl false) := rfl
theorem l_ty_list_non  : isiD "list" (.non) = some (.bl false) := rfl
theorem d_t {p : Prop} [Decidable p] (h : p) : decide p = true := decide_eq_true h
theorem d_f {p : Prop} [Decidable p] (h : ¬p) : decide p = false := decide_eq_false h
theorem rngC_len {lo c : Int} {n : Nat} : (rngC lo c n).length = n := by unfold rngC; rw [List.length_map, List.length_range]
theorem forL_inv' {asg : Dat → DEnv → Option DEnv} {F : DEnv → DFlow} {l : List Dat} {ρ : DEnv} {r : DFlow} (hF : forL asg F l ρ = r) (P : Nat → DEnv → Prop) (h0 : P 0 ρ) (hs : ∀ k d ρ, l[k]? = some d → P k ρ → ∃ ρ1 ρ2, asg d ρ = some ρ1 ∧ (F ρ1 = .nx ρ2 ∨ F ρ1 = .ct ρ2) ∧ P (k + 1) ρ2) : ∃ ρ', r = .nx ρ' ∧ P l.length ρ' := by
  obtain ⟨ρ', e, p⟩ := forL_inv P h0 hs
  exact ⟨ρ', hF.symm.trans e, p⟩
theorem forL_ret' {asg : Dat → DEnv → Option DEnv} {F : DEnv → DFlow} {x : Dat} {l : List Dat} {ρ : DEnv} {r : DFlow} (hF : forL asg F l ρ = r) {m : Nat} (P : Nat → DEnv → Prop) (hm : m < l.length) (h0 : P 0 ρ) (hs : ∀ k d ρ, l[k]? = some d → k < m → P k ρ → ∃ ρ1 ρ2, asg d ρ = some ρ1 ∧ (F ρ1 = .nx ρ2 ∨ F ρ1 = .ct ρ2) ∧ P (k + 1) ρ2)
    (hr : ∀ d ρ, l[m]? = some d → P m ρ → ∃ ρ1, asg d ρ = some ρ1 ∧ F ρ1 = .rt x) : r = .rt x := hF.symm.trans (forL_ret P hm h0 hs hr)
theorem lcL_of' {α : Type} {asg : Dat → DEnv → Option DEnv} {f : DEnv → Res Dat} {ρ : DEnv} {e : α → Dat} {l : List α} {r : Res (List Dat)} (hL : lcL asg tYesD f ρ (l.map e) = r) (g : α → Dat) (h : ∀ a ∈ l, ∃ ρ1, asg (e a) ρ = some ρ1 ∧ f ρ1 = .ok (g a)) : r = .ok (l.map g) := hL.symm.trans (lcL_of h)
theorem rngC_get {lo c : Int} {n k : Nat} {d : Dat} (h : (rngC lo c n)[k]? = some d) : k < n ∧ d = .int (lo + k * c) := by
  unfold rngC at h
  rw [List.getElem?_map] at h
  by_cases z : k < n
  · rw [List.getElem?_range z] at h
    exact ⟨z, (Option.some.inj h).symm⟩
  · rw [List.getElem?_eq_none (by rw [List.length_range]; omega)] at h
    cases h

def numF : Nat → List Dat → List Dat
  | _, [] => []
  | k, d :: r => .tup [.int (k : Nat), d] :: numF (k + 1) r
theorem numF_get : ∀ (l : List Dat) (k i : Nat), (numF k l)[i]? = l[i]?.map fun d => .tup [.int ((k + i : Nat)), d]
  | [], k, i => rfl
  | d :: r, k, 0 => rfl
  | d :: r, k, i + 1 => by
    show (numF (k + 1) r)[i]? = _
    rw [numF_get r, List.getElem?_cons_succ, show k + 1 + i = k + (i + 1) by omega]
theorem num_from (l : List Dat) : numD l = numF 0 l := by
  refine List.ext_getElem? fun i => ?_
  unfold numD
  rw [numF_get, List.getElem?_map]
  by_cases h : i < l.length
  · rw [List.getElem?_range h, Nat.zero_add]
    show some (Dat.tup [Dat.int (i : Nat), l[i]?.getD .non]) = _
    rw [List.getElem?_eq_getElem h]
    rfl
  · rw [List.getElem?_eq_none (by rw [List.length_range]; omega), List.getElem?_eq_none (by omega)]
    rfl
theorem boolsT {α : Type} (l : List α) : boolsD (l.map fun _ => Dat.bl true) = some (l.map fun _ => true) := by
  induction l with
  | nil => rfl
  | cons a r ih =>
    show (boolsD (r.map fun _ => Dat.bl true)).map _ = _
    rw [ih]
    rfl
theorem allT {α : Type} (l : List α) : allD [.lst (l.map fun _ => Dat.bl true)] = some (.bl true) := by
  show (boolsD _).map _ = _
  rw [boolsT]
  show some (Dat.bl ((l.map fun _ => true).all id)) = _
  rw [List.all_map]
  congr 2
  rw [List.all_eq_true]
  exact fun _ _ => rfl
def drw (ds : List Int) (k : Nat) : Int := ds[k]?.getD 0
theorem l_at {ds : List Int} {j : Int} (h0 : 0 ≤ j) (h1 : j < ds.length) : ixD (.lst (ds.map .int)) (.int j) = some (.int (drw ds j.toNat)) := by
  show atI _ j = _
  unfold atI ixN drw
  rw [if_pos h0, if_pos (by rw [List.length_map]; exact h1)]
  show (ds.map Dat.int)[j.toNat]? = _
  rw [List.getElem?_map, List.getElem?_eq_getElem (by omega)]
  rfl
theorem drw_bd {ds : List Int} (h : Drawn ds) (k : Nat) : 0 ≤ drw ds k ∧ drw ds k < 65521 := by
  unfold drw
  cases q : ds[k]? with
  | none => decide
  | some d => exact h d (List.mem_of_getElem? q)
end Dl
namespace Lw
open PySem PySem.Spec PyProof.Rows L2 Dl
def top (i : Nat) : Stmt := PySem.Challenge.pw_creasewrit_k57_whole_long_windows.main.body.getD i (.Pass ⟨0, 0, 0, 0⟩)
abbrev s_is_whole : Stmt := top 6
abbrev N_is_whole : List Str := ["value", "least", "most"]
def F_is_whole : DEnv → DFlow := sRet (vAnd (v1 (isiD "int") (vVar 0)) (vAnd (v1 notD (v1 (isiD "bool") (vVar 0))) (vChain leD leD (vVar 1) (vVar 0) (vVar 2))))
def D_is_whole : List Dat → Res Dat := runD 3 F_is_whole
abbrev s_are_creases : Stmt := top 8
abbrev N_are_creases : List Str := ["row", "one"]
def F_are_creases : DEnv → DFlow := sRet (vAnd (v1 (isiD "tuple") (vVar 0)) (vCB allD (aCons (vL (vLc (gSeq (vVar 0)) (aName 1) [1] (tYesD) (vAnd (v1 (isiD "str") (vVar 1)) (vOp (inD false) (vVar 1) (vTup (aCons (vC (.str "M")) (aCons (vC (.str "V")) (aNil)))))))) (aNil))))
def D_are_creases : List Dat → Res Dat := runD 2 F_are_creases
abbrev s__check_row : Stmt := top 11
abbrev N__check_row : List Str := ["row"]
def F__check_row : DEnv → DFlow := sIf (vOrT (vNotT (vTru (vCall 1 D_are_creases (aCons (vVar 0) (aNil))))) (vTest (vOp gtD (vCB lenD (aCons (vVar 0) (aNil))) (vC (.int 200))))) (sRaise 1) (sNop)
def D__check_row : List Dat → Res Dat := runD 1 F__check_row
abbrev s__clash : Stmt := top 12
abbrev N__clash : List Str := ["row", "beginning", "place"]
def F__clash : DEnv → DFlow := sSeq (sFor (gA range3D (aCons (vVar 1) (aCons (vOp subD (vCB lenD (aCons (vVar 0) (aNil))) (vC (.int 2))) (aCons (vC (.int 2)) (aNil))))) (aName 2) (sIf (vTest (vOp eqD (vOp ixD (vVar 0) (vVar 2)) (vOp ixD (vVar 0) (vOp addD (vVar 2) (vC (.int 2)))))) (sRet (vVar 2)) (sNop))) (sRet (vC .non))
def D__clash : List Dat → Res Dat := runD 3 F__clash
abbrev s__searched : Stmt := top 13
abbrev N__searched : List Str := ["row", "items", "beginning", "place", "fine", "found"]
def F__searched (rec : List Dat → Res Dat) : DEnv → DFlow := sSeq (sIf (vTest (vOp eqD (vCB lenD (aCons (vVar 0) (aNil))) (vC (.int 0)))) (sRet (vTup (aCons (vC (.bl true)) (aCons (vTup (aNil)) (aNil))))) (sNop)) (sSeq (sAsgO 1 (fLst (aNil))) (sSeq (sFor (gSeq (vTup (aCons (vC (.int 0)) (aCons (vC (.int 1)) (aNil))))) (aName 2) (sSeq (sAsg 3 (vCall 2 D__clash (aCons (vVar 0) (aCons (vVar 2) (aNil))))) (sIf (vTest (vOp notND (vVar 3) (vC .non))) (sApp 1 (vTup (aCons (vC (.str "clash")) (aCons (vVar 3) (aNil))))) (sSeq (sAsgT (aTup (asCons (aName 4) (asCons (aName 5) (asNil)))) (vCall 1 rec (aCons (vStep (vVar 0) (oSome (vOp subD (vC (.int 1)) (vVar 2))) (oNone) (oSome (vC (.int 2)))) (aNil)))) (sSeq (sIf (vTru (vVar 4)) (sRet (vTup (aCons (vC (.bl true)) (aCons (vOp addD (vTup (aCons (vVar 2) (aNil))) (vVar 5)) (aNil))))) (sNop)) (sApp 1 (vTup (aCons (vC (.str "rest")) (aCons (vVar 5) (aNil)))))))))) (sRet (vTup (aCons (vC (.bl false)) (aCons (vCB tupleD (aCons (vVar 1) (aNil))) (aNil)))))))
def R__searched : Nat → List Dat → Res Dat
  | 0 => fun _ => .stuck
  | k + 1 => runD 6 (F__searched (R__searched k))
def D__searched : List Dat → Res Dat := R__searched 40
abbrev s_window_of : Stmt := top 14
abbrev N_window_of : List Str := ["row", "fine", "found"]
def F_window_of : DEnv → DFlow := sSeq (sDrop (vCall 1 D__check_row (aCons (vVar 0) (aNil)))) (sSeq (sAsgT (aTup (asCons (aName 1) (asCons (aName 2) (asNil)))) (vCall 1 D__searched (aCons (vVar 0) (aNil)))) (sRet (vIf (vTru (vVar 1)) (vTup (aCons (vC (.str "window")) (aCons (vVar 2) (aNil)))) (vTup (aCons (vC (.str "none")) (aCons (vVar 2) (aNil)))))))
def D_window_of : List Dat → Res Dat := runD 3 F_window_of
abbrev s_window_fault : Stmt := top 15
abbrev N_window_fault : List Str := ["row", "beginnings", "left", "number", "beginning", "one"]
def F_window_fault : DEnv → DFlow := sSeq (sDrop (vCall 1 D__check_row (aCons (vVar 0) (aNil)))) (sSeq (sIf (vOrT (vNotT (vTru (v1 (isiD "tuple") (vVar 1)))) (vNotT (vTru (vCB allD (aCons (vL (vLc (gSeq (vVar 1)) (aName 5) [5] (tYesD) (vCall 3 D_is_whole (aCons (vVar 5) (aCons (vC (.int 0)) (aCons (vC (.int 1)) (aNil))))))) (aNil)))))) (sRet (vC (.str "form"))) (sNop)) (sSeq (sAsg 2 (vCB lenD (aCons (vVar 0) (aNil)))) (sSeq (sFor (gEnum (vVar 1)) (aTup (asCons (aName 3) (asCons (aName 4) (asNil)))) (sSeq (sIf (vTest (vOp eqD (vVar 2) (vC (.int 0)))) (sRet (vC (.str "form"))) (sNop)) (sAsg 2 (vOp fdivD (vOp addD (vVar 2) (vVar 4)) (vC (.int 2)))))) (sSeq (sIf (vTest (vOp gtD (vVar 2) (vC (.int 0)))) (sRet (vC (.str "form"))) (sNop)) (sSeq (sFor (gEnum (vVar 1)) (aTup (asCons (aName 3) (asCons (aName 4) (asNil)))) (sSeq (sIf (vTest (vOp notND (vCall 2 D__clash (aCons (vVar 0) (aCons (vVar 4) (aNil)))) (vC .non))) (sRet (vVar 3)) (sNop)) (sAsg 0 (vStep (vVar 0) (oSome (vOp subD (vC (.int 1)) (vVar 4))) (oNone) (oSome (vC (.int 2))))))) (sRet (vC .non)))))))
def D_window_fault : List Dat → Res Dat := runD 6 F_window_fault
abbrev s_none_fault : Stmt := top 16
abbrev N_none_fault : List Str := ["row", "paper", "waits", "path", "here", "item", "beginning", "rest"]
def F_none_fault : DEnv → DFlow := sSeq (sDrop (vCall 1 D__check_row (aCons (vVar 0) (aNil)))) (sSeq (sIf (vOrT (vNotT (vTru (v1 (isiD "tuple") (vVar 1)))) (vTest (vOp neD (vCB lenD (aCons (vVar 1) (aNil))) (vC (.int 2))))) (sRet (vTup (aNil))) (sNop)) (sSeq (sAsgO 2 (fLst (aCons (vTup (aCons (vTup (aCons (vC (.int 1)) (aNil))) (aCons (vVar 0) (aCons (vOp ixD (vVar 1) (vC (.int 1))) (aNil))))) (aCons (vTup (aCons (vTup (aCons (vC (.int 0)) (aNil))) (aCons (vVar 0) (aCons (vOp ixD (vVar 1) (vC (.int 0))) (aNil))))) (aNil))))) (sSeq (sWhile 1000000 (vTest (vOp gtD (vCB lenD (aCons (vVar 2) (aNil))) (vC (.int 0)))) (sSeq (sPopT 2 (aTup (asCons (aName 3) (asCons (aName 4) (asCons (aName 5) (asNil)))))) (sSeq (sIf (vOrT (vNotT (vTru (v1 (isiD "tuple") (vVar 5)))) (vOrT (vTest (vOp neD (vCB lenD (aCons (vVar 5) (aNil))) (vC (.int 2)))) (vNotT (vTru (v1 (isiD "str") (vOp ixD (vVar 5) (vC (.int 0)))))))) (sRet (vVar 3)) (sNop)) (sSeq (sAsg 6 (vOp ixD (vVar 3) (v1 negD (vC (.int 1))))) (sIf (vTest (vOp eqD (vOp ixD (vVar 5) (vC (.int 0))) (vC (.str "clash")))) (sSeq (sIf (vOrT (vNotT (vTru (vCall 3 D_is_whole (aCons (vOp ixD (vVar 5) (vC (.int 1))) (aCons (vC (.int 0)) (aCons (vOp subD (vCB lenD (aCons (vVar 4) (aNil))) (vC (.int 3))) (aNil))))))) (vTest (vOp neD (vOp modD (vOp ixD (vVar 5) (vC (.int 1))) (vC (.int 2))) (vVar 6)))) (sRet (vVar 3)) (sNop)) (sIf (vTest (vOp neD (vOp ixD (vVar 4) (vOp ixD (vVar 5) (vC (.int 1)))) (vOp ixD (vVar 4) (vOp addD (vOp ixD (vVar 5) (vC (.int 1))) (vC (.int 2)))))) (sRet (vVar 3)) (sNop))) (sIf (vAndT (vTest (vOp eqD (vOp ixD (vVar 5) (vC (.int 0))) (vC (.str "rest")))) (vAndT (vTru (v1 (isiD "tuple") (vOp ixD (vVar 5) (vC (.int 1))))) (vAndT (vTest (vOp eqD (vCB lenD (aCons (vOp ixD (vVar 5) (vC (.int 1))) (aNil))) (vC (.int 2)))) (vTest (vOp gtD (vCB lenD (aCons (vVar 4) (aNil))) (vC (.int 0))))))) (sSeq (sAsg 7 (vStep (vVar 4) (oSome (vOp subD (vC (.int 1)) (vVar 6))) (oNone) (oSome (vC (.int 2))))) (sSeq (sApp 2 (vTup (aCons (vOp addD (vVar 3) (vTup (aCons (vC (.int 1)) (aNil)))) (aCons (vVar 7) (aCons (vOp ixD (vOp ixD (vVar 5) (vC (.int 1))) (vC (.int 1))) (aNil)))))) (sApp 2 (vTup (aCons (vOp addD (vVar 3) (vTup (aCons (vC (.int 0)) (aNil)))) (aCons (vVar 7) (aCons (vOp ixD (vOp ixD (vVar 5) (vC (.int 1))) (vC (.int 0))) (aNil)))))))) (sRet (vVar 3)))))))) (sRet (vC .non)))))
def D_none_fault : List Dat → Res Dat := runD 8 F_none_fault
abbrev s__law_draws : Stmt := top 18
abbrev N__law_draws : List Str := ["script", "many", "draws", "seed", "cell", "number", "k"]
def F__law_draws : DEnv → DFlow := sSeq (sAsgO 2 (fLst (aNil))) (sSeq (sAsg 3 (vC (.int 7))) (sSeq (sFor (gSeq (vSl (vVar 0) (oNone) (oSome (vC (.int 63))))) (aName 4) (sSeq (sAsg 5 (vCB absD (aCons (vVar 4) (aNil)))) (sSeq (sAsg 3 (vOp modD (vCB intD (aCons (vOp addD (vOp addD (vOp mulD (vVar 3) (vC (.int 48271))) (vVar 5)) (vC (.int 11))) (aNil))) (vC (.int 2147483647)))) (sIf (vTest (vOp geD (vVar 5) (vOp powD (vC (.int 10)) (vC (.int 18))))) (sFor (gA range1D (aCons (vC (.int 60)) (aNil))) (aName 6) (sIf (vTest (vOp gtD (vVar 5) (vC (.int 0)))) (sSeq (sApp 2 (vOp modD (vCB intD (aCons (vVar 5) (aNil))) (vC (.int 1009)))) (sAsg 5 (vOp fdivD (vVar 5) (vC (.int 1009))))) (sNop))) (sApp 2 (vOp modD (vOp fdivD (vCB intD (aCons (vOp addD (vOp mulD (vVar 3) (vC (.int 16807))) (vC (.int 5))) (aNil))) (vC (.int 3))) (vC (.int 65521)))))))) (sSeq (sFor (gA range1D (aCons (vVar 1) (aNil))) (aName 6) (sIf (vTest (vOp ltD (vCB lenD (aCons (vVar 2) (aNil))) (vVar 1))) (sSeq (sAsg 3 (vOp modD (vCB intD (aCons (vOp addD (vOp addD (vOp mulD (vVar 3) (vC (.int 69621))) (vVar 6)) (vC (.int 1))) (aNil))) (vC (.int 2147483647)))) (sApp 2 (vOp modD (vOp fdivD (vCB intD (aCons (vVar 3) (aNil))) (vC (.int 7))) (vC (.int 65521))))) (sNop))) (sRet (vSl (vVar 2) (oNone) (oSome (vVar 1)))))))
def D__law_draws : List Dat → Res Dat := runD 7 F__law_draws
abbrev s__law_folds : Stmt := top 19
abbrev N__law_folds : List Str := ["draws", "most", "k"]
def F__law_folds : DEnv → DFlow := sRet (vCB tupleD (aCons (vL (vLc (gA range1D (aCons (vOp modD (vCB intD (aCons (vOp ixD (vVar 0) (vC (.int 0))) (aNil))) (vOp addD (vVar 1) (vC (.int 1)))) (aNil))) (aName 2) [2] (tYesD) (vOp ixD (vL (fLst (aCons (vC (.str "over")) (aCons (vC (.str "under")) (aNil))))) (vOp modD (vOp fdivD (vCB intD (aCons (vOp ixD (vVar 0) (vOp addD (vC (.int 1)) (vVar 2))) (aNil))) (vC (.int 3))) (vC (.int 2)))))) (aNil)))
def D__law_folds : List Dat → Res Dat := runD 3 F__law_folds
abbrev s__law_row : Stmt := top 20
abbrev N__law_row : List Str := ["folds", "row", "fold", "longer", "sign", "k"]
def F__law_row : DEnv → DFlow := sSeq (sAsg 1 (vL (fLst (aNil)))) (sSeq (sFor (gSeq (vVar 0)) (aName 2) (sSeq (sParO 3 4 (fLst (aNil)) (vOp ixD (vL (fLst (aCons (vC (.str "V")) (aCons (vC (.str "M")) (aNil))))) (vCB intD (aCons (vOp eqD (vVar 2) (vC (.str "under"))) (aNil))))) (sSeq (sFor (gA range1D (aCons (vOp addD (vCB lenD (aCons (vVar 1) (aNil))) (vC (.int 1))) (aNil))) (aName 5) (sSeq (sApp 3 (vVar 4)) (sSeq (sAsg 4 (vOp ixD (vL (fLst (aCons (vC (.str "V")) (aCons (vC (.str "M")) (aNil))))) (vCB intD (aCons (vOp eqD (vVar 4) (vC (.str "V"))) (aNil))))) (sExt 3 (vSl (vVar 1) (oSome (vVar 5)) (oSome (vOp addD (vVar 5) (vC (.int 1))))))))) (sAsg 1 (vVar 3))))) (sRet (vCB tupleD (aCons (vVar 1) (aNil)))))
def D__law_row : List Dat → Res Dat := runD 6 F__law_row
abbrev s__law_is_none : Stmt := top 22
abbrev N__law_is_none : List Str := ["row", "paper", "beginning", "kind", "inner"]
def F__law_is_none (rec : List Dat → Res Dat) : DEnv → DFlow := sSeq (sFor (gSeq (vTup (aCons (vC (.int 0)) (aCons (vC (.int 1)) (aNil))))) (aName 2) (sSeq (sAsgT (aTup (asCons (aName 3) (asCons (aName 4) (asNil)))) (vOp ixD (vVar 1) (vVar 2))) (sSeq (sIf (vAndT (vTest (vOp eqD (vVar 3) (vC (.str "clash")))) (vOrT (vTest (vOp neD (vOp modD (vVar 4) (vC (.int 2))) (vVar 2))) (vTest (vOp neD (vOp ixD (vVar 0) (vVar 4)) (vOp ixD (vVar 0) (vOp addD (vVar 4) (vC (.int 2)))))))) (sRet (vC (.bl false))) (sNop)) (sIf (vAndT (vTest (vOp eqD (vVar 3) (vC (.str "rest")))) (vNotT (vTru (vCall 2 rec (aCons (vStep (vVar 0) (oSome (vOp subD (vC (.int 1)) (vVar 2))) (oNone) (oSome (vC (.int 2)))) (aCons (vVar 4) (aNil))))))) (sRet (vC (.bl false))) (sNop))))) (sRet (vOp eqD (vCB lenD (aCons (vVar 1) (aNil))) (vC (.int 2))))
def R__law_is_none : Nat → List Dat → Res Dat
  | 0 => fun _ => .stuck
  | k + 1 => runD 5 (F__law_is_none (R__law_is_none k))
def D__law_is_none : List Dat → Res Dat := R__law_is_none 40
abbrev s__law_is_right : Stmt := top 21
abbrev N__law_is_right : List Str := ["row", "word", "paper", "beginning", "k"]
def F__law_is_right : DEnv → DFlow := sSeq (sIf (vTest (vOp eqD (vVar 1) (vC (.str "window")))) (sSeq (sIf (vTest (vOp notND (vCall 2 D_window_fault (aCons (vVar 0) (aCons (vVar 2) (aNil)))) (vC .non))) (sRet (vC (.bl false))) (sNop)) (sSeq (sFor (gSeq (vVar 2)) (aName 3) (sSeq (sIf (vNotT (vTru (vCB allD (aCons (vL (vLc (gA range3D (aCons (vVar 3) (aCons (vOp subD (vCB lenD (aCons (vVar 0) (aNil))) (vC (.int 2))) (aCons (vC (.int 2)) (aNil))))) (aName 4) [4] (tYesD) (vOp neD (vOp ixD (vVar 0) (vVar 4)) (vOp ixD (vVar 0) (vOp addD (vVar 4) (vC (.int 2))))))) (aNil))))) (sRet (vC (.bl false))) (sNop)) (sAsg 0 (vStep (vVar 0) (oSome (vOp subD (vC (.int 1)) (vVar 3))) (oNone) (oSome (vC (.int 2))))))) (sRet (vOp eqD (vCB lenD (aCons (vVar 0) (aNil))) (vC (.int 0)))))) (sNop)) (sRet (vAnd (vOp eqD (vVar 1) (vC (.str "none"))) (vAnd (vOp isND (vCall 2 D_none_fault (aCons (vVar 0) (aCons (vVar 2) (aNil)))) (vC .non)) (vCall 2 D__law_is_none (aCons (vVar 0) (aCons (vVar 2) (aNil)))))))
def D__law_is_right : List Dat → Res Dat := runD 5 F__law_is_right
abbrev s__law_others : Stmt := top 23
abbrev N__law_others : List Str := ["row", "one"]
def F__law_others : DEnv → DFlow := sRet (vCB tupleD (aCons (vL (vLc (gSeq (vVar 0)) (aName 1) [1] (tYesD) (vOp ixD (vL (fLst (aCons (vC (.str "V")) (aCons (vC (.str "M")) (aNil))))) (vCB intD (aCons (vOp eqD (vVar 1) (vC (.str "V"))) (aNil)))))) (aNil)))
def D__law_others : List Dat → Res Dat := runD 2 F__law_others
abbrev s_law : Stmt := top 24
abbrev N_law : List Str := ["script", "draws", "whole", "size", "at", "row", "word", "paper", "turn", "k"]
def F_law : DEnv → DFlow := sSeq (sAsg 1 (vCall 2 D__law_draws (aCons (vVar 0) (aCons (vC (.int 30)) (aNil))))) (sSeq (sAsg 2 (vCall 1 D__law_row (aCons (vCB tupleD (aCons (vL (vLc (gA range1D (aCons (vC (.int 8)) (aNil))) (aName 9) [9] (tYesD) (vOp ixD (vL (fLst (aCons (vC (.str "over")) (aCons (vC (.str "under")) (aNil))))) (vOp modD (vOp fdivD (vCB intD (aCons (vOp ixD (vVar 1) (vVar 9)) (aNil))) (vC (.int 3))) (vC (.int 2)))))) (aNil))) (aNil)))) (sSeq (sAsg 3 (vOp addD (vC (.int 20)) (vOp modD (vCB intD (aCons (vOp ixD (vVar 1) (vC (.int 8))) (aNil))) (vC (.int 181))))) (sSeq (sAsg 4 (vOp modD (vCB intD (aCons (vOp ixD (vVar 1) (vC (.int 9))) (aNil))) (vOp addD (vOp subD (vCB lenD (aCons (vVar 2) (aNil))) (vVar 3)) (vC (.int 1))))) (sSeq (sAsg 5 (vSl (vVar 2) (oSome (vVar 4)) (oSome (vOp addD (vVar 4) (vVar 3))))) (sSeq (sAsgT (aTup (asCons (aName 6) (asCons (aName 7) (asNil)))) (vCall 1 D_window_of (aCons (vVar 5) (aNil)))) (sSeq (sIf (vOrT (vTest (vOp neD (vVar 6) (vC (.str "window")))) (vNotT (vTru (vCall 3 D__law_is_right (aCons (vVar 5) (aCons (vVar 6) (aCons (vVar 7) (aNil)))))))) (sRet (vC (.bl false))) (sNop)) (sSeq (sFor (gA range1D (aCons (vOp addD (vC (.int 1)) (vOp modD (vCB intD (aCons (vOp ixD (vVar 1) (vC (.int 10))) (aNil))) (vC (.int 3)))) (aNil))) (aName 8) (sSeq (sAsg 9 (vOp modD (vCB intD (aCons (vOp ixD (vVar 1) (vOp addD (vC (.int 11)) (vVar 8))) (aNil))) (vVar 3))) (sAsg 5 (vOp addD (vOp addD (vSl (vVar 5) (oNone) (oSome (vVar 9))) (vCall 1 D__law_others (aCons (vSl (vVar 5) (oSome (vVar 9)) (oSome (vOp addD (vVar 9) (vC (.int 1))))) (aNil)))) (vSl (vVar 5) (oSome (vOp addD (vVar 9) (vC (.int 1)))) (oNone)))))) (sSeq (sAsgT (aTup (asCons (aName 6) (asCons (aName 7) (asNil)))) (vCall 1 D_window_of (aCons (vVar 5) (aNil)))) (sSeq (sIf (vNotT (vTru (vCall 3 D__law_is_right (aCons (vVar 5) (aCons (vVar 6) (aCons (vVar 7) (aNil))))))) (sRet (vC (.bl false))) (sNop)) (sSeq (sIf (vOrT (vTest (vOp neD (vOp ixD (vCall 1 D_window_of (aCons (vCall 1 D__law_others (aCons (vVar 5) (aNil))) (aNil))) (vC (.int 0))) (vVar 6))) (vTest (vOp neD (vOp ixD (vCall 1 D_window_of (aCons (vCall 1 D__law_others (aCons (vStep (vVar 5) (oNone) (oNone) (oSome (v1 negD (vC (.int 1))))) (aNil))) (aNil))) (vC (.int 0))) (vVar 6)))) (sRet (vC (.bl false))) (sNop)) (sRet (vOr (vOp eqD (vVar 6) (vC (.str "none"))) (vOp eqD (vOp ixD (vCall 1 D_window_of (aCons (vSl (vVar 5) (oNone) (oSome (vOp fdivD (vVar 3) (vC (.int 2))))) (aNil))) (vC (.int 0))) (vC (.str "window")))))))))))))))
def D_law : List Dat → Res Dat := runD 10 F_law
end Lw
namespace Lw
open PySem PySem.Spec PyProof.Rows L2 Dl
structure Txt (K : PySem.W.Frag) (mg : Str → Option Value) (T : CT) (w : World) : Prop where
  b_abs : mg "abs" = none
  b_all : mg "all" = none
  b_bool : mg "bool" = none
  b_enumerate : mg "enumerate" = none
  b_int : mg "int" = none
  b_isinstance : mg "isinstance" = none
  b_len : mg "len" = none
  b_range : mg "range" = none
  b_str : mg "str" = none
  b_tuple : mg "tuple" = none
  g_MOUNTAIN : GC K T mg "MOUNTAIN" (.str "M")
  g_VALLEY : GC K T mg "VALLEY" (.str "V")
  g_MOST_ROW : GC K T mg "MOST_ROW" (.int 200)
  e_BadRow : ExD K T mg 1 "BadRow"
section
variable {P : Program} {w : World} {K : PySem.W.Frag} {mg : Str → Option Value} {base : Heap} {T : CT}
theorem sc_is_whole : FnScope N_is_whole ["value", "least", "most"] (defScope s_is_whole) := ⟨rfl, rfl, rfl, by decide +kernel, rfl, by decide +kernel, by decide +kernel⟩
theorem ok_is_whole (tx : Txt K mg T w) {f : Addr} {fd : FuncData} (Fu : Fun K "is_whole" "is_whole" s_is_whole f fd) : FnOk P w K mg base (L2.CX P w) 1 f fd ["value", "least", "most"] (spD K T 3 D_is_whole) :=
  fn_D (ow' := []) Fu sc_is_whole rfl fun cdv A outer s H E hr => by
    have tk : Takes (cxOf (L2.CX P w) P w K mg base N_is_whole "is_whole" (defScope s_is_whole) f cdv A outer s H E) (fun cls d _ H => E cls d H) := takes_of rfl rfl rfl rfl
    have hpo := passes_of (X := cxOf (L2.CX P w) P w K mg base N_is_whole "is_whole" (defScope s_is_whole) f cdv A outer s H E) rfl
    exact dss_one (ds_ret (de_and (de_isi kit_int tx.b_isinstance tx.b_int (by decide +kernel) (de_var 0)) (de_and (de_not (de_isi kit_bool tx.b_isinstance tx.b_bool (by decide +kernel) (de_var 0))) (de_one (de_chain op_le rd_cmp op_le rd_cmp (de_var 1) (de_var 0) (de_var 2))))))
theorem sc_are_creases : FnScope N_are_creases ["row"] (defScope s_are_creases) := ⟨rfl, rfl, rfl, by decide +kernel, rfl, by decide +kernel, by decide +kernel⟩
theorem ok_are_creases (tx : Txt K mg T w) {f : Addr} {fd : FuncData} (Fu : Fun K "are_creases" "are_creases" s_are_creases f fd) : FnOk P w K mg base (L2.CX P w) 1 f fd ["row"] (spD K T 1 D_are_creases) :=
  fn_D (ow' := []) Fu sc_are_creases rfl fun cdv A outer s H E hr => by
    have tk : Takes (cxOf (L2.CX P w) P w K mg base N_are_creases "are_creases" (defScope s_are_creases) f cdv A outer s H E) (fun cls d _ H => E cls d H) := takes_of rfl rfl rfl rfl
    have hpo := passes_of (X := cxOf (L2.CX P w) P w K mg base N_are_creases "are_creases" (defScope s_are_creases) f cdv A outer s H E) rfl
    exact dss_one (ds_ret (de_and (de_isi kit_tuple tx.b_isinstance tx.b_tuple (by decide +kernel) (de_var 0)) (de_one (de_callB (cr_all rfl) rc_all tx.b_all (by decide +kernel) (da_cons (de_f (df_lc (own := [("one", 1)]) rfl sc_are_creases.nd (di_seq (de_var 0)) (blkOk_by (own := [("one", 1)]) (N := N_are_creases) (sc := defScope s_are_creases) (by decide +kernel)) (by decide) (fun _ _ _ _ _ => dg_name (i := 1) sc_are_creases.nd) (fun _ _ _ _ _ => dts_nil) (fun _ _ _ _ _ => de_and (de_isi kit_str tx.b_isinstance tx.b_str (by decide +kernel) (de_var 1)) (de_one (de_cmp (op_inAll (hu65 hr)) rd_in (de_var 1) (de_tup (da_cons (de_glob tx.g_MOUNTAIN) (da_cons (de_glob tx.g_VALLEY) (da_nil)))) (by rfl)))))) (da_nil))))))
theorem sc__check_row : FnScope N__check_row ["row"] (defScope s__check_row) := ⟨rfl, rfl, rfl, by decide +kernel, rfl, by decide +kernel, by decide +kernel⟩
theorem ok__check_row (tx : Txt K mg T w) (c_are_creases : FnD P w K mg base T 1 "are_creases" 1 D_are_creases) {f : Addr} {fd : FuncData} (Fu : Fun K "_check_row" "_check_row" s__check_row f fd) : FnOk P w K mg base (L2.CX P w) 2 f fd ["row"] (spD K T 1 D__check_row) :=
  fn_D (ow' := []) Fu sc__check_row rfl fun cdv A outer s H E hr => by
    have tk : Takes (cxOf (L2.CX P w) P w K mg base N__check_row "_check_row" (defScope s__check_row) f cdv A outer s H E) (fun cls d _ H => E cls d H) := takes_of rfl rfl rfl rfl
    have hpo := passes_of (X := cxOf (L2.CX P w) P w K mg base N__check_row "_check_row" (defScope s__check_row) f cdv A outer s H E) rfl
    exact dss_one (ds_if (DW.dt (dw_or (dt_not (dt_truth (de_call c_are_creases hr (by decide) (passAt tk) (da_cons (de_var 0) (da_nil))))) (dw_or1 (dt_cmp op_gt rd_cmp (de_callB call_len rc_len tx.b_len (by decide +kernel) (da_cons (de_var 0) (da_nil))) (de_glob tx.g_MOST_ROW) (nomark _))))) (dss_one (ds_raise tx.e_BadRow rfl tk)) (dss_nil))
theorem sc__clash : FnScope N__clash ["row", "beginning"] (defScope s__clash) := ⟨rfl, rfl, rfl, by decide +kernel, rfl, by decide +kernel, by decide +kernel⟩
theorem ok__clash (tx : Txt K mg T w) {f : Addr} {fd : FuncData} (Fu : Fun K "_clash" "_clash" s__clash f fd) : FnOk P w K mg base (L2.CX P w) 1 f fd ["row", "beginning"] (spD K T 2 D__clash) :=
  fn_D (ow' := []) Fu sc__clash rfl fun cdv A outer s H E hr => by
    have tk : Takes (cxOf (L2.CX P w) P w K mg base N__clash "_clash" (defScope s__clash) f cdv A outer s H E) (fun cls d _ H => E cls d H) := takes_of rfl rfl rfl rfl
    have hpo := passes_of (X := cxOf (L2.CX P w) P w K mg base N__clash "_clash" (defScope s__clash) f cdv A outer s H E) rfl
    exact dss_cons (ds_for hpo rfl (di_range3 tx.b_range (da_cons (de_var 1) (da_cons (de_op op_sub rd_sub (de_callB call_len rc_len tx.b_len (by decide +kernel) (da_cons (de_var 0) (da_nil))) (de_int)) (da_cons (de_int) (da_nil))))) (dg_name (i := 2) sc__clash.nd) (by decide) aName_same (dss_one (ds_if (dt_cmp (op_eqD (hu64 hr)) rd_eq (de_ix (de_var 0) (de_var 2)) (de_ix (de_var 0) (de_op op_addAll rd_add (de_var 2) (de_int))) (nomark _)) (dss_one (ds_ret (de_var 2))) (dss_nil)))) (dss_one (ds_ret (de_non)))
theorem sc__searched : FnScope N__searched ["row"] (defScope s__searched) := ⟨rfl, rfl, rfl, by decide +kernel, rfl, by decide +kernel, by decide +kernel⟩
theorem ok__searched (tx : Txt K mg T w) (c__clash : FnD P w K mg base T 1 "_clash" 2 D__clash) (m : Nat) (c__searched : FnD P w K mg base T (2 + m) "_searched" 1 (R__searched m)) {f : Addr} {fd : FuncData} (Fu : Fun K "_searched" "_searched" s__searched f fd) : FnOk P w K mg base (L2.CX P w) (2 + m + 1) f fd ["row"] (spD K T 1 (R__searched (m + 1))) :=
  fn_D (ow' := []) Fu sc__searched rfl fun cdv A outer s H E hr => by
    have tk : Takes (cxOf (L2.CX P w) P w K mg base N__searched "_searched" (defScope s__searched) f cdv A outer s H E) (fun cls d _ H => E cls d H) := takes_of rfl rfl rfl rfl
    have hpo := passes_of (X := cxOf (L2.CX P w) P w K mg base N__searched "_searched" (defScope s__searched) f cdv A outer s H E) rfl
    exact dss_cons (ds_if (dt_cmp (op_eqD (hu64 hr)) rd_eq (de_callB call_len rc_len tx.b_len (by decide +kernel) (da_cons (de_var 0) (da_nil))) (de_int) (nomark _)) (dss_one (ds_ret (de_tup (da_cons (de_bl) (da_cons (de_tup (da_nil)) (da_nil)))))) (dss_nil)) (dss_cons (ds_asgO (i := 1) (ow' := []) sc__searched.nd (df_lst (da_nil)) (by decide) (by decide)) (dss_cons (ds_for hpo rfl (di_seq (de_tup (da_cons (de_int) (da_cons (de_int) (da_nil))))) (dg_name (i := 2) sc__searched.nd) (by decide) aName_same (dss_cons (ds_asg (i := 3) (ow' := [1]) sc__searched.nd (de_call c__clash hr (by omega) (passAt tk) (da_cons (de_var 0) (da_cons (de_var 2) (da_nil)))) (by decide) (by decide)) (dss_one (ds_if (dt_cmp op_notN rd_notN (de_var 3) (de_non) (nomark _)) (dss_one (ds_app (i := 1) (de_tup (da_cons (de_str) (da_cons (de_var 3) (da_nil)))))) (dss_cons (ds_asgT (ow' := [1]) (de_call c__searched hr (by omega) (passAt tk) (da_cons (de_step (de_var 0) (do_some (de_op op_sub rd_sub (de_int) (de_var 2))) (do_none) (do_some (de_int))) (da_nil))) (dg_tup rfl (dgs_cons (dg_name (i := 4) sc__searched.nd) (dgs_cons (dg_name (i := 5) sc__searched.nd) (dgs_nil))) (asCons_len (asCons_len (fun _ _ _ h => asNil_len h)))) (by decide) (by decide) (aTup_same (asCons_same (aName_same) (asCons_same (aName_same) (asNil_same))))) (dss_cons (ds_if (dt_truth (de_var 4)) (dss_in (ow' := []) (dss_one (ds_ret (de_tup (da_cons (de_bl) (da_cons (de_op op_addAll rd_add (de_tup (da_cons (de_var 2) (da_nil))) (de_var 5)) (da_nil)))))) (by decide)) (dss_nil)) (dss_one (ds_app (i := 1) (de_tup (da_cons (de_str) (da_cons (de_var 5) (da_nil)))))))))))) (dss_in (ow' := []) (dss_one (ds_ret (de_tup (da_cons (de_bl) (da_cons (de_callTy call_tuple_of rc_tuple tx.b_tuple (by decide +kernel) (da_cons (de_var 1) (da_nil))) (da_nil)))))) (by decide))))
theorem sc_window_of : FnScope N_window_of ["row"] (defScope s_window_of) := ⟨rfl, rfl, rfl, by decide +kernel, rfl, by decide +kernel, by decide +kernel⟩
theorem ok_window_of (tx : Txt K mg T w) (c__check_row : FnD P w K mg base T 2 "_check_row" 1 D__check_row) (c__searched : FnD P w K mg base T 42 "_searched" 1 D__searched) {f : Addr} {fd : FuncData} (Fu : Fun K "window_of" "window_of" s_window_of f fd) : FnOk P w K mg base (L2.CX P w) 43 f fd ["row"] (spD K T 1 D_window_of) :=
  fn_D (ow' := []) Fu sc_window_of rfl fun cdv A outer s H E hr => by
    have tk : Takes (cxOf (L2.CX P w) P w K mg base N_window_of "window_of" (defScope s_window_of) f cdv A outer s H E) (fun cls d _ H => E cls d H) := takes_of rfl rfl rfl rfl
    have hpo := passes_of (X := cxOf (L2.CX P w) P w K mg base N_window_of "window_of" (defScope s_window_of) f cdv A outer s H E) rfl
    exact dss_cons (ds_drop (de_call c__check_row hr (by decide) (passAt tk) (da_cons (de_var 0) (da_nil)))) (dss_cons (ds_asgT (ow' := []) (de_call c__searched hr (by decide) (passAt tk) (da_cons (de_var 0) (da_nil))) (dg_tup rfl (dgs_cons (dg_name (i := 1) sc_window_of.nd) (dgs_cons (dg_name (i := 2) sc_window_of.nd) (dgs_nil))) (asCons_len (asCons_len (fun _ _ _ h => asNil_len h)))) (by decide) (by decide) (aTup_same (asCons_same (aName_same) (asCons_same (aName_same) (asNil_same))))) (dss_one (ds_ret (de_if (dt_truth (de_var 1)) (de_tup (da_cons (de_str) (da_cons (de_var 2) (da_nil)))) (de_tup (da_cons (de_str) (da_cons (de_var 2) (da_nil))))))))
theorem sc_window_fault : FnScope N_window_fault ["row", "beginnings"] (defScope s_window_fault) := ⟨rfl, rfl, rfl, by decide +kernel, rfl, by decide +kernel, by decide +kernel⟩
theorem ok_window_fault (tx : Txt K mg T w) (c__check_row : FnD P w K mg base T 2 "_check_row" 1 D__check_row) (c__clash : FnD P w K mg base T 1 "_clash" 2 D__clash) (c_is_whole : FnD P w K mg base T 1 "is_whole" 3 D_is_whole) {f : Addr} {fd : FuncData} (Fu : Fun K "window_fault" "window_fault" s_window_fault f fd) : FnOk P w K mg base (L2.CX P w) 3 f fd ["row", "beginnings"] (spD K T 2 D_window_fault) :=
  fn_D (ow' := []) Fu sc_window_fault rfl fun cdv A outer s H E hr => by
    have tk : Takes (cxOf (L2.CX P w) P w K mg base N_window_fault "window_fault" (defScope s_window_fault) f cdv A outer s H E) (fun cls d _ H => E cls d H) := takes_of rfl rfl rfl rfl
    have hpo := passes_of (X := cxOf (L2.CX P w) P w K mg base N_window_fault "window_fault" (defScope s_window_fault) f cdv A outer s H E) rfl
    exact dss_cons (ds_drop (de_call c__check_row hr (by decide) (passAt tk) (da_cons (de_var 0) (da_nil)))) (dss_cons (ds_if (DW.dt (dw_or (dt_not (dt_truth (de_isi kit_tuple tx.b_isinstance tx.b_tuple (by decide +kernel) (de_var 1)))) (dw_or1 (dt_not (dt_truth (de_callB (cr_all rfl) rc_all tx.b_all (by decide +kernel) (da_cons (de_f (df_lc (own := [("one", 5)]) rfl sc_window_fault.nd (di_seq (de_var 1)) (blkOk_by (own := [("one", 5)]) (N := N_window_fault) (sc := defScope s_window_fault) (by decide +kernel)) (by decide) (fun _ _ _ _ _ => dg_name (i := 5) sc_window_fault.nd) (fun _ _ _ _ _ => dts_nil) (fun _ _ _ _ _ => de_call c_is_whole hr (by decide) passNo (da_cons (de_var 5) (da_cons (de_int) (da_cons (de_int) (da_nil))))))) (da_nil)))))))) (dss_one (ds_ret (de_str))) (dss_nil)) (dss_cons (ds_asg (i := 2) (ow' := []) sc_window_fault.nd (de_callB call_len rc_len tx.b_len (by decide +kernel) (da_cons (de_var 0) (da_nil))) (by decide) (by decide)) (dss_cons (ds_for hpo rfl (di_enum tx.b_enumerate (de_var 1)) (dg_tup rfl (dgs_cons (dg_name (i := 3) sc_window_fault.nd) (dgs_cons (dg_name (i := 4) sc_window_fault.nd) (dgs_nil))) (asCons_len (asCons_len (fun _ _ _ h => asNil_len h)))) (by decide) (aTup_same (asCons_same (aName_same) (asCons_same (aName_same) (asNil_same)))) (dss_cons (ds_if (dt_cmp (op_eqD (hu64 hr)) rd_eq (de_var 2) (de_int) (nomark _)) (dss_one (ds_ret (de_str))) (dss_nil)) (dss_one (ds_asg (i := 2) (ow' := []) sc_window_fault.nd (de_op op_fdivAll rd_fdiv (de_op op_addAll rd_add (de_var 2) (de_var 4)) (de_int)) (by decide) (by decide))))) (dss_cons (ds_if (dt_cmp op_gt rd_cmp (de_var 2) (de_int) (nomark _)) (dss_one (ds_ret (de_str))) (dss_nil)) (dss_cons (ds_for hpo rfl (di_enum tx.b_enumerate (de_var 1)) (dg_tup rfl (dgs_cons (dg_name (i := 3) sc_window_fault.nd) (dgs_cons (dg_name (i := 4) sc_window_fault.nd) (dgs_nil))) (asCons_len (asCons_len (fun _ _ _ h => asNil_len h)))) (by decide) (aTup_same (asCons_same (aName_same) (asCons_same (aName_same) (asNil_same)))) (dss_cons (ds_if (dt_cmp op_notN rd_notN (de_call c__clash hr (by decide) (passAt tk) (da_cons (de_var 0) (da_cons (de_var 4) (da_nil)))) (de_non) (nomark _)) (dss_one (ds_ret (de_var 3))) (dss_nil)) (dss_one (ds_asg (i := 0) (ow' := []) sc_window_fault.nd (de_step (de_var 0) (do_some (de_op op_sub rd_sub (de_int) (de_var 4))) (do_none) (do_some (de_int))) (by decide) (by decide))))) (dss_one (ds_ret (de_non))))))))
theorem sc_none_fault : FnScope N_none_fault ["row", "paper"] (defScope s_none_fault) := ⟨rfl, rfl, rfl, by decide +kernel, rfl, by decide +kernel, by decide +kernel⟩
theorem ok_none_fault (tx : Txt K mg T w) (c__check_row : FnD P w K mg base T 2 "_check_row" 1 D__check_row) (c_is_whole : FnD P w K mg base T 1 "is_whole" 3 D_is_whole) {f : Addr} {fd : FuncData} (Fu : Fun K "none_fault" "none_fault" s_none_fault f fd) : FnOk P w K mg base (L2.CX P w) 3 f fd ["row", "paper"] (spD K T 2 D_none_fault) :=
  fn_D (ow' := []) Fu sc_none_fault rfl fun cdv A outer s H E hr => by
    have tk : Takes (cxOf (L2.CX P w) P w K mg base N_none_fault "none_fault" (defScope s_none_fault) f cdv A outer s H E) (fun cls d _ H => E cls d H) := takes_of rfl rfl rfl rfl
    have hpo := passes_of (X := cxOf (L2.CX P w) P w K mg base N_none_fault "none_fault" (defScope s_none_fault) f cdv A outer s H E) rfl
    exact dss_cons (ds_drop (de_call c__check_row hr (by decide) (passAt tk) (da_cons (de_var 0) (da_nil)))) (dss_cons (ds_if (DW.dt (dw_or (dt_not (dt_truth (de_isi kit_tuple tx.b_isinstance tx.b_tuple (by decide +kernel) (de_var 1)))) (dw_or1 (dt_cmp (op_neD (hu64 hr)) rd_ne (de_callB call_len rc_len tx.b_len (by decide +kernel) (da_cons (de_var 1) (da_nil))) (de_int) (nomark _))))) (dss_one (ds_ret (de_tup (da_nil)))) (dss_nil)) (dss_cons (ds_asgO (i := 2) (ow' := []) sc_none_fault.nd (df_lst (da_cons (de_tup (da_cons (de_tup (da_cons (de_int) (da_nil))) (da_cons (de_var 0) (da_cons (de_ix (de_var 1) (de_int)) (da_nil))))) (da_cons (de_tup (da_cons (de_tup (da_cons (de_int) (da_nil))) (da_cons (de_var 0) (da_cons (de_ix (de_var 1) (de_int)) (da_nil))))) (da_nil)))) (by decide) (by decide)) (dss_cons (ds_while 1000000 hpo (dt_un (ow' := []) (dt_cmp op_gt rd_cmp (de_callB call_len rc_len tx.b_len (by decide +kernel) (da_cons (de_var 2) (da_nil))) (de_int) (nomark _))) (dss_cons (ds_popT (i := 2) (dg_tup rfl (dgs_cons (dg_name (i := 3) sc_none_fault.nd) (dgs_cons (dg_name (i := 4) sc_none_fault.nd) (dgs_cons (dg_name (i := 5) sc_none_fault.nd) (dgs_nil)))) (asCons_len (asCons_len (asCons_len (fun _ _ _ h => asNil_len h))))) (by decide) (aTup_same (asCons_same (aName_same) (asCons_same (aName_same) (asCons_same (aName_same) (asNil_same)))))) (dss_cons (ds_if (DW.dt (dw_or (dt_not (dt_truth (de_isi kit_tuple tx.b_isinstance tx.b_tuple (by decide +kernel) (de_var 5)))) (dw_or (dt_cmp (op_neD (hu64 hr)) rd_ne (de_callB call_len rc_len tx.b_len (by decide +kernel) (da_cons (de_var 5) (da_nil))) (de_int) (nomark _)) (dw_or1 (dt_not (dt_truth (de_isi kit_str tx.b_isinstance tx.b_str (by decide +kernel) (de_ix (de_var 5) (de_int))))))))) (dss_in (ow' := []) (dss_one (ds_ret (de_var 3))) (by decide)) (dss_nil)) (dss_cons (ds_asg (i := 6) (ow' := [2]) sc_none_fault.nd (de_ix (de_var 3) (de_neg (de_int))) (by decide) (by decide)) (dss_one (ds_if (dt_cmp (op_eqD (hu64 hr)) rd_eq (de_ix (de_var 5) (de_int)) (de_str) (nomark _)) (dss_cons (ds_if (DW.dt (dw_or (dt_not (dt_truth (de_call c_is_whole hr (by decide) (passAt tk) (da_cons (de_ix (de_var 5) (de_int)) (da_cons (de_int) (da_cons (de_op op_sub rd_sub (de_callB call_len rc_len tx.b_len (by decide +kernel) (da_cons (de_var 4) (da_nil))) (de_int)) (da_nil))))))) (dw_or1 (dt_cmp (op_neD (hu64 hr)) rd_ne (de_op op_modAll rd_mod (de_ix (de_var 5) (de_int)) (de_int)) (de_var 6) (nomark _))))) (dss_in (ow' := []) (dss_one (ds_ret (de_var 3))) (by decide)) (dss_nil)) (dss_one (ds_if (dt_cmp (op_neD (hu64 hr)) rd_ne (de_ix (de_var 4) (de_ix (de_var 5) (de_int))) (de_ix (de_var 4) (de_op op_addAll rd_add (de_ix (de_var 5) (de_int)) (de_int))) (nomark _)) (dss_in (ow' := []) (dss_one (ds_ret (de_var 3))) (by decide)) (dss_nil)))) (dss_one (ds_if (DW.dt (dw_and (dt_cmp (op_eqD (hu64 hr)) rd_eq (de_ix (de_var 5) (de_int)) (de_str) (nomark _)) (dw_and (dt_truth (de_isi kit_tuple tx.b_isinstance tx.b_tuple (by decide +kernel) (de_ix (de_var 5) (de_int)))) (dw_and (dt_cmp (op_eqD (hu64 hr)) rd_eq (de_callB call_len rc_len tx.b_len (by decide +kernel) (da_cons (de_ix (de_var 5) (de_int)) (da_nil))) (de_int) (nomark _)) (dw_and1 (dt_cmp op_gt rd_cmp (de_callB call_len rc_len tx.b_len (by decide +kernel) (da_cons (de_var 4) (da_nil))) (de_int) (nomark _))))))) (dss_cons (ds_asg (i := 7) (ow' := [2]) sc_none_fault.nd (de_step (de_var 4) (do_some (de_op op_sub rd_sub (de_int) (de_var 6))) (do_none) (do_some (de_int))) (by decide) (by decide)) (dss_cons (ds_app (i := 2) (de_tup (da_cons (de_op op_addAll rd_add (de_var 3) (de_tup (da_cons (de_int) (da_nil)))) (da_cons (de_var 7) (da_cons (de_ix (de_ix (de_var 5) (de_int)) (de_int)) (da_nil)))))) (dss_one (ds_app (i := 2) (de_tup (da_cons (de_op op_addAll rd_add (de_var 3) (de_tup (da_cons (de_int) (da_nil)))) (da_cons (de_var 7) (da_cons (de_ix (de_ix (de_var 5) (de_int)) (de_int)) (da_nil))))))))) (dss_in (ow' := []) (dss_one (ds_ret (de_var 3))) (by decide)))))))))) (dss_in (ow' := []) (dss_one (ds_ret (de_non))) (by decide)))))
theorem sc__law_draws : FnScope N__law_draws ["script", "many"] (defScope s__law_draws) := ⟨rfl, rfl, rfl, by decide +kernel, rfl, by decide +kernel, by decide +kernel⟩
theorem ok__law_draws (tx : Txt K mg T w) {f : Addr} {fd : FuncData} (Fu : Fun K "_law_draws" "_law_draws" s__law_draws f fd) : FnOk P w K mg base (L2.CX P w) 1 f fd ["script", "many"] (spD K T 2 D__law_draws) :=
  fn_D (ow' := []) Fu sc__law_draws rfl fun cdv A outer s H E hr => by
    have tk : Takes (cxOf (L2.CX P w) P w K mg base N__law_draws "_law_draws" (defScope s__law_draws) f cdv A outer s H E) (fun cls d _ H => E cls d H) := takes_of rfl rfl rfl rfl
    have hpo := passes_of (X := cxOf (L2.CX P w) P w K mg base N__law_draws "_law_draws" (defScope s__law_draws) f cdv A outer s H E) rfl
    exact dss_cons (ds_asgO (i := 2) (ow' := []) sc__law_draws.nd (df_lst (da_nil)) (by decide) (by decide)) (dss_cons (ds_asg (i := 3) (ow' := [2]) sc__law_draws.nd (de_int) (by decide) (by decide)) (dss_cons (ds_for hpo rfl (di_seq (de_slice (de_var 0) (do_none) (do_some (de_int)))) (dg_name (i := 4) sc__law_draws.nd) (by decide) aName_same (dss_cons (ds_asg (i := 5) (ow' := [2]) sc__law_draws.nd (de_callB call_abs rc_abs tx.b_abs (by decide +kernel) (da_cons (de_var 4) (da_nil))) (by decide) (by decide)) (dss_cons (ds_asg (i := 3) (ow' := [2]) sc__law_draws.nd (de_op op_modAll rd_mod (de_callTy call_int1 rc_int tx.b_int (by decide +kernel) (da_cons (de_op op_addAll rd_add (de_op op_addAll rd_add (de_op op_mulAll rd_mul (de_var 3) (de_int)) (de_var 5)) (de_int)) (da_nil))) (de_int)) (by decide) (by decide)) (dss_one (ds_if (dt_cmp op_ge rd_cmp (de_var 5) (de_op op_pow rd_pow (de_int) (de_int)) (nomark _)) (dss_one (ds_for hpo rfl (di_range1 tx.b_range (da_cons (de_int) (da_nil))) (dg_name (i := 6) sc__law_draws.nd) (by decide) aName_same (dss_one (ds_if (dt_cmp op_gt rd_cmp (de_var 5) (de_int) (nomark _)) (dss_cons (ds_app (i := 2) (de_op op_modAll rd_mod (de_callTy call_int1 rc_int tx.b_int (by decide +kernel) (da_cons (de_var 5) (da_nil))) (de_int))) (dss_one (ds_asg (i := 5) (ow' := [2]) sc__law_draws.nd (de_op op_fdivAll rd_fdiv (de_var 5) (de_int)) (by decide) (by decide)))) (dss_nil))))) (dss_one (ds_app (i := 2) (de_op op_modAll rd_mod (de_op op_fdivAll rd_fdiv (de_callTy call_int1 rc_int tx.b_int (by decide +kernel) (da_cons (de_op op_addAll rd_add (de_op op_mulAll rd_mul (de_var 3) (de_int)) (de_int)) (da_nil))) (de_int)) (de_int))))))))) (dss_cons (ds_for hpo rfl (di_range1 tx.b_range (da_cons (de_var 1) (da_nil))) (dg_name (i := 6) sc__law_draws.nd) (by decide) aName_same (dss_one (ds_if (dt_un (ow' := []) (dt_cmp op_lt rd_cmp (de_callB call_len rc_len tx.b_len (by decide +kernel) (da_cons (de_var 2) (da_nil))) (de_var 1) (nomark _))) (dss_cons (ds_asg (i := 3) (ow' := [2]) sc__law_draws.nd (de_op op_modAll rd_mod (de_callTy call_int1 rc_int tx.b_int (by decide +kernel) (da_cons (de_op op_addAll rd_add (de_op op_addAll rd_add (de_op op_mulAll rd_mul (de_var 3) (de_int)) (de_var 6)) (de_int)) (da_nil))) (de_int)) (by decide) (by decide)) (dss_one (ds_app (i := 2) (de_op op_modAll rd_mod (de_op op_fdivAll rd_fdiv (de_callTy call_int1 rc_int tx.b_int (by decide +kernel) (da_cons (de_var 3) (da_nil))) (de_int)) (de_int))))) (dss_nil)))) (dss_in (ow' := []) (dss_one (ds_ret (de_slice (de_var 2) (do_none) (do_some (de_var 1))))) (by decide)))))
theorem sc__law_folds : FnScope N__law_folds ["draws", "most"] (defScope s__law_folds) := ⟨rfl, rfl, rfl, by decide +kernel, rfl, by decide +kernel, by decide +kernel⟩
theorem ok__law_folds (tx : Txt K mg T w) {f : Addr} {fd : FuncData} (Fu : Fun K "_law_folds" "_law_folds" s__law_folds f fd) : FnOk P w K mg base (L2.CX P w) 1 f fd ["draws", "most"] (spD K T 2 D__law_folds) :=
  fn_D (ow' := []) Fu sc__law_folds rfl fun cdv A outer s H E hr => by
    have tk : Takes (cxOf (L2.CX P w) P w K mg base N__law_folds "_law_folds" (defScope s__law_folds) f cdv A outer s H E) (fun cls d _ H => E cls d H) := takes_of rfl rfl rfl rfl
    have hpo := passes_of (X := cxOf (L2.CX P w) P w K mg base N__law_folds "_law_folds" (defScope s__law_folds) f cdv A outer s H E) rfl
    exact dss_one (ds_ret (de_callTy call_tuple_of rc_tuple tx.b_tuple (by decide +kernel) (da_cons (de_f (df_lc (own := [("k", 2)]) rfl sc__law_folds.nd (di_range1 tx.b_range (da_cons (de_op op_modAll rd_mod (de_callTy call_int1 rc_int tx.b_int (by decide +kernel) (da_cons (de_ix (de_var 0) (de_int)) (da_nil))) (de_op op_addAll rd_add (de_var 1) (de_int))) (da_nil))) (blkOk_by (own := [("k", 2)]) (N := N__law_folds) (sc := defScope s__law_folds) (by decide +kernel)) (by decide) (fun _ _ _ _ _ => dg_name (i := 2) sc__law_folds.nd) (fun _ _ _ _ _ => dts_nil) (fun _ _ _ _ _ => de_ix (de_f (df_lst (da_cons (de_str) (da_cons (de_str) (da_nil))))) (de_op op_modAll rd_mod (de_op op_fdivAll rd_fdiv (de_callTy call_int1 rc_int tx.b_int (by decide +kernel) (da_cons (de_ix (de_var 0) (de_op op_addAll rd_add (de_int) (de_var 2))) (da_nil))) (de_int)) (de_int))))) (da_nil))))
theorem sc__law_row : FnScope N__law_row ["folds"] (defScope s__law_row) := ⟨rfl, rfl, rfl, by decide +kernel, rfl, by decide +kernel, by decide +kernel⟩
theorem ok__law_row (tx : Txt K mg T w) {f : Addr} {fd : FuncData} (Fu : Fun K "_law_row" "_law_row" s__law_row f fd) : FnOk P w K mg base (L2.CX P w) 1 f fd ["folds"] (spD K T 1 D__law_row) :=
  fn_D (ow' := []) Fu sc__law_row rfl fun cdv A outer s H E hr => by
    have tk : Takes (cxOf (L2.CX P w) P w K mg base N__law_row "_law_row" (defScope s__law_row) f cdv A outer s H E) (fun cls d _ H => E cls d H) := takes_of rfl rfl rfl rfl
    have hpo := passes_of (X := cxOf (L2.CX P w) P w K mg base N__law_row "_law_row" (defScope s__law_row) f cdv A outer s H E) rfl
    exact dss_cons (ds_asg (i := 1) (ow' := []) sc__law_row.nd (de_f (df_lst (da_nil))) (by decide) (by decide)) (dss_cons (ds_for hpo rfl (di_seq (de_var 0)) (dg_name (i := 2) sc__law_row.nd) (by decide) aName_same (dss_cons (ds_parO (i := 3) (j := 4) (ow' := []) rfl sc__law_row.nd (df_lst (da_nil)) (de_ix (de_f (df_lst (da_cons (de_str) (da_cons (de_str) (da_nil))))) (de_callTy call_int1 rc_int tx.b_int (by decide +kernel) (da_cons (de_cmp (op_eqD (hu64 hr)) rd_eq (de_var 2) (de_str) (nomark _)) (da_nil)))) (by decide) (by decide) (by decide) rfl) (dss_cons (ds_for hpo rfl (di_range1 tx.b_range (da_cons (de_op op_addAll rd_add (de_callB call_len rc_len tx.b_len (by decide +kernel) (da_cons (de_var 1) (da_nil))) (de_int)) (da_nil))) (dg_name (i := 5) sc__law_row.nd) (by decide) aName_same (dss_cons (ds_app (i := 3) (de_var 4)) (dss_cons (ds_asg (i := 4) (ow' := [3]) sc__law_row.nd (de_ix (de_f (df_lst (da_cons (de_str) (da_cons (de_str) (da_nil))))) (de_callTy call_int1 rc_int tx.b_int (by decide +kernel) (da_cons (de_cmp (op_eqD (hu64 hr)) rd_eq (de_var 4) (de_str) (nomark _)) (da_nil)))) (by decide) (by decide)) (dss_one (ds_ext (i := 3) (de_slice (de_var 1) (do_some (de_var 5)) (do_some (de_op op_addAll rd_add (de_var 5) (de_int))))))))) (dss_in (ow' := []) (dss_one (ds_asg (i := 1) (ow' := []) sc__law_row.nd (de_var 3) (by decide) (by decide))) (by decide))))) (dss_one (ds_ret (de_callTy call_tuple_of rc_tuple tx.b_tuple (by decide +kernel) (da_cons (de_var 1) (da_nil))))))
theorem sc__law_is_none : FnScope N__law_is_none ["row", "paper"] (defScope s__law_is_none) := ⟨rfl, rfl, rfl, by decide +kernel, rfl, by decide +kernel, by decide +kernel⟩
theorem ok__law_is_none (tx : Txt K mg T w) (m : Nat) (c__law_is_none : FnD P w K mg base T (1 + m) "_law_is_none" 2 (R__law_is_none m)) {f : Addr} {fd : FuncData} (Fu : Fun K "_law_is_none" "_law_is_none" s__law_is_none f fd) : FnOk P w K mg base (L2.CX P w) (1 + m + 1) f fd ["row", "paper"] (spD K T 2 (R__law_is_none (m + 1))) :=
  fn_D (ow' := []) Fu sc__law_is_none rfl fun cdv A outer s H E hr => by
    have tk : Takes (cxOf (L2.CX P w) P w K mg base N__law_is_none "_law_is_none" (defScope s__law_is_none) f cdv A outer s H E) (fun cls d _ H => E cls d H) := takes_of rfl rfl rfl rfl
    have hpo := passes_of (X := cxOf (L2.CX P w) P w K mg base N__law_is_none "_law_is_none" (defScope s__law_is_none) f cdv A outer s H E) rfl
    exact dss_cons (ds_for hpo rfl (di_seq (de_tup (da_cons (de_int) (da_cons (de_int) (da_nil))))) (dg_name (i := 2) sc__law_is_none.nd) (by decide) aName_same (dss_cons (ds_asgT (ow' := []) (de_ix (de_var 1) (de_var 2)) (dg_tup rfl (dgs_cons (dg_name (i := 3) sc__law_is_none.nd) (dgs_cons (dg_name (i := 4) sc__law_is_none.nd) (dgs_nil))) (asCons_len (asCons_len (fun _ _ _ h => asNil_len h)))) (by decide) (by decide) (aTup_same (asCons_same (aName_same) (asCons_same (aName_same) (asNil_same))))) (dss_cons (ds_if (DW.dt (dw_and (dt_cmp (op_eqD (hu64 hr)) rd_eq (de_var 3) (de_str) (nomark _)) (dw_and1 (DW.dt (dw_or (dt_cmp (op_neD (hu64 hr)) rd_ne (de_op op_modAll rd_mod (de_var 4) (de_int)) (de_var 2) (nomark _)) (dw_or1 (dt_cmp (op_neD (hu64 hr)) rd_ne (de_ix (de_var 0) (de_var 4)) (de_ix (de_var 0) (de_op op_addAll rd_add (de_var 4) (de_int))) (nomark _)))))))) (dss_one (ds_ret (de_bl))) (dss_nil)) (dss_one (ds_if (DW.dt (dw_and (dt_cmp (op_eqD (hu64 hr)) rd_eq (de_var 3) (de_str) (nomark _)) (dw_and1 (dt_not (dt_truth (de_call c__law_is_none hr (by omega) (passAt tk) (da_cons (de_step (de_var 0) (do_some (de_op op_sub rd_sub (de_int) (de_var 2))) (do_none) (do_some (de_int))) (da_cons (de_var 4) (da_nil))))))))) (dss_one (ds_ret (de_bl))) (dss_nil)))))) (dss_one (ds_ret (de_cmp (op_eqD (hu64 hr)) rd_eq (de_callB call_len rc_len tx.b_len (by decide +kernel) (da_cons (de_var 1) (da_nil))) (de_int) (nomark _))))
theorem sc__law_is_right : FnScope N__law_is_right ["row", "word", "paper"] (defScope s__law_is_right) := ⟨rfl, rfl, rfl, by decide +kernel, rfl, by decide +kernel, by decide +kernel⟩
theorem ok__law_is_right (tx : Txt K mg T w) (c__law_is_none : FnD P w K mg base T 41 "_law_is_none" 2 D__law_is_none) (c_none_fault : FnD P w K mg base T 3 "none_fault" 2 D_none_fault) (c_window_fault : FnD P w K mg base T 3 "window_fault" 2 D_window_fault) {f : Addr} {fd : FuncData} (Fu : Fun K "_law_is_right" "_law_is_right" s__law_is_right f fd) : FnOk P w K mg base (L2.CX P w) 42 f fd ["row", "word", "paper"] (spD K T 3 D__law_is_right) :=
  fn_D (ow' := []) Fu sc__law_is_right rfl fun cdv A outer s H E hr => by
    have tk : Takes (cxOf (L2.CX P w) P w K mg base N__law_is_right "_law_is_right" (defScope s__law_is_right) f cdv A outer s H E) (fun cls d _ H => E cls d H) := takes_of rfl rfl rfl rfl
    have hpo := passes_of (X := cxOf (L2.CX P w) P w K mg base N__law_is_right "_law_is_right" (defScope s__law_is_right) f cdv A outer s H E) rfl
    exact dss_cons (ds_if (dt_cmp (op_eqD (hu64 hr)) rd_eq (de_var 1) (de_str) (nomark _)) (dss_cons (ds_if (dt_cmp op_notN rd_notN (de_call c_window_fault hr (by decide) (passAt tk) (da_cons (de_var 0) (da_cons (de_var 2) (da_nil)))) (de_non) (nomark _)) (dss_one (ds_ret (de_bl))) (dss_nil)) (dss_cons (ds_for hpo rfl (di_seq (de_var 2)) (dg_name (i := 3) sc__law_is_right.nd) (by decide) aName_same (dss_cons (ds_if (dt_not (dt_truth (de_callB (cr_all rfl) rc_all tx.b_all (by decide +kernel) (da_cons (de_f (df_lc (own := [("k", 4)]) rfl sc__law_is_right.nd (di_range3 tx.b_range (da_cons (de_var 3) (da_cons (de_op op_sub rd_sub (de_callB call_len rc_len tx.b_len (by decide +kernel) (da_cons (de_var 0) (da_nil))) (de_int)) (da_cons (de_int) (da_nil))))) (blkOk_by (own := [("k", 4)]) (N := N__law_is_right) (sc := defScope s__law_is_right) (by decide +kernel)) (by decide) (fun _ _ _ _ _ => dg_name (i := 4) sc__law_is_right.nd) (fun _ _ _ _ _ => dts_nil) (fun _ _ _ _ _ => de_cmp (op_neD (hu64 hr)) rd_ne (de_ix (de_var 0) (de_var 4)) (de_ix (de_var 0) (de_op op_addAll rd_add (de_var 4) (de_int))) (nomark _)))) (da_nil))))) (dss_one (ds_ret (de_bl))) (dss_nil)) (dss_one (ds_asg (i := 0) (ow' := []) sc__law_is_right.nd (de_step (de_var 0) (do_some (de_op op_sub rd_sub (de_int) (de_var 3))) (do_none) (do_some (de_int))) (by decide) (by decide))))) (dss_one (ds_ret (de_cmp (op_eqD (hu64 hr)) rd_eq (de_callB call_len rc_len tx.b_len (by decide +kernel) (da_cons (de_var 0) (da_nil))) (de_int) (nomark _)))))) (dss_nil)) (dss_one (ds_ret (de_and (de_cmp (op_eqD (hu64 hr)) rd_eq (de_var 1) (de_str) (nomark _)) (de_and (de_cmp op_isN rd_isN (de_call c_none_fault hr (by decide) (passAt tk) (da_cons (de_var 0) (da_cons (de_var 2) (da_nil)))) (de_non) (nomark _)) (de_one (de_call c__law_is_none hr (by decide) (passAt tk) (da_cons (de_var 0) (da_cons (de_var 2) (da_nil)))))))))
theorem sc__law_others : FnScope N__law_others ["row"] (defScope s__law_others) := ⟨rfl, rfl, rfl, by decide +kernel, rfl, by decide +kernel, by decide +kernel⟩
theorem ok__law_others (tx : Txt K mg T w) {f : Addr} {fd : FuncData} (Fu : Fun K "_law_others" "_law_others" s__law_others f fd) : FnOk P w K mg base (L2.CX P w) 1 f fd ["row"] (spD K T 1 D__law_others) :=
  fn_D (ow' := []) Fu sc__law_others rfl fun cdv A outer s H E hr => by
    have tk : Takes (cxOf (L2.CX P w) P w K mg base N__law_others "_law_others" (defScope s__law_others) f cdv A outer s H E) (fun cls d _ H => E cls d H) := takes_of rfl rfl rfl rfl
    have hpo := passes_of (X := cxOf (L2.CX P w) P w K mg base N__law_others "_law_others" (defScope s__law_others) f cdv A outer s H E) rfl
    exact dss_one (ds_ret (de_callTy call_tuple_of rc_tuple tx.b_tuple (by decide +kernel) (da_cons (de_f (df_lc (own := [("one", 1)]) rfl sc__law_others.nd (di_seq (de_var 0)) (blkOk_by (own := [("one", 1)]) (N := N__law_others) (sc := defScope s__law_others) (by decide +kernel)) (by decide) (fun _ _ _ _ _ => dg_name (i := 1) sc__law_others.nd) (fun _ _ _ _ _ => dts_nil) (fun _ _ _ _ _ => de_ix (de_f (df_lst (da_cons (de_str) (da_cons (de_str) (da_nil))))) (de_callTy call_int1 rc_int tx.b_int (by decide +kernel) (da_cons (de_cmp (op_eqD (hu64 hr)) rd_eq (de_var 1) (de_str) (nomark _)) (da_nil)))))) (da_nil))))
theorem sc_law : FnScope N_law ["script"] (defScope s_law) := ⟨rfl, rfl, rfl, by decide +kernel, rfl, by decide +kernel, by decide +kernel⟩
theorem ok_law (tx : Txt K mg T w) (c__law_draws : FnD P w K mg base T 1 "_law_draws" 2 D__law_draws) (c__law_is_right : FnD P w K mg base T 42 "_law_is_right" 3 D__law_is_right) (c__law_others : FnD P w K mg base T 1 "_law_others" 1 D__law_others) (c__law_row : FnD P w K mg base T 1 "_law_row" 1 D__law_row) (c_window_of : FnD P w K mg base T 43 "window_of" 1 D_window_of) {f : Addr} {fd : FuncData} (Fu : Fun K "law" "law" s_law f fd) : FnOk P w K mg base (L2.CX P w) 44 f fd ["script"] (spD K T 1 D_law) :=
  fn_D (ow' := []) Fu sc_law rfl fun cdv A outer s H E hr => by
    have tk : Takes (cxOf (L2.CX P w) P w K mg base N_law "law" (defScope s_law) f cdv A outer s H E) (fun cls d _ H => E cls d H) := takes_of rfl rfl rfl rfl
    have hpo := passes_of (X := cxOf (L2.CX P w) P w K mg base N_law "law" (defScope s_law) f cdv A outer s H E) rfl
    exact dss_cons (ds_asg (i := 1) (ow' := []) sc_law.nd (de_call c__law_draws hr (by decide) (passAt tk) (da_cons (de_var 0) (da_cons (de_int) (da_nil)))) (by decide) (by decide)) (dss_cons (ds_asg (i := 2) (ow' := []) sc_law.nd (de_call c__law_row hr (by decide) (passAt tk) (da_cons (de_callTy call_tuple_of rc_tuple tx.b_tuple (by decide +kernel) (da_cons (de_f (df_lc (own := [("k", 9)]) rfl sc_law.nd (di_range1 tx.b_range (da_cons (de_int) (da_nil))) (blkOk_by (own := [("k", 9)]) (N := N_law) (sc := defScope s_law) (by decide +kernel)) (by decide) (fun _ _ _ _ _ => dg_name (i := 9) sc_law.nd) (fun _ _ _ _ _ => dts_nil) (fun _ _ _ _ _ => de_ix (de_f (df_lst (da_cons (de_str) (da_cons (de_str) (da_nil))))) (de_op op_modAll rd_mod (de_op op_fdivAll rd_fdiv (de_callTy call_int1 rc_int tx.b_int (by decide +kernel) (da_cons (de_ix (de_var 1) (de_var 9)) (da_nil))) (de_int)) (de_int))))) (da_nil))) (da_nil))) (by decide) (by decide)) (dss_cons (ds_asg (i := 3) (ow' := []) sc_law.nd (de_op op_addAll rd_add (de_int) (de_op op_modAll rd_mod (de_callTy call_int1 rc_int tx.b_int (by decide +kernel) (da_cons (de_ix (de_var 1) (de_int)) (da_nil))) (de_int))) (by decide) (by decide)) (dss_cons (ds_asg (i := 4) (ow' := []) sc_law.nd (de_op op_modAll rd_mod (de_callTy call_int1 rc_int tx.b_int (by decide +kernel) (da_cons (de_ix (de_var 1) (de_int)) (da_nil))) (de_op op_addAll rd_add (de_op op_sub rd_sub (de_callB call_len rc_len tx.b_len (by decide +kernel) (da_cons (de_var 2) (da_nil))) (de_var 3)) (de_int))) (by decide) (by decide)) (dss_cons (ds_asg (i := 5) (ow' := []) sc_law.nd (de_slice (de_var 2) (do_some (de_var 4)) (do_some (de_op op_addAll rd_add (de_var 4) (de_var 3)))) (by decide) (by decide)) (dss_cons (ds_asgT (ow' := []) (de_call c_window_of hr (by decide) (passAt tk) (da_cons (de_var 5) (da_nil))) (dg_tup rfl (dgs_cons (dg_name (i := 6) sc_law.nd) (dgs_cons (dg_name (i := 7) sc_law.nd) (dgs_nil))) (asCons_len (asCons_len (fun _ _ _ h => asNil_len h)))) (by decide) (by decide) (aTup_same (asCons_same (aName_same) (asCons_same (aName_same) (asNil_same))))) (dss_cons (ds_if (DW.dt (dw_or (dt_cmp (op_neD (hu64 hr)) rd_ne (de_var 6) (de_str) (nomark _)) (dw_or1 (dt_not (dt_truth (de_call c__law_is_right hr (by decide) (passAt tk) (da_cons (de_var 5) (da_cons (de_var 6) (da_cons (de_var 7) (da_nil)))))))))) (dss_one (ds_ret (de_bl))) (dss_nil)) (dss_cons (ds_for hpo rfl (di_range1 tx.b_range (da_cons (de_op op_addAll rd_add (de_int) (de_op op_modAll rd_mod (de_callTy call_int1 rc_int tx.b_int (by decide +kernel) (da_cons (de_ix (de_var 1) (de_int)) (da_nil))) (de_int))) (da_nil))) (dg_name (i := 8) sc_law.nd) (by decide) aName_same (dss_cons (ds_asg (i := 9) (ow' := []) sc_law.nd (de_op op_modAll rd_mod (de_callTy call_int1 rc_int tx.b_int (by decide +kernel) (da_cons (de_ix (de_var 1) (de_op op_addAll rd_add (de_int) (de_var 8))) (da_nil))) (de_var 3)) (by decide) (by decide)) (dss_one (ds_asg (i := 5) (ow' := []) sc_law.nd (de_op op_addAll rd_add (de_op op_addAll rd_add (de_slice (de_var 5) (do_none) (do_some (de_var 9))) (de_call c__law_others hr (by decide) (passAt tk) (da_cons (de_slice (de_var 5) (do_some (de_var 9)) (do_some (de_op op_addAll rd_add (de_var 9) (de_int)))) (da_nil)))) (de_slice (de_var 5) (do_some (de_op op_addAll rd_add (de_var 9) (de_int))) (do_none))) (by decide) (by decide))))) (dss_cons (ds_asgT (ow' := []) (de_call c_window_of hr (by decide) (passAt tk) (da_cons (de_var 5) (da_nil))) (dg_tup rfl (dgs_cons (dg_name (i := 6) sc_law.nd) (dgs_cons (dg_name (i := 7) sc_law.nd) (dgs_nil))) (asCons_len (asCons_len (fun _ _ _ h => asNil_len h)))) (by decide) (by decide) (aTup_same (asCons_same (aName_same) (asCons_same (aName_same) (asNil_same))))) (dss_cons (ds_if (dt_not (dt_truth (de_call c__law_is_right hr (by decide) (passAt tk) (da_cons (de_var 5) (da_cons (de_var 6) (da_cons (de_var 7) (da_nil))))))) (dss_one (ds_ret (de_bl))) (dss_nil)) (dss_cons (ds_if (DW.dt (dw_or (dt_cmp (op_neD (hu64 hr)) rd_ne (de_ix (de_call c_window_of hr (by decide) (passAt tk) (da_cons (de_call c__law_others hr (by decide) (passAt tk) (da_cons (de_var 5) (da_nil))) (da_nil))) (de_int)) (de_var 6) (nomark _)) (dw_or1 (dt_cmp (op_neD (hu64 hr)) rd_ne (de_ix (de_call c_window_of hr (by decide) (passAt tk) (da_cons (de_call c__law_others hr (by decide) (passAt tk) (da_cons (de_step (de_var 5) (do_none) (do_none) (do_some (de_neg (de_int)))) (da_nil))) (da_nil))) (de_int)) (de_var 6) (nomark _))))) (dss_one (ds_ret (de_bl))) (dss_nil)) (dss_one (ds_ret (de_or (de_cmp (op_eqD (hu64 hr)) rd_eq (de_var 6) (de_str) (nomark _)) (de_one (de_cmp (op_eqD (hu64 hr)) rd_eq (de_ix (de_call c_window_of hr (by decide) (passAt tk) (da_cons (de_slice (de_var 5) (do_none) (do_some (de_op op_fdivAll rd_fdiv (de_var 3) (de_int)))) (da_nil))) (de_int)) (de_str) (nomark _))))))))))))))))
end
end Lw
/-! Windows: plain lists. -/
namespace Lw
/-- the items at the even places (false), at the odd ones (true) -/
def sel {α : Type} : Bool → List α → List α
  | _, [] => []
  | false, a :: l => a :: sel true l
  | true, _ :: l => sel false l
def altl : List Bool → Bool
  | [] => true
  | [_] => true
  | a :: b :: r => (a != b) && altl (b :: r)
inductive Win : List Bool → Prop
  | nil : Win []
  | step (b : Bool) {l : List Bool} : altl (sel b l) = true → Win (sel (!b) l) → Win l
theorem sel_nil {α : Type} (b : Bool) : sel b ([] : List α) = [] := by cases b <;> rfl
theorem sel_map {α β : Type} (f : α → β) : ∀ (l : List α) (b : Bool), sel b (l.map f) = (sel b l).map f
  | [], b => by rw [List.map_nil, sel_nil, sel_nil]; rfl
  | a :: l, false => by
    show f a :: sel true (l.map f) = f a :: (sel true l).map f
    rw [sel_map f l]
  | a :: l, true => by
    show sel false (l.map f) = (sel false l).map f
    rw [sel_map f l]
theorem sel_len {α : Type} : ∀ (l : List α) (b : Bool), (sel b l).length = (l.length + (if b then 0 else 1)) / 2
  | [], b => by cases b <;> simp [sel_nil]
  | a :: l, false => by
    show (sel true l).length + 1 = _
    rw [sel_len l, List.length_cons]
    simp
    omega
  | a :: l, true => by
    show (sel false l).length = _
    rw [sel_len l, List.length_cons]
    simp
theorem sel_get {α : Type} : ∀ (l : List α) (b : Bool) (k : Nat), (sel b l)[k]? = l[2 * k + (if b then 1 else 0)]?
  | [], b, k => by rw [sel_nil]; rfl
  | a :: l, false, 0 => rfl
  | a :: l, false, k + 1 => by
    show (sel true l)[k]? = _
    rw [sel_get l]
    rfl
  | a :: l, true, k => by
    show (sel false l)[k]? = _
    rw [sel_get l]
    rfl
theorem sel_app {α : Type} : ∀ (l m : List α) (b : Bool), sel b (l ++ m) = sel b l ++ sel (xor b (l.length % 2 == 1)) m
  | [], m, b => by cases b <;> rfl
  | a :: l, m, false => by
    show a :: sel true (l ++ m) = a :: (sel true l ++ _)
    rw [sel_app l m, List.length_cons]
    congr 3
    rcases Nat.mod_two_eq_zero_or_one l.length with z | z <;> rw [z, Nat.add_mod, z] <;> rfl
  | a :: l, m, true => by
    show sel false (l ++ m) = sel false l ++ _
    rw [sel_app l m, List.length_cons]
    congr 2
    rcases Nat.mod_two_eq_zero_or_one l.length with z | z <;> rw [z, Nat.add_mod, z] <;> rfl
theorem sel_rev {α : Type} : ∀ (l : List α) (b : Bool), sel b l.reverse = (sel (xor b (l.length % 2 == 0)) l).reverse
  | [], b => by rw [List.reverse_nil, sel_nil, sel_nil]; rfl
  | a :: l, b => by
    rw [List.reverse_cons, sel_app, sel_rev l, List.length_reverse, List.length_cons]
    rcases Nat.mod_two_eq_zero_or_one l.length with z | z <;> rw [z, Nat.add_mod, z] <;> cases b
    · show (sel true l).reverse ++ [a] = (a :: sel true l).reverse
      rw [List.reverse_cons]
    · show (sel false l).reverse ++ [] = (sel false l).reverse
      rw [List.append_nil]
    · show (sel false l).reverse ++ [] = (sel false l).reverse
      rw [List.append_nil]
    · show (sel true l).reverse ++ [a] = (a :: sel true l).reverse
      rw [List.reverse_cons]
theorem sel_take {α : Type} : ∀ (l : List α) (b : Bool) (k : Nat), ∃ j, sel b (l.take k) = (sel b l).take j
  | [], b, k => ⟨0, by rw [List.take_nil, sel_nil]; rfl⟩
  | a :: l, b, 0 => ⟨0, by rw [List.take_zero, List.take_zero, sel_nil]⟩
  | a :: l, false, k + 1 => by
    obtain ⟨j, e⟩ := sel_take l true k
    exact ⟨j + 1, by show a :: sel true (l.take k) = a :: (sel true l).take j; rw [e]⟩
  | a :: l, true, k + 1 => by
    obtain ⟨j, e⟩ := sel_take l false k
    exact ⟨j, e⟩
theorem altl_iff : ∀ (l : List Bool), altl l = true ↔ ∀ k a b, l[k]? = some a → l[k + 1]? = some b → (a != b) = true
  | [] => ⟨(fun _ k a b h => by cases h), fun _ => rfl⟩
  | [x] => ⟨(fun _ k a b _ h => by rw [List.getElem?_cons_succ] at h; cases h), fun _ => rfl⟩
  | x :: y :: r => by
    have ih := altl_iff (y :: r)
    show ((x != y) && altl (y :: r)) = true ↔ _
    rw [Bool.and_eq_true, ih]
    refine ⟨fun h k a b h1 h2 => ?_, fun h => ⟨h 0 x y rfl rfl, fun k a b h1 h2 => h (k + 1) a b (by rw [List.getElem?_cons_succ]; exact h1) (by rw [List.getElem?_cons_succ]; exact h2)⟩⟩
    cases k with
    | zero =>
      cases h1
      cases h2
      exact h.1
    | succ k => exact h.2 k a b (by rw [List.getElem?_cons_succ] at h1; exact h1) (by rw [List.getElem?_cons_succ] at h2; exact h2)
theorem altl_not (l : List Bool) (h : altl l = true) : altl (l.map not) = true := by
  rw [altl_iff] at h ⊢
  intro k a b h1 h2
  rw [List.getElem?_map] at h1 h2
  cases q1 : l[k]? with
  | none => rw [q1] at h1; cases h1
  | some x =>
    cases q2 : l[k + 1]? with
    | none => rw [q2] at h2; cases h2
    | some y =>
      rw [q1] at h1
      rw [q2] at h2
      cases h1
      cases h2
      have := h k x y q1 q2
      revert this
      cases x <;> cases y <;> decide
theorem altl_rev (l : List Bool) (h : altl l = true) : altl l.reverse = true := by
  rw [altl_iff] at h ⊢
  intro k a b h1 h2
  have hk : k + 1 < l.length := by
    have := (List.getElem?_eq_some_iff.mp h2).1
    rw [List.length_reverse] at this
    exact this
  rw [List.getElem?_reverse (by omega)] at h1 h2
  have e : l.length - 1 - k = l.length - 1 - (k + 1) + 1 := by omega
  rw [e] at h1
  have := h _ b a h2 h1
  revert this
  cases a <;> cases b <;> decide
theorem altl_take (l : List Bool) (j : Nat) (h : altl l = true) : altl (l.take j) = true := by
  rw [altl_iff] at h ⊢
  intro k a b h1 h2
  rw [List.getElem?_take] at h1 h2
  split at h1
  · split at h2
    · exact h k a b h1 h2
    · cases h2
  · cases h1
theorem Win.not {l : List Bool} (h : Win l) : Win (l.map not) := by
  induction h with
  | nil => exact .nil
  | step b h _ ih => exact .step b (by rw [sel_map]; exact altl_not _ h) (by rw [sel_map]; exact ih)
theorem Win.rev {l : List Bool} (h : Win l) : Win l.reverse := by
  induction h with
  | nil => exact .nil
  | @step b l h _ ih =>
    refine .step (xor b (l.length % 2 == 0)) ?_ ?_
    · rw [sel_rev]
      refine altl_rev _ ?_
      cases b <;> cases (l.length % 2 == 0) <;> exact h
    · rw [sel_rev]
      cases b <;> cases (l.length % 2 == 0) <;> exact ih
theorem Win.take {l : List Bool} (h : Win l) : ∀ k, Win (l.take k) := by
  induction h with
  | nil => intro k; rw [List.take_nil]; exact .nil
  | @step b l h _ ih =>
    intro k
    obtain ⟨j, e⟩ := sel_take l b k
    obtain ⟨j', e'⟩ := sel_take l (!b) k
    exact .step b (by rw [e]; exact altl_take _ _ h) (by rw [e']; exact ih j')
theorem Win.drop {l : List Bool} (h : Win l) (k : Nat) : Win (l.drop k) := by
  have := (h.rev.take (l.length - k)).rev
  rw [List.take_reverse, List.reverse_reverse] at this
  by_cases z : k ≤ l.length
  · rw [show l.length - (l.length - k) = k by omega] at this
    exact this
  · rw [List.drop_eq_nil_of_le (by omega)]
    exact .nil
theorem win_not (l : List Bool) : Win (l.map not) ↔ Win l := ⟨fun h => by
  have := h.not
  rw [List.map_map] at this
  rwa [show not ∘ not = id by funext b; cases b <;> rfl, List.map_id] at this, fun h => h.not⟩
theorem win_rev (l : List Bool) : Win l.reverse ↔ Win l := ⟨fun h => by
  have := h.rev
  rwa [List.reverse_reverse] at this, fun h => h.rev⟩
end Lw
/-! Whole rows are windows. -/
namespace Lw
/-- crease n of a strip with the folds fr, the last first -/
def cr : List Bool → Nat → Bool
  | [], _ => false
  | f :: fs, n => if n % 2 = 1 then xor f (n / 2 % 2 == 1) else cr fs (n / 2)
theorem cr_odd (f : Bool) (fs : List Bool) (k : Nat) : cr (f :: fs) (2 * k + 1) = xor f (k % 2 == 1) := by
  unfold cr
  rw [if_pos (by omega), show (2 * k + 1) / 2 = k by omega]
theorem cr_even (f : Bool) (fs : List Bool) (k : Nat) : cr (f :: fs) (2 * k) = cr fs k := by
  show (if 2 * k % 2 = 1 then _ else _) = _
  rw [if_neg (by omega), show 2 * k / 2 = k by omega]
def rowN (fr : List Bool) : List Bool := (List.range (2 ^ fr.length - 1)).map fun i => cr fr (i + 1)
theorem rowN_len (fr : List Bool) : (rowN fr).length = 2 ^ fr.length - 1 := by unfold rowN; rw [List.length_map, List.length_range]
theorem rowN_get (fr : List Bool) {i : Nat} (h : i + 1 < 2 ^ fr.length) : (rowN fr)[i]? = some (cr fr (i + 1)) := by
  unfold rowN
  rw [List.getElem?_map, List.getElem?_range (by omega)]
  rfl
theorem rowN_none (fr : List Bool) {i : Nat} (h : ¬ i + 1 < 2 ^ fr.length) : (rowN fr)[i]? = none := by
  rw [List.getElem?_eq_none]
  rw [rowN_len]
  omega
theorem row_sel (f : Bool) (fs : List Bool) : sel true (rowN (f :: fs)) = rowN fs := by
  have hp : 2 ^ (f :: fs).length = 2 * 2 ^ fs.length := by rw [List.length_cons, Nat.pow_succ]; omega
  refine List.ext_getElem? fun k => ?_
  rw [sel_get]
  show (rowN (f :: fs))[2 * k + 1]? = _
  by_cases h : k + 1 < 2 ^ fs.length
  · rw [rowN_get _ h, rowN_get _ (by omega), show 2 * k + 1 + 1 = 2 * (k + 1) by omega, cr_even]
  · rw [rowN_none _ h, rowN_none _ (by omega)]
theorem row_alt (f : Bool) (fs : List Bool) : altl (sel false (rowN (f :: fs))) = true := by
  rw [altl_iff]
  intro k a b h1 h2
  rw [sel_get] at h1 h2
  by_cases h : 2 * (k + 1) + 1 < 2 ^ (f :: fs).length
  · rw [show 2 * (k + 1) + (if false = true then 1 else 0) = 2 * (k + 1) by rfl, rowN_get _ h, cr_odd] at h2
    rw [show 2 * k + (if false = true then 1 else 0) = 2 * k by rfl, rowN_get _ (by omega), cr_odd] at h1
    cases h1
    cases h2
    rcases Nat.mod_two_eq_zero_or_one k with z | z <;> rw [z, Nat.add_mod, z] <;> cases f <;> decide
  · rw [show 2 * (k + 1) + (if false = true then 1 else 0) = 2 * (k + 1) by rfl, rowN_none _ h] at h2
    cases h2
theorem row_win : ∀ fr : List Bool, Win (rowN fr)
  | [] => .nil
  | f :: fs => .step false (row_alt f fs) (by rw [Bool.not_false, row_sel]; exact row_win fs)
end Lw
namespace Lw
theorem altl_first : ∀ (l : List Bool), altl l = false → ∃ k a, l[k]? = some a ∧ l[k + 1]? = some a ∧ ∀ j, j < k → ∀ a b, l[j]? = some a → l[j + 1]? = some b → (a == b) = false
  | [], h => by cases h
  | [_], h => by cases h
  | x :: y :: r, h => by
    by_cases z : (x == y) = true
    · rw [beq_iff_eq] at z
      subst z
      exact ⟨0, x, rfl, rfl, fun j hj => by omega⟩
    · have h' : ((x != y) && altl (y :: r)) = false := h
      have : altl (y :: r) = false := by
        revert h' z
        cases x <;> cases y <;> simp
      obtain ⟨k, a, h1, h2, h3⟩ := altl_first (y :: r) this
      refine ⟨k + 1, a, by rw [List.getElem?_cons_succ]; exact h1, by rw [List.getElem?_cons_succ]; exact h2, fun j hj a b e1 e2 => ?_⟩
      cases j with
      | zero =>
        cases e1
        cases e2
        revert z
        cases x <;> cases y <;> simp
      | succ j => exact h3 j (by omega) a b (by rw [List.getElem?_cons_succ] at e1; exact e1) (by rw [List.getElem?_cons_succ] at e2; exact e2)
end Lw
/-! Windows: small values and slices. -/
namespace Lw
open PySem PySem.Spec PyProof.Rows L2 Dl
def cD (b : Bool) : Dat := .str (if b then "V" else "M")
def fD (b : Bool) : Dat := .str (if b then "over" else "under")
def rowD (l : List Bool) : Dat := .tup (l.map cD)
def bitI (b : Bool) : Int := if b then 1 else 0
theorem eq_cc (a b : Bool) : eqD (cD a) (cD b) = some (.bl (a == b)) := by cases a <;> cases b <;> kernel_rfl
theorem ne_cc (a b : Bool) : neD (cD a) (cD b) = some (.bl (!(a == b))) := by cases a <;> cases b <;> kernel_rfl
theorem fD_V (b : Bool) : eqD (cD b) (.str "V") = some (.bl b) := by cases b <;> kernel_rfl
theorem fD_u (b : Bool) : eqD (fD b) (.str "under") = some (.bl !b) := by cases b <;> kernel_rfl
theorem in_c (b : Bool) : inD false (cD b) (.tup [.str "M", .str "V"]) = some (.bl true) := by cases b <;> kernel_rfl
theorem at_nat {α : Type} {l : List α} {i : Nat} (h : i < l.length) : atI l (i : Int) = l[i]? := by
  unfold atI ixN
  rw [if_pos (by omega), if_pos (by omega), Int.toNat_natCast]
  rfl
theorem at_int {α : Type} {l : List α} {j : Int} {i : Nat} (e : j = i) (h : i < l.length) : atI l j = l[i]? := by rw [e, at_nat h]
theorem at_row {l : List Bool} {j : Int} {i : Nat} {b : Bool} (e : j = i) (h : l[i]? = some b) : ixD (.tup (l.map cD)) (.int j) = some (cD b) := by
  have hi := (List.getElem?_eq_some_iff.mp h).1
  show atI _ _ = _
  rw [at_int e (by rw [List.length_map]; exact hi), List.getElem?_map, h]
  rfl
theorem map_pick {α β : Type} (g : α → β) (l : List α) (lo hi : Option Int) (st : Int) : pickD (l.map g) lo hi st = (pickD l lo hi st).map g := by
  unfold pickD
  rw [List.length_map, List.map_filterMap]
  congr 1
  funext m
  rw [List.getElem?_map]
theorem pick_sel {α : Type} (l : List α) (c : Bool) : pickD l (some (bitI c)) none 2 = sel c l := by
  unfold pickD
  have e1 : Builtin.Slice.sliceAdjust (some (bitI c)) none 2 (l.length : Int) = (min (bitI c) (l.length : Int), (l.length : Int)) := by
    show ((if bitI c < 0 then _ else min (bitI c) (l.length : Int)), (l.length : Int)) = _
    rw [if_neg (by cases c <;> decide)]
  rw [e1]
  have e2 : Builtin.Slice.slicePlaces (min (bitI c) (l.length : Int)) (l.length : Int) 2 = (sel c l).length := by
    unfold Builtin.Slice.slicePlaces
    rw [sel_len, if_pos (by decide)]
    cases c <;> simp only [bitI, if_true, if_false, Bool.false_eq_true] <;> split <;> omega
  rw [e2]
  have : ∀ n : Nat, n ≤ (sel c l).length → (List.range n).filterMap (fun (m : Nat) => l[(min (bitI c) (l.length : Int) + (m : Int) * 2).toNat]?) = (sel c l).take n := by
    intro n
    induction n with
    | zero => intro _; rw [List.take_zero]; rfl
    | succ n ih =>
      intro h
      rw [List.range_succ, List.filterMap_append, ih (by omega), List.take_add_one, sel_get]
      congr 1
      rw [List.filterMap_cons]
      have hh : (min (bitI c) (l.length : Int) + (n : Int) * 2).toNat = 2 * n + (if c then 1 else 0) := by
        rw [sel_len] at h
        cases c <;> simp only [bitI, if_true, if_false, Bool.false_eq_true] at h ⊢ <;> omega
      rw [hh]
      cases l[2 * n + (if c then 1 else 0)]? <;> rfl
  rw [this _ (Nat.le_refl _), List.take_length]
theorem pick_rev {α : Type} (l : List α) : pickD l none none (-1) = l.reverse := by
  unfold pickD
  have e1 : Builtin.Slice.sliceAdjust none none (-1) (l.length : Int) = ((l.length : Int) - 1, -1) := rfl
  rw [e1]
  have e2 : Builtin.Slice.slicePlaces ((l.length : Int) - 1) (-1) (-1) = l.length := by
    unfold Builtin.Slice.slicePlaces
    rw [if_neg (by decide)]
    by_cases z : l.length = 0
    · rw [if_neg (by omega), z]
      rfl
    · rw [if_pos (by omega), show (-(-1 : Int)) = 1 by decide, Int.ediv_one]
      omega
  rw [e2]
  have : ∀ n : Nat, n ≤ l.length → (List.range n).filterMap (fun (m : Nat) => l[((l.length : Int) - 1 + (m : Int) * (-1)).toNat]?) = (l.reverse).take n := by
    intro n
    induction n with
    | zero => intro _; rw [List.take_zero]; rfl
    | succ n ih =>
      intro h
      rw [List.range_succ, List.filterMap_append, ih (by omega), List.take_add_one, List.getElem?_reverse (by omega)]
      congr 1
      rw [List.filterMap_cons]
      show (match l[((l.length : Int) - 1 + (n : Int) * (-1)).toNat]? with | none => [] | some b => b :: []) = _
      rw [show ((l.length : Int) - 1 + (n : Int) * (-1)).toNat = l.length - 1 - n by omega, List.getElem?_eq_getElem (by omega)]
      rfl
  rw [this _ (Nat.le_refl _), ← List.length_reverse, List.take_length]
theorem step_sel (l : List Bool) (c : Bool) (h : l.length ≤ 100000) : stepK (some (bitI c)) none (some 2) (.tup (l.map cD)) = some (.tup ((sel c l).map cD)) := by
  show (if (2 : Int) ≠ 0 ∧ (2 : Int) ≠ 1 ∧ (pickD (l.map cD) (some (bitI c)) none 2).length ≤ 10000000 then some (Dat.tup (pickD (l.map cD) (some (bitI c)) none 2)) else none) = _
  rw [map_pick, pick_sel, if_pos]
  refine ⟨by decide, by decide, ?_⟩
  rw [List.length_map, sel_len]
  cases c <;> simp <;> omega
theorem turns_two (l : List Bool) (b : Bool) : (if bitI b < (l.length : Int) - 2 then ((l.length : Int) - 2 - bitI b - 1) / 2 + 1 else 0).toNat = (l.length - 1 - (if b then 1 else 0)) / 2 := by
  cases b <;> simp only [bitI, if_true, if_false, Bool.false_eq_true] <;> split <;> omega
end Lw
/-! Windows: the clash. -/
namespace Lw
open PySem PySem.Spec PyProof.Rows L2 Dl
theorem whole_eq (v a b : Int) : D_is_whole [.int v, .int a, .int b] = .ok (.bl (decide (a ≤ v) && decide (v ≤ b))) := by
  by_cases h : a ≤ v <;> by_cases h2 : v ≤ b <;> simp (disch := (first | omega | (simp only [List.length_map, List.length_append, List.length_cons, List.length_nil, rngC_len, rng_len, List.length_range, List.length_reverse, List.length_take, List.length_drop, List.length_set, List.length_replicate] at *; omega))) only [e_v0, e_vS, e_vC, e_s0, e_sS, e_op, e_op1, e_op2, e_opx, e_opx2, e_some, e_1, e_11, e_t, e_t1, e_tx, e_tr, e_tr1, e_trx, e_trb, e_trn, e_nt, e_nt1, e_ntx, e_and, e_andt, e_andf, e_andx, e_or, e_ort, e_orf, e_orx, e_va, e_vat, e_vaf, e_vax, e_vo, e_vot, e_vof, e_vox, e_vi, e_vit, e_vif, e_vix, e_vl, e_vl1, e_an, e_ac, e_ac1, e_acx, e_ac2, e_acx2, e_tu, e_tu1, e_tux, e_ls, e_ls1, e_cb, e_cb1, e_cbx, e_ca, e_ca_0, e_ca_1, e_ca_2, e_ca_3, e_ca_4, e_ca_5, e_ca_6, e_cax, e_ch, e_ch1, e_ch2, e_ch3, e_ch4, e_sl, e_sl1, e_slt, e_sll, e_slf, e_st, e_st1, e_os, e_os1, e_on, e_ga, e_ga1, e_gs, e_gst, e_gsl, e_gsf, e_ge, e_get, e_r1, e_r1i, e_r2i, e_r3, e_lc, e_lc1, e_wp0, e_wp1, e_gn, e_gt, e_gl, e_gc, e_gc1, e_g0, e_seq, e_seqn, e_seqr, e_seqx, e_seqc, e_seqb, e_nop, e_brk, e_cnt, e_rai, e_asg, e_asg1, e_asgx, e_asgO, e_asgO1, e_asgT, e_asgT1, e_asgTx, e_tg, e_par, e_par1, e_par2, e_parO, e_parO1, e_drop, e_drop1, e_dropx, e_ret, e_ret1, e_retx, e_retN, e_if, e_ift, e_iff, e_ifx, e_aug, e_aug1, e_aug2, e_app, e_app1, e_ext, e_ext1, e_si, e_si1, e_si2, e_si3, e_pop, e_pop1, e_for, e_for1, e_whl, e_fl0, e_ft, e_fsn, e_fsc, e_fsb, e_fsr, e_fsx, e_wtt, e_wtf, e_wsn, e_wsc, e_wsb, e_wsr, e_wsx, e_try, e_tryn, e_tryr, e_tryc, e_try1, e_try1n, e_try1r, e_run, e_endn, e_endr, e_endx, e_sta1, e_sta2, e_sta3, l_eq, l_ne, l_eqbb, l_nebb, l_lt, l_le, l_gt, l_ge, l_add, l_addt, l_addl, l_sub, l_neg, l_mod, l_fdiv, l_mul, l_mul2, l_iadd, l_not, l_len1, l_len2, l_len3, l_int, l_intb, l_tup1, l_tup2, l_lst1, l_lst2, l_max, l_min, l_ixt0, l_ixt1, l_ixt2, l_ixtl, l_ixl0, l_ixl1, l_ixl2, l_ixll, l_isn_bl, l_inn_bl, l_ty_int_bl, l_ty_bool_bl, l_ty_str_bl, l_ty_tuple_bl, l_ty_list_bl, l_isn_int, l_inn_int, l_ty_int_int, l_ty_bool_int, l_ty_str_int, l_ty_tuple_int, l_ty_list_int, l_isn_str, l_inn_str, l_ty_int_str, l_ty_bool_str, l_ty_str_str, l_ty_tuple_str, l_ty_list_str, l_isn_tup, l_inn_tup, l_ty_int_tup, l_ty_bool_tup, l_ty_str_tup, l_ty_tuple_tup, l_ty_list_tup, l_isn_lst, l_inn_lst, l_ty_int_lst, l_ty_bool_lst, l_ty_str_lst, l_ty_tuple_lst, l_ty_list_lst, l_isn_non, l_inn_non, l_ty_int_non, l_ty_bool_non, l_ty_str_non, l_ty_tuple_non, l_ty_list_non, d_t, d_f, Bool.not_true, Bool.not_false, List.length_map, List.length_append, List.length_cons, List.length_nil, List.nil_append, List.cons_append, if_true, if_false, Bool.false_eq_true, ite_true, ite_false, List.map_cons, List.map_nil, beq_self_eq_true, reduceIte, Bool.true_and, Bool.and_true, Bool.false_and, Bool.and_false, Int.reduceAdd, Int.reduceSub, Int.reduceMul, Int.reduceNeg, Int.reduceMod, Int.reduceDiv, Int.reduceToNat, Nat.reduceAdd, Nat.reduceMul, Nat.reduceSub, Bool.or_true, Bool.true_or, Bool.or_false, Bool.false_or, Int.cast_ofNat_Int, decide_true, decide_false, D_is_whole, F_is_whole]
/-- what the first alike pair of a beginning is -/
def Clash (l : List Bool) (b : Bool) (k : Nat) : Prop := k % 2 = (if b then 1 else 0) ∧ k + 2 < l.length ∧ ∃ c, l[k]? = some c ∧ l[k + 2]? = some c
theorem clash_len {l : List Bool} {b : Bool} : (rngC (bitI b) 2 ((l.length - 1 - (if b then 1 else 0)) / 2)).length = (sel b l).length - 1 := by
  rw [rngC_len, sel_len]
  cases b <;> simp <;> omega
theorem sel_at (l : List Bool) (b : Bool) (k : Nat) : (sel b l)[k]? = l[2 * k + (if b then 1 else 0)]? := sel_get l b k
theorem clash_turn (l : List Bool) (b : Bool) {k : Nat} {x y : Bool} {z : Option Dat} (hl : l.length ≤ 100000) (h1 : (sel b l)[k]? = some x) (h2 : (sel b l)[k + 1]? = some y) :
    sIf (vTest (vOp eqD (vOp ixD (vVar 0) (vVar 2)) (vOp ixD (vVar 0) (vOp addD (vVar 2) (vC (.int 2)))))) (sRet (vVar 2)) sNop [some (.tup (l.map cD)), z, some (.int (bitI b + k * 2))] =
      if (x == y) = true then .rt (.int (bitI b + k * 2)) else .nx [some (.tup (l.map cD)), z, some (.int (bitI b + k * 2))] := by
  rw [sel_at] at h1 h2
  have e1 : ixD (.tup (l.map cD)) (.int (bitI b + k * 2)) = some (cD x) := at_row (by cases b <;> simp [bitI] <;> omega) h1
  have e2 : ixD (.tup (l.map cD)) (.int (bitI b + k * 2 + 2)) = some (cD y) := at_row (by cases b <;> simp [bitI] <;> omega) h2
  by_cases q : (x == y) = true
  · simp (disch := (first | omega | (simp only [List.length_map, List.length_append, List.length_cons, List.length_nil, rngC_len, rng_len, List.length_range, List.length_reverse, List.length_take, List.length_drop, List.length_set, List.length_replicate] at *; omega))) only [e_v0, e_vS, e_vC, e_s0, e_sS, e_op, e_op1, e_op2, e_opx, e_opx2, e_some, e_1, e_11, e_t, e_t1, e_tx, e_tr, e_tr1, e_trx, e_trb, e_trn, e_nt, e_nt1, e_ntx, e_and, e_andt, e_andf, e_andx, e_or, e_ort, e_orf, e_orx, e_va, e_vat, e_vaf, e_vax, e_vo, e_vot, e_vof, e_vox, e_vi, e_vit, e_vif, e_vix, e_vl, e_vl1, e_an, e_ac, e_ac1, e_acx, e_ac2, e_acx2, e_tu, e_tu1, e_tux, e_ls, e_ls1, e_cb, e_cb1, e_cbx, e_ca, e_ca_0, e_ca_1, e_ca_2, e_ca_3, e_ca_4, e_ca_5, e_ca_6, e_cax, e_ch, e_ch1, e_ch2, e_ch3, e_ch4, e_sl, e_sl1, e_slt, e_sll, e_slf, e_st, e_st1, e_os, e_os1, e_on, e_ga, e_ga1, e_gs, e_gst, e_gsl, e_gsf, e_ge, e_get, e_r1, e_r1i, e_r2i, e_r3, e_lc, e_lc1, e_wp0, e_wp1, e_gn, e_gt, e_gl, e_gc, e_gc1, e_g0, e_seq, e_seqn, e_seqr, e_seqx, e_seqc, e_seqb, e_nop, e_brk, e_cnt, e_rai, e_asg, e_asg1, e_asgx, e_asgO, e_asgO1, e_asgT, e_asgT1, e_asgTx, e_tg, e_par, e_par1, e_par2, e_parO, e_parO1, e_drop, e_drop1, e_dropx, e_ret, e_ret1, e_retx, e_retN, e_if, e_ift, e_iff, e_ifx, e_aug, e_aug1, e_aug2, e_app, e_app1, e_ext, e_ext1, e_si, e_si1, e_si2, e_si3, e_pop, e_pop1, e_for, e_for1, e_whl, e_fl0, e_ft, e_fsn, e_fsc, e_fsb, e_fsr, e_fsx, e_wtt, e_wtf, e_wsn, e_wsc, e_wsb, e_wsr, e_wsx, e_try, e_tryn, e_tryr, e_tryc, e_try1, e_try1n, e_try1r, e_run, e_endn, e_endr, e_endx, e_sta1, e_sta2, e_sta3, l_eq, l_ne, l_eqbb, l_nebb, l_lt, l_le, l_gt, l_ge, l_add, l_addt, l_addl, l_sub, l_neg, l_mod, l_fdiv, l_mul, l_mul2, l_iadd, l_not, l_len1, l_len2, l_len3, l_int, l_intb, l_tup1, l_tup2, l_lst1, l_lst2, l_max, l_min, l_ixt0, l_ixt1, l_ixt2, l_ixtl, l_ixl0, l_ixl1, l_ixl2, l_ixll, l_isn_bl, l_inn_bl, l_ty_int_bl, l_ty_bool_bl, l_ty_str_bl, l_ty_tuple_bl, l_ty_list_bl, l_isn_int, l_inn_int, l_ty_int_int, l_ty_bool_int, l_ty_str_int, l_ty_tuple_int, l_ty_list_int, l_isn_str, l_inn_str, l_ty_int_str, l_ty_bool_str, l_ty_str_str, l_ty_tuple_str, l_ty_list_str, l_isn_tup, l_inn_tup, l_ty_int_tup, l_ty_bool_tup, l_ty_str_tup, l_ty_tuple_tup, l_ty_list_tup, l_isn_lst, l_inn_lst, l_ty_int_lst, l_ty_bool_lst, l_ty_str_lst, l_ty_tuple_lst, l_ty_list_lst, l_isn_non, l_inn_non, l_ty_int_non, l_ty_bool_non, l_ty_str_non, l_ty_tuple_non, l_ty_list_non, d_t, d_f, Bool.not_true, Bool.not_false, List.length_map, List.length_append, List.length_cons, List.length_nil, List.nil_append, List.cons_append, if_true, if_false, Bool.false_eq_true, ite_true, ite_false, List.map_cons, List.map_nil, beq_self_eq_true, reduceIte, Bool.true_and, Bool.and_true, Bool.false_and, Bool.and_false, Int.reduceAdd, Int.reduceSub, Int.reduceMul, Int.reduceNeg, Int.reduceMod, Int.reduceDiv, Int.reduceToNat, Nat.reduceAdd, Nat.reduceMul, Nat.reduceSub, Bool.or_true, Bool.true_or, Bool.or_false, Bool.false_or, Int.cast_ofNat_Int, decide_true, decide_false, e1, e2, eq_cc, q]
  · simp (disch := (first | omega | (simp only [List.length_map, List.length_append, List.length_cons, List.length_nil, rngC_len, rng_len, List.length_range, List.length_reverse, List.length_take, List.length_drop, List.length_set, List.length_replicate] at *; omega))) only [e_v0, e_vS, e_vC, e_s0, e_sS, e_op, e_op1, e_op2, e_opx, e_opx2, e_some, e_1, e_11, e_t, e_t1, e_tx, e_tr, e_tr1, e_trx, e_trb, e_trn, e_nt, e_nt1, e_ntx, e_and, e_andt, e_andf, e_andx, e_or, e_ort, e_orf, e_orx, e_va, e_vat, e_vaf, e_vax, e_vo, e_vot, e_vof, e_vox, e_vi, e_vit, e_vif, e_vix, e_vl, e_vl1, e_an, e_ac, e_ac1, e_acx, e_ac2, e_acx2, e_tu, e_tu1, e_tux, e_ls, e_ls1, e_cb, e_cb1, e_cbx, e_ca, e_ca_0, e_ca_1, e_ca_2, e_ca_3, e_ca_4, e_ca_5, e_ca_6, e_cax, e_ch, e_ch1, e_ch2, e_ch3, e_ch4, e_sl, e_sl1, e_slt, e_sll, e_slf, e_st, e_st1, e_os, e_os1, e_on, e_ga, e_ga1, e_gs, e_gst, e_gsl, e_gsf, e_ge, e_get, e_r1, e_r1i, e_r2i, e_r3, e_lc, e_lc1, e_wp0, e_wp1, e_gn, e_gt, e_gl, e_gc, e_gc1, e_g0, e_seq, e_seqn, e_seqr, e_seqx, e_seqc, e_seqb, e_nop, e_brk, e_cnt, e_rai, e_asg, e_asg1, e_asgx, e_asgO, e_asgO1, e_asgT, e_asgT1, e_asgTx, e_tg, e_par, e_par1, e_par2, e_parO, e_parO1, e_drop, e_drop1, e_dropx, e_ret, e_ret1, e_retx, e_retN, e_if, e_ift, e_iff, e_ifx, e_aug, e_aug1, e_aug2, e_app, e_app1, e_ext, e_ext1, e_si, e_si1, e_si2, e_si3, e_pop, e_pop1, e_for, e_for1, e_whl, e_fl0, e_ft, e_fsn, e_fsc, e_fsb, e_fsr, e_fsx, e_wtt, e_wtf, e_wsn, e_wsc, e_wsb, e_wsr, e_wsx, e_try, e_tryn, e_tryr, e_tryc, e_try1, e_try1n, e_try1r, e_run, e_endn, e_endr, e_endx, e_sta1, e_sta2, e_sta3, l_eq, l_ne, l_eqbb, l_nebb, l_lt, l_le, l_gt, l_ge, l_add, l_addt, l_addl, l_sub, l_neg, l_mod, l_fdiv, l_mul, l_mul2, l_iadd, l_not, l_len1, l_len2, l_len3, l_int, l_intb, l_tup1, l_tup2, l_lst1, l_lst2, l_max, l_min, l_ixt0, l_ixt1, l_ixt2, l_ixtl, l_ixl0, l_ixl1, l_ixl2, l_ixll, l_isn_bl, l_inn_bl, l_ty_int_bl, l_ty_bool_bl, l_ty_str_bl, l_ty_tuple_bl, l_ty_list_bl, l_isn_int, l_inn_int, l_ty_int_int, l_ty_bool_int, l_ty_str_int, l_ty_tuple_int, l_ty_list_int, l_isn_str, l_inn_str, l_ty_int_str, l_ty_bool_str, l_ty_str_str, l_ty_tuple_str, l_ty_list_str, l_isn_tup, l_inn_tup, l_ty_int_tup, l_ty_bool_tup, l_ty_str_tup, l_ty_tuple_tup, l_ty_list_tup, l_isn_lst, l_inn_lst, l_ty_int_lst, l_ty_bool_lst, l_ty_str_lst, l_ty_tuple_lst, l_ty_list_lst, l_isn_non, l_inn_non, l_ty_int_non, l_ty_bool_non, l_ty_str_non, l_ty_tuple_non, l_ty_list_non, d_t, d_f, Bool.not_true, Bool.not_false, List.length_map, List.length_append, List.length_cons, List.length_nil, List.nil_append, List.cons_append, if_true, if_false, Bool.false_eq_true, ite_true, ite_false, List.map_cons, List.map_nil, beq_self_eq_true, reduceIte, Bool.true_and, Bool.and_true, Bool.false_and, Bool.and_false, Int.reduceAdd, Int.reduceSub, Int.reduceMul, Int.reduceNeg, Int.reduceMod, Int.reduceDiv, Int.reduceToNat, Nat.reduceAdd, Nat.reduceMul, Nat.reduceSub, Bool.or_true, Bool.true_or, Bool.or_false, Bool.false_or, Int.cast_ofNat_Int, decide_true, decide_false, e1, e2, eq_cc, q]
theorem bit_b (b : Bool) : 0 ≤ bitI b ∧ bitI b ≤ 1 := by cases b <;> decide
theorem clash_no (l : List Bool) (b : Bool) (hl : l.length ≤ 100000) (h : altl (sel b l) = true) : D__clash [.tup (l.map cD), .int (bitI b)] = .ok .non := by
  have hb := bit_b b
  simp (disch := (first | omega | (simp only [List.length_map, List.length_append, List.length_cons, List.length_nil, rngC_len, rng_len, List.length_range, List.length_reverse, List.length_take, List.length_drop, List.length_set, List.length_replicate] at *; omega))) only [e_v0, e_vS, e_vC, e_s0, e_sS, e_op, e_op1, e_op2, e_opx, e_opx2, e_some, e_1, e_11, e_t, e_t1, e_tx, e_tr, e_tr1, e_trx, e_trb, e_trn, e_nt, e_nt1, e_ntx, e_and, e_andt, e_andf, e_andx, e_or, e_ort, e_orf, e_orx, e_va, e_vat, e_vaf, e_vax, e_vo, e_vot, e_vof, e_vox, e_vi, e_vit, e_vif, e_vix, e_vl, e_vl1, e_an, e_ac, e_ac1, e_acx, e_ac2, e_acx2, e_tu, e_tu1, e_tux, e_ls, e_ls1, e_cb, e_cb1, e_cbx, e_ca, e_ca_0, e_ca_1, e_ca_2, e_ca_3, e_ca_4, e_ca_5, e_ca_6, e_cax, e_ch, e_ch1, e_ch2, e_ch3, e_ch4, e_sl, e_sl1, e_slt, e_sll, e_slf, e_st, e_st1, e_os, e_os1, e_on, e_ga, e_ga1, e_gs, e_gst, e_gsl, e_gsf, e_ge, e_get, e_r1, e_r1i, e_r2i, e_r3, e_lc, e_lc1, e_wp0, e_wp1, e_gn, e_gt, e_gl, e_gc, e_gc1, e_g0, e_seq, e_seqn, e_seqr, e_seqx, e_seqc, e_seqb, e_nop, e_brk, e_cnt, e_rai, e_asg, e_asg1, e_asgx, e_asgO, e_asgO1, e_asgT, e_asgT1, e_asgTx, e_tg, e_par, e_par1, e_par2, e_parO, e_parO1, e_drop, e_drop1, e_dropx, e_ret, e_ret1, e_retx, e_retN, e_if, e_ift, e_iff, e_ifx, e_aug, e_aug1, e_aug2, e_app, e_app1, e_ext, e_ext1, e_si, e_si1, e_si2, e_si3, e_pop, e_pop1, e_for, e_for1, e_whl, e_fl0, e_ft, e_fsn, e_fsc, e_fsb, e_fsr, e_fsx, e_wtt, e_wtf, e_wsn, e_wsc, e_wsb, e_wsr, e_wsx, e_try, e_tryn, e_tryr, e_tryc, e_try1, e_try1n, e_try1r, e_run, e_endn, e_endr, e_endx, e_sta1, e_sta2, e_sta3, l_eq, l_ne, l_eqbb, l_nebb, l_lt, l_le, l_gt, l_ge, l_add, l_addt, l_addl, l_sub, l_neg, l_mod, l_fdiv, l_mul, l_mul2, l_iadd, l_not, l_len1, l_len2, l_len3, l_int, l_intb, l_tup1, l_tup2, l_lst1, l_lst2, l_max, l_min, l_ixt0, l_ixt1, l_ixt2, l_ixtl, l_ixl0, l_ixl1, l_ixl2, l_ixll, l_isn_bl, l_inn_bl, l_ty_int_bl, l_ty_bool_bl, l_ty_str_bl, l_ty_tuple_bl, l_ty_list_bl, l_isn_int, l_inn_int, l_ty_int_int, l_ty_bool_int, l_ty_str_int, l_ty_tuple_int, l_ty_list_int, l_isn_str, l_inn_str, l_ty_int_str, l_ty_bool_str, l_ty_str_str, l_ty_tuple_str, l_ty_list_str, l_isn_tup, l_inn_tup, l_ty_int_tup, l_ty_bool_tup, l_ty_str_tup, l_ty_tuple_tup, l_ty_list_tup, l_isn_lst, l_inn_lst, l_ty_int_lst, l_ty_bool_lst, l_ty_str_lst, l_ty_tuple_lst, l_ty_list_lst, l_isn_non, l_inn_non, l_ty_int_non, l_ty_bool_non, l_ty_str_non, l_ty_tuple_non, l_ty_list_non, d_t, d_f, Bool.not_true, Bool.not_false, List.length_map, List.length_append, List.length_cons, List.length_nil, List.nil_append, List.cons_append, if_true, if_false, Bool.false_eq_true, ite_true, ite_false, List.map_cons, List.map_nil, beq_self_eq_true, reduceIte, Bool.true_and, Bool.and_true, Bool.false_and, Bool.and_false, Int.reduceAdd, Int.reduceSub, Int.reduceMul, Int.reduceNeg, Int.reduceMod, Int.reduceDiv, Int.reduceToNat, Nat.reduceAdd, Nat.reduceMul, Nat.reduceSub, Bool.or_true, Bool.true_or, Bool.or_false, Bool.false_or, Int.cast_ofNat_Int, decide_true, decide_false, D__clash, F__clash, turns_two]
  generalize hF : forL _ _ _ _ = r
  obtain ⟨ρ', rfl, y, rfl⟩ := forL_inv' hF (fun k ρ => ∃ y, ρ = [some (.tup (l.map cD)), some (.int (bitI b)), y]) ⟨_, rfl⟩ fun k d ρ hk hp => by
    obtain ⟨y, rfl⟩ := hp
    obtain ⟨_, rfl⟩ := rngC_get hk
    have hk' := (List.getElem?_eq_some_iff.mp hk).1
    rw [clash_len] at hk'
    have h1 := List.getElem?_eq_getElem (l := sel b l) (i := k) (by omega)
    have h2 := List.getElem?_eq_getElem (l := sel b l) (i := k + 1) (by omega)
    have q := (altl_iff _).mp h k _ _ h1 h2
    exact ⟨_, _, rfl, .inl ((clash_turn l b hl h1 h2).trans (if_neg (by simpa using q))), _, rfl⟩
  simp (disch := (first | omega | (simp only [List.length_map, List.length_append, List.length_cons, List.length_nil, rngC_len, rng_len, List.length_range, List.length_reverse, List.length_take, List.length_drop, List.length_set, List.length_replicate] at *; omega))) only [e_v0, e_vS, e_vC, e_s0, e_sS, e_op, e_op1, e_op2, e_opx, e_opx2, e_some, e_1, e_11, e_t, e_t1, e_tx, e_tr, e_tr1, e_trx, e_trb, e_trn, e_nt, e_nt1, e_ntx, e_and, e_andt, e_andf, e_andx, e_or, e_ort, e_orf, e_orx, e_va, e_vat, e_vaf, e_vax, e_vo, e_vot, e_vof, e_vox, e_vi, e_vit, e_vif, e_vix, e_vl, e_vl1, e_an, e_ac, e_ac1, e_acx, e_ac2, e_acx2, e_tu, e_tu1, e_tux, e_ls, e_ls1, e_cb, e_cb1, e_cbx, e_ca, e_ca_0, e_ca_1, e_ca_2, e_ca_3, e_ca_4, e_ca_5, e_ca_6, e_cax, e_ch, e_ch1, e_ch2, e_ch3, e_ch4, e_sl, e_sl1, e_slt, e_sll, e_slf, e_st, e_st1, e_os, e_os1, e_on, e_ga, e_ga1, e_gs, e_gst, e_gsl, e_gsf, e_ge, e_get, e_r1, e_r1i, e_r2i, e_r3, e_lc, e_lc1, e_wp0, e_wp1, e_gn, e_gt, e_gl, e_gc, e_gc1, e_g0, e_seq, e_seqn, e_seqr, e_seqx, e_seqc, e_seqb, e_nop, e_brk, e_cnt, e_rai, e_asg, e_asg1, e_asgx, e_asgO, e_asgO1, e_asgT, e_asgT1, e_asgTx, e_tg, e_par, e_par1, e_par2, e_parO, e_parO1, e_drop, e_drop1, e_dropx, e_ret, e_ret1, e_retx, e_retN, e_if, e_ift, e_iff, e_ifx, e_aug, e_aug1, e_aug2, e_app, e_app1, e_ext, e_ext1, e_si, e_si1, e_si2, e_si3, e_pop, e_pop1, e_for, e_for1, e_whl, e_fl0, e_ft, e_fsn, e_fsc, e_fsb, e_fsr, e_fsx, e_wtt, e_wtf, e_wsn, e_wsc, e_wsb, e_wsr, e_wsx, e_try, e_tryn, e_tryr, e_tryc, e_try1, e_try1n, e_try1r, e_run, e_endn, e_endr, e_endx, e_sta1, e_sta2, e_sta3, l_eq, l_ne, l_eqbb, l_nebb, l_lt, l_le, l_gt, l_ge, l_add, l_addt, l_addl, l_sub, l_neg, l_mod, l_fdiv, l_mul, l_mul2, l_iadd, l_not, l_len1, l_len2, l_len3, l_int, l_intb, l_tup1, l_tup2, l_lst1, l_lst2, l_max, l_min, l_ixt0, l_ixt1, l_ixt2, l_ixtl, l_ixl0, l_ixl1, l_ixl2, l_ixll, l_isn_bl, l_inn_bl, l_ty_int_bl, l_ty_bool_bl, l_ty_str_bl, l_ty_tuple_bl, l_ty_list_bl, l_isn_int, l_inn_int, l_ty_int_int, l_ty_bool_int, l_ty_str_int, l_ty_tuple_int, l_ty_list_int, l_isn_str, l_inn_str, l_ty_int_str, l_ty_bool_str, l_ty_str_str, l_ty_tuple_str, l_ty_list_str, l_isn_tup, l_inn_tup, l_ty_int_tup, l_ty_bool_tup, l_ty_str_tup, l_ty_tuple_tup, l_ty_list_tup, l_isn_lst, l_inn_lst, l_ty_int_lst, l_ty_bool_lst, l_ty_str_lst, l_ty_tuple_lst, l_ty_list_lst, l_isn_non, l_inn_non, l_ty_int_non, l_ty_bool_non, l_ty_str_non, l_ty_tuple_non, l_ty_list_non, d_t, d_f, Bool.not_true, Bool.not_false, List.length_map, List.length_append, List.length_cons, List.length_nil, List.nil_append, List.cons_append, if_true, if_false, Bool.false_eq_true, ite_true, ite_false, List.map_cons, List.map_nil, beq_self_eq_true, reduceIte, Bool.true_and, Bool.and_true, Bool.false_and, Bool.and_false, Int.reduceAdd, Int.reduceSub, Int.reduceMul, Int.reduceNeg, Int.reduceMod, Int.reduceDiv, Int.reduceToNat, Nat.reduceAdd, Nat.reduceMul, Nat.reduceSub, Bool.or_true, Bool.true_or, Bool.or_false, Bool.false_or, Int.cast_ofNat_Int, decide_true, decide_false]
theorem clash_yes (l : List Bool) (b : Bool) (hl : l.length ≤ 100000) (h : altl (sel b l) = false) : ∃ k : Nat, D__clash [.tup (l.map cD), .int (bitI b)] = .ok (.int k) ∧ Clash l b k := by
  have hb := bit_b b
  obtain ⟨m, a, h1, h2, h3⟩ := altl_first _ h
  have hm := (List.getElem?_eq_some_iff.mp h2).1
  refine ⟨2 * m + (if b then 1 else 0), ?_, by cases b <;> simp <;> omega, ?_, a, ?_, ?_⟩
  · simp (disch := (first | omega | (simp only [List.length_map, List.length_append, List.length_cons, List.length_nil, rngC_len, rng_len, List.length_range, List.length_reverse, List.length_take, List.length_drop, List.length_set, List.length_replicate] at *; omega))) only [e_v0, e_vS, e_vC, e_s0, e_sS, e_op, e_op1, e_op2, e_opx, e_opx2, e_some, e_1, e_11, e_t, e_t1, e_tx, e_tr, e_tr1, e_trx, e_trb, e_trn, e_nt, e_nt1, e_ntx, e_and, e_andt, e_andf, e_andx, e_or, e_ort, e_orf, e_orx, e_va, e_vat, e_vaf, e_vax, e_vo, e_vot, e_vof, e_vox, e_vi, e_vit, e_vif, e_vix, e_vl, e_vl1, e_an, e_ac, e_ac1, e_acx, e_ac2, e_acx2, e_tu, e_tu1, e_tux, e_ls, e_ls1, e_cb, e_cb1, e_cbx, e_ca, e_ca_0, e_ca_1, e_ca_2, e_ca_3, e_ca_4, e_ca_5, e_ca_6, e_cax, e_ch, e_ch1, e_ch2, e_ch3, e_ch4, e_sl, e_sl1, e_slt, e_sll, e_slf, e_st, e_st1, e_os, e_os1, e_on, e_ga, e_ga1, e_gs, e_gst, e_gsl, e_gsf, e_ge, e_get, e_r1, e_r1i, e_r2i, e_r3, e_lc, e_lc1, e_wp0, e_wp1, e_gn, e_gt, e_gl, e_gc, e_gc1, e_g0, e_seq, e_seqn, e_seqr, e_seqx, e_seqc, e_seqb, e_nop, e_brk, e_cnt, e_rai, e_asg, e_asg1, e_asgx, e_asgO, e_asgO1, e_asgT, e_asgT1, e_asgTx, e_tg, e_par, e_par1, e_par2, e_parO, e_parO1, e_drop, e_drop1, e_dropx, e_ret, e_ret1, e_retx, e_retN, e_if, e_ift, e_iff, e_ifx, e_aug, e_aug1, e_aug2, e_app, e_app1, e_ext, e_ext1, e_si, e_si1, e_si2, e_si3, e_pop, e_pop1, e_for, e_for1, e_whl, e_fl0, e_ft, e_fsn, e_fsc, e_fsb, e_fsr, e_fsx, e_wtt, e_wtf, e_wsn, e_wsc, e_wsb, e_wsr, e_wsx, e_try, e_tryn, e_tryr, e_tryc, e_try1, e_try1n, e_try1r, e_run, e_endn, e_endr, e_endx, e_sta1, e_sta2, e_sta3, l_eq, l_ne, l_eqbb, l_nebb, l_lt, l_le, l_gt, l_ge, l_add, l_addt, l_addl, l_sub, l_neg, l_mod, l_fdiv, l_mul, l_mul2, l_iadd, l_not, l_len1, l_len2, l_len3, l_int, l_intb, l_tup1, l_tup2, l_lst1, l_lst2, l_max, l_min, l_ixt0, l_ixt1, l_ixt2, l_ixtl, l_ixl0, l_ixl1, l_ixl2, l_ixll, l_isn_bl, l_inn_bl, l_ty_int_bl, l_ty_bool_bl, l_ty_str_bl, l_ty_tuple_bl, l_ty_list_bl, l_isn_int, l_inn_int, l_ty_int_int, l_ty_bool_int, l_ty_str_int, l_ty_tuple_int, l_ty_list_int, l_isn_str, l_inn_str, l_ty_int_str, l_ty_bool_str, l_ty_str_str, l_ty_tuple_str, l_ty_list_str, l_isn_tup, l_inn_tup, l_ty_int_tup, l_ty_bool_tup, l_ty_str_tup, l_ty_tuple_tup, l_ty_list_tup, l_isn_lst, l_inn_lst, l_ty_int_lst, l_ty_bool_lst, l_ty_str_lst, l_ty_tuple_lst, l_ty_list_lst, l_isn_non, l_inn_non, l_ty_int_non, l_ty_bool_non, l_ty_str_non, l_ty_tuple_non, l_ty_list_non, d_t, d_f, Bool.not_true, Bool.not_false, List.length_map, List.length_append, List.length_cons, List.length_nil, List.nil_append, List.cons_append, if_true, if_false, Bool.false_eq_true, ite_true, ite_false, List.map_cons, List.map_nil, beq_self_eq_true, reduceIte, Bool.true_and, Bool.and_true, Bool.false_and, Bool.and_false, Int.reduceAdd, Int.reduceSub, Int.reduceMul, Int.reduceNeg, Int.reduceMod, Int.reduceDiv, Int.reduceToNat, Nat.reduceAdd, Nat.reduceMul, Nat.reduceSub, Bool.or_true, Bool.true_or, Bool.or_false, Bool.false_or, Int.cast_ofNat_Int, decide_true, decide_false, D__clash, F__clash, turns_two]
    generalize hF : forL _ _ _ _ = r
    have := forL_ret' hF (m := m) (x := .int (bitI b + m * 2)) (fun k ρ => ∃ y, ρ = [some (.tup (l.map cD)), some (.int (bitI b)), y]) (by rw [clash_len]; omega) ⟨_, rfl⟩ (fun k d ρ hk hkm hp => by
      obtain ⟨y, rfl⟩ := hp
      obtain ⟨_, rfl⟩ := rngC_get hk
      have h1 := List.getElem?_eq_getElem (l := sel b l) (i := k) (by omega)
      have h2 := List.getElem?_eq_getElem (l := sel b l) (i := k + 1) (by omega)
      have q := h3 k hkm _ _ h1 h2
      exact ⟨_, _, rfl, .inl ((clash_turn l b hl h1 h2).trans (if_neg (by rw [q]; decide))), _, rfl⟩) fun d ρ hk hp => by
      obtain ⟨y, rfl⟩ := hp
      obtain ⟨_, rfl⟩ := rngC_get hk
      refine ⟨_, rfl, (clash_turn l b hl h1 h2).trans ?_⟩
      rw [if_pos (beq_self_eq_true a)]
    subst this
    simp (disch := (first | omega | (simp only [List.length_map, List.length_append, List.length_cons, List.length_nil, rngC_len, rng_len, List.length_range, List.length_reverse, List.length_take, List.length_drop, List.length_set, List.length_replicate] at *; omega))) only [e_v0, e_vS, e_vC, e_s0, e_sS, e_op, e_op1, e_op2, e_opx, e_opx2, e_some, e_1, e_11, e_t, e_t1, e_tx, e_tr, e_tr1, e_trx, e_trb, e_trn, e_nt, e_nt1, e_ntx, e_and, e_andt, e_andf, e_andx, e_or, e_ort, e_orf, e_orx, e_va, e_vat, e_vaf, e_vax, e_vo, e_vot, e_vof, e_vox, e_vi, e_vit, e_vif, e_vix, e_vl, e_vl1, e_an, e_ac, e_ac1, e_acx, e_ac2, e_acx2, e_tu, e_tu1, e_tux, e_ls, e_ls1, e_cb, e_cb1, e_cbx, e_ca, e_ca_0, e_ca_1, e_ca_2, e_ca_3, e_ca_4, e_ca_5, e_ca_6, e_cax, e_ch, e_ch1, e_ch2, e_ch3, e_ch4, e_sl, e_sl1, e_slt, e_sll, e_slf, e_st, e_st1, e_os, e_os1, e_on, e_ga, e_ga1, e_gs, e_gst, e_gsl, e_gsf, e_ge, e_get, e_r1, e_r1i, e_r2i, e_r3, e_lc, e_lc1, e_wp0, e_wp1, e_gn, e_gt, e_gl, e_gc, e_gc1, e_g0, e_seq, e_seqn, e_seqr, e_seqx, e_seqc, e_seqb, e_nop, e_brk, e_cnt, e_rai, e_asg, e_asg1, e_asgx, e_asgO, e_asgO1, e_asgT, e_asgT1, e_asgTx, e_tg, e_par, e_par1, e_par2, e_parO, e_parO1, e_drop, e_drop1, e_dropx, e_ret, e_ret1, e_retx, e_retN, e_if, e_ift, e_iff, e_ifx, e_aug, e_aug1, e_aug2, e_app, e_app1, e_ext, e_ext1, e_si, e_si1, e_si2, e_si3, e_pop, e_pop1, e_for, e_for1, e_whl, e_fl0, e_ft, e_fsn, e_fsc, e_fsb, e_fsr, e_fsx, e_wtt, e_wtf, e_wsn, e_wsc, e_wsb, e_wsr, e_wsx, e_try, e_tryn, e_tryr, e_tryc, e_try1, e_try1n, e_try1r, e_run, e_endn, e_endr, e_endx, e_sta1, e_sta2, e_sta3, l_eq, l_ne, l_eqbb, l_nebb, l_lt, l_le, l_gt, l_ge, l_add, l_addt, l_addl, l_sub, l_neg, l_mod, l_fdiv, l_mul, l_mul2, l_iadd, l_not, l_len1, l_len2, l_len3, l_int, l_intb, l_tup1, l_tup2, l_lst1, l_lst2, l_max, l_min, l_ixt0, l_ixt1, l_ixt2, l_ixtl, l_ixl0, l_ixl1, l_ixl2, l_ixll, l_isn_bl, l_inn_bl, l_ty_int_bl, l_ty_bool_bl, l_ty_str_bl, l_ty_tuple_bl, l_ty_list_bl, l_isn_int, l_inn_int, l_ty_int_int, l_ty_bool_int, l_ty_str_int, l_ty_tuple_int, l_ty_list_int, l_isn_str, l_inn_str, l_ty_int_str, l_ty_bool_str, l_ty_str_str, l_ty_tuple_str, l_ty_list_str, l_isn_tup, l_inn_tup, l_ty_int_tup, l_ty_bool_tup, l_ty_str_tup, l_ty_tuple_tup, l_ty_list_tup, l_isn_lst, l_inn_lst, l_ty_int_lst, l_ty_bool_lst, l_ty_str_lst, l_ty_tuple_lst, l_ty_list_lst, l_isn_non, l_inn_non, l_ty_int_non, l_ty_bool_non, l_ty_str_non, l_ty_tuple_non, l_ty_list_non, d_t, d_f, Bool.not_true, Bool.not_false, List.length_map, List.length_append, List.length_cons, List.length_nil, List.nil_append, List.cons_append, if_true, if_false, Bool.false_eq_true, ite_true, ite_false, List.map_cons, List.map_nil, beq_self_eq_true, reduceIte, Bool.true_and, Bool.and_true, Bool.false_and, Bool.and_false, Int.reduceAdd, Int.reduceSub, Int.reduceMul, Int.reduceNeg, Int.reduceMod, Int.reduceDiv, Int.reduceToNat, Nat.reduceAdd, Nat.reduceMul, Nat.reduceSub, Bool.or_true, Bool.true_or, Bool.or_false, Bool.false_or, Int.cast_ofNat_Int, decide_true, decide_false]
    congr 2
    cases b <;> simp [bitI] <;> omega
  · have := (List.getElem?_eq_some_iff.mp (sel_at l b (m + 1) ▸ h2)).1
    omega
  · rw [← sel_at]; exact h1
  · rw [show 2 * m + (if b then 1 else 0) + 2 = 2 * (m + 1) + (if b then 1 else 0) by omega, ← sel_at]
    exact h2
end Lw
/-! Windows: the search. -/
namespace Lw
open PySem PySem.Spec PyProof.Rows L2 Dl
def Good : List Bool → List Bool → Prop
  | l, [] => l = []
  | l, b :: p => l ≠ [] ∧ altl (sel b l) = true ∧ Good (sel (!b) l) p
def pathD (p : List Bool) : List Dat := p.map fun b => .int (bitI b)
def clD (k : Nat) : Dat := .tup [.str "clash", .int (k : Int)]
def rsD (its : List Dat) : Dat := .tup [.str "rest", .tup its]
def It (P : List Bool → List Dat → Prop) (l : List Bool) (b : Bool) (i : Dat) : Prop := (∃ k, Clash l b k ∧ i = clD k) ∨ (∃ its, P (sel (!b) l) its ∧ i = rsD its)
def Bad : Nat → List Bool → List Dat → Prop
  | 0, _, _ => False
  | n + 1, l, its => l ≠ [] ∧ ∃ i0 i1, its = [i0, i1] ∧ It (Bad n) l false i0 ∧ It (Bad n) l true i1
def Found (f n q : Nat) (l : List Bool) : Prop :=
  (Win l ∧ ∃ p, R__searched f [.tup (l.map cD)] = .ok (.tup [.bl true, .tup (pathD p)]) ∧ Good l p ∧ p.length ≤ q) ∨
  (¬ Win l ∧ ∃ its, R__searched f [.tup (l.map cD)] = .ok (.tup [.bl false, .tup its]) ∧ Bad n l its)
theorem found_nil (f n q : Nat) : Found (f + 1) n q [] := .inl ⟨.nil, [], by
  show runD 6 (F__searched (R__searched f)) _ = _
  simp (disch := (first | omega | (simp only [List.length_map, List.length_append, List.length_cons, List.length_nil, rngC_len, rng_len, List.length_range, List.length_reverse, List.length_take, List.length_drop, List.length_set, List.length_replicate] at *; omega))) only [e_v0, e_vS, e_vC, e_s0, e_sS, e_op, e_op1, e_op2, e_opx, e_opx2, e_some, e_1, e_11, e_t, e_t1, e_tx, e_tr, e_tr1, e_trx, e_trb, e_trn, e_nt, e_nt1, e_ntx, e_and, e_andt, e_andf, e_andx, e_or, e_ort, e_orf, e_orx, e_va, e_vat, e_vaf, e_vax, e_vo, e_vot, e_vof, e_vox, e_vi, e_vit, e_vif, e_vix, e_vl, e_vl1, e_an, e_ac, e_ac1, e_acx, e_ac2, e_acx2, e_tu, e_tu1, e_tux, e_ls, e_ls1, e_cb, e_cb1, e_cbx, e_ca, e_ca_0, e_ca_1, e_ca_2, e_ca_3, e_ca_4, e_ca_5, e_ca_6, e_cax, e_ch, e_ch1, e_ch2, e_ch3, e_ch4, e_sl, e_sl1, e_slt, e_sll, e_slf, e_st, e_st1, e_os, e_os1, e_on, e_ga, e_ga1, e_gs, e_gst, e_gsl, e_gsf, e_ge, e_get, e_r1, e_r1i, e_r2i, e_r3, e_lc, e_lc1, e_wp0, e_wp1, e_gn, e_gt, e_gl, e_gc, e_gc1, e_g0, e_seq, e_seqn, e_seqr, e_seqx, e_seqc, e_seqb, e_nop, e_brk, e_cnt, e_rai, e_asg, e_asg1, e_asgx, e_asgO, e_asgO1, e_asgT, e_asgT1, e_asgTx, e_tg, e_par, e_par1, e_par2, e_parO, e_parO1, e_drop, e_drop1, e_dropx, e_ret, e_ret1, e_retx, e_retN, e_if, e_ift, e_iff, e_ifx, e_aug, e_aug1, e_aug2, e_app, e_app1, e_ext, e_ext1, e_si, e_si1, e_si2, e_si3, e_pop, e_pop1, e_for, e_for1, e_whl, e_fl0, e_ft, e_fsn, e_fsc, e_fsb, e_fsr, e_fsx, e_wtt, e_wtf, e_wsn, e_wsc, e_wsb, e_wsr, e_wsx, e_try, e_tryn, e_tryr, e_tryc, e_try1, e_try1n, e_try1r, e_run, e_endn, e_endr, e_endx, e_sta1, e_sta2, e_sta3, l_eq, l_ne, l_eqbb, l_nebb, l_lt, l_le, l_gt, l_ge, l_add, l_addt, l_addl, l_sub, l_neg, l_mod, l_fdiv, l_mul, l_mul2, l_iadd, l_not, l_len1, l_len2, l_len3, l_int, l_intb, l_tup1, l_tup2, l_lst1, l_lst2, l_max, l_min, l_ixt0, l_ixt1, l_ixt2, l_ixtl, l_ixl0, l_ixl1, l_ixl2, l_ixll, l_isn_bl, l_inn_bl, l_ty_int_bl, l_ty_bool_bl, l_ty_str_bl, l_ty_tuple_bl, l_ty_list_bl, l_isn_int, l_inn_int, l_ty_int_int, l_ty_bool_int, l_ty_str_int, l_ty_tuple_int, l_ty_list_int, l_isn_str, l_inn_str, l_ty_int_str, l_ty_bool_str, l_ty_str_str, l_ty_tuple_str, l_ty_list_str, l_isn_tup, l_inn_tup, l_ty_int_tup, l_ty_bool_tup, l_ty_str_tup, l_ty_tuple_tup, l_ty_list_tup, l_isn_lst, l_inn_lst, l_ty_int_lst, l_ty_bool_lst, l_ty_str_lst, l_ty_tuple_lst, l_ty_list_lst, l_isn_non, l_inn_non, l_ty_int_non, l_ty_bool_non, l_ty_str_non, l_ty_tuple_non, l_ty_list_non, d_t, d_f, Bool.not_true, Bool.not_false, List.length_map, List.length_append, List.length_cons, List.length_nil, List.nil_append, List.cons_append, if_true, if_false, Bool.false_eq_true, ite_true, ite_false, List.map_cons, List.map_nil, beq_self_eq_true, reduceIte, Bool.true_and, Bool.and_true, Bool.false_and, Bool.and_false, Int.reduceAdd, Int.reduceSub, Int.reduceMul, Int.reduceNeg, Int.reduceMod, Int.reduceDiv, Int.reduceToNat, Nat.reduceAdd, Nat.reduceMul, Nat.reduceSub, Bool.or_true, Bool.true_or, Bool.or_false, Bool.false_or, Int.cast_ofNat_Int, decide_true, decide_false, F__searched, pathD], rfl, Nat.zero_le _⟩
/-- an item of a beginning -/
theorem win_inv {l : List Bool} (h : l ≠ []) : Win l ↔ (altl (sel false l) = true ∧ Win (sel true l)) ∨ (altl (sel true l) = true ∧ Win (sel false l)) := by
  constructor
  · intro w
    cases w with
    | nil => exact absurd rfl h
    | step b h1 h2 =>
      cases b with
      | false => exact .inl ⟨h1, h2⟩
      | true => exact .inr ⟨h1, h2⟩
  · rintro (⟨h1, h2⟩ | ⟨h1, h2⟩)
    · exact .step false h1 h2
    · exact .step true h1 h2
theorem found_step {f n q : Nat} {l : List Bool} (hl : l ≠ []) (hn : l.length ≤ 10000) (hq : q ≤ 1000) (h0 : altl (sel false l) = true → Found f n q (sel true l))
    (h1 : ¬ (altl (sel false l) = true ∧ Win (sel true l)) → altl (sel true l) = true → Found f n q (sel false l)) : Found (f + 1) (n + 1) (q + 1) l := by
  have hp : 0 < l.length := List.length_pos_iff.mpr hl
  have s0 : stepK (some 1) none (some 2) (.tup (l.map cD)) = some (.tup ((sel true l).map cD)) := step_sel l true (by omega)
  have s1 : stepK (some 0) none (some 2) (.tup (l.map cD)) = some (.tup ((sel false l).map cD)) := step_sel l false (by omega)
  have g0 : sel (!false) l = sel true l := rfl
  have g1 : sel (!true) l = sel false l := rfl
  unfold Found
  rw [show R__searched (f + 1) = runD 6 (F__searched (R__searched f)) from rfl]
  by_cases a0 : altl (sel false l) = true
  · have e0 : D__clash [.tup (l.map cD), .int 0] = .ok .non := clash_no l false (by omega) a0
    rcases h0 a0 with ⟨w, p, ep, gp, lp⟩ | ⟨w, its, ei, bi⟩
    · refine .inl ⟨(win_inv hl).mpr (.inl ⟨a0, w⟩), false :: p, ?_, ⟨hl, a0, gp⟩, by simp; omega⟩
      have lp' : (pathD p).length ≤ 1000 := by unfold pathD; rw [List.length_map]; omega
      simp (disch := (first | omega | (simp only [List.length_map, List.length_append, List.length_cons, List.length_nil, rngC_len, rng_len, List.length_range, List.length_reverse, List.length_take, List.length_drop, List.length_set, List.length_replicate] at *; omega))) only [e_v0, e_vS, e_vC, e_s0, e_sS, e_op, e_op1, e_op2, e_opx, e_opx2, e_some, e_1, e_11, e_t, e_t1, e_tx, e_tr, e_tr1, e_trx, e_trb, e_trn, e_nt, e_nt1, e_ntx, e_and, e_andt, e_andf, e_andx, e_or, e_ort, e_orf, e_orx, e_va, e_vat, e_vaf, e_vax, e_vo, e_vot, e_vof, e_vox, e_vi, e_vit, e_vif, e_vix, e_vl, e_vl1, e_an, e_ac, e_ac1, e_acx, e_ac2, e_acx2, e_tu, e_tu1, e_tux, e_ls, e_ls1, e_cb, e_cb1, e_cbx, e_ca, e_ca_0, e_ca_1, e_ca_2, e_ca_3, e_ca_4, e_ca_5, e_ca_6, e_cax, e_ch, e_ch1, e_ch2, e_ch3, e_ch4, e_sl, e_sl1, e_slt, e_sll, e_slf, e_st, e_st1, e_os, e_os1, e_on, e_ga, e_ga1, e_gs, e_gst, e_gsl, e_gsf, e_ge, e_get, e_r1, e_r1i, e_r2i, e_r3, e_lc, e_lc1, e_wp0, e_wp1, e_gn, e_gt, e_gl, e_gc, e_gc1, e_g0, e_seq, e_seqn, e_seqr, e_seqx, e_seqc, e_seqb, e_nop, e_brk, e_cnt, e_rai, e_asg, e_asg1, e_asgx, e_asgO, e_asgO1, e_asgT, e_asgT1, e_asgTx, e_tg, e_par, e_par1, e_par2, e_parO, e_parO1, e_drop, e_drop1, e_dropx, e_ret, e_ret1, e_retx, e_retN, e_if, e_ift, e_iff, e_ifx, e_aug, e_aug1, e_aug2, e_app, e_app1, e_ext, e_ext1, e_si, e_si1, e_si2, e_si3, e_pop, e_pop1, e_for, e_for1, e_whl, e_fl0, e_ft, e_fsn, e_fsc, e_fsb, e_fsr, e_fsx, e_wtt, e_wtf, e_wsn, e_wsc, e_wsb, e_wsr, e_wsx, e_try, e_tryn, e_tryr, e_tryc, e_try1, e_try1n, e_try1r, e_run, e_endn, e_endr, e_endx, e_sta1, e_sta2, e_sta3, l_eq, l_ne, l_eqbb, l_nebb, l_lt, l_le, l_gt, l_ge, l_add, l_addt, l_addl, l_sub, l_neg, l_mod, l_fdiv, l_mul, l_mul2, l_iadd, l_not, l_len1, l_len2, l_len3, l_int, l_intb, l_tup1, l_tup2, l_lst1, l_lst2, l_max, l_min, l_ixt0, l_ixt1, l_ixt2, l_ixtl, l_ixl0, l_ixl1, l_ixl2, l_ixll, l_isn_bl, l_inn_bl, l_ty_int_bl, l_ty_bool_bl, l_ty_str_bl, l_ty_tuple_bl, l_ty_list_bl, l_isn_int, l_inn_int, l_ty_int_int, l_ty_bool_int, l_ty_str_int, l_ty_tuple_int, l_ty_list_int, l_isn_str, l_inn_str, l_ty_int_str, l_ty_bool_str, l_ty_str_str, l_ty_tuple_str, l_ty_list_str, l_isn_tup, l_inn_tup, l_ty_int_tup, l_ty_bool_tup, l_ty_str_tup, l_ty_tuple_tup, l_ty_list_tup, l_isn_lst, l_inn_lst, l_ty_int_lst, l_ty_bool_lst, l_ty_str_lst, l_ty_tuple_lst, l_ty_list_lst, l_isn_non, l_inn_non, l_ty_int_non, l_ty_bool_non, l_ty_str_non, l_ty_tuple_non, l_ty_list_non, d_t, d_f, Bool.not_true, Bool.not_false, List.length_map, List.length_append, List.length_cons, List.length_nil, List.nil_append, List.cons_append, if_true, if_false, Bool.false_eq_true, ite_true, ite_false, List.map_cons, List.map_nil, beq_self_eq_true, reduceIte, Bool.true_and, Bool.and_true, Bool.false_and, Bool.and_false, Int.reduceAdd, Int.reduceSub, Int.reduceMul, Int.reduceNeg, Int.reduceMod, Int.reduceDiv, Int.reduceToNat, Nat.reduceAdd, Nat.reduceMul, Nat.reduceSub, Bool.or_true, Bool.true_or, Bool.or_false, Bool.false_or, Int.cast_ofNat_Int, decide_true, decide_false, F__searched, u_for, e0, s0, ep]
      rfl
    · by_cases a1 : altl (sel true l) = true
      · have e1 : D__clash [.tup (l.map cD), .int 1] = .ok .non := clash_no l true (by omega) a1
        rcases h1 (fun z => w z.2) a1 with ⟨w1, p, ep, gp, lp⟩ | ⟨w1, its1, ei1, bi1⟩
        · refine .inl ⟨(win_inv hl).mpr (.inr ⟨a1, w1⟩), true :: p, ?_, ⟨hl, a1, gp⟩, by simp; omega⟩
          have lp' : (pathD p).length ≤ 1000 := by unfold pathD; rw [List.length_map]; omega
          simp (disch := (first | omega | (simp only [List.length_map, List.length_append, List.length_cons, List.length_nil, rngC_len, rng_len, List.length_range, List.length_reverse, List.length_take, List.length_drop, List.length_set, List.length_replicate] at *; omega))) only [e_v0, e_vS, e_vC, e_s0, e_sS, e_op, e_op1, e_op2, e_opx, e_opx2, e_some, e_1, e_11, e_t, e_t1, e_tx, e_tr, e_tr1, e_trx, e_trb, e_trn, e_nt, e_nt1, e_ntx, e_and, e_andt, e_andf, e_andx, e_or, e_ort, e_orf, e_orx, e_va, e_vat, e_vaf, e_vax, e_vo, e_vot, e_vof, e_vox, e_vi, e_vit, e_vif, e_vix, e_vl, e_vl1, e_an, e_ac, e_ac1, e_acx, e_ac2, e_acx2, e_tu, e_tu1, e_tux, e_ls, e_ls1, e_cb, e_cb1, e_cbx, e_ca, e_ca_0, e_ca_1, e_ca_2, e_ca_3, e_ca_4, e_ca_5, e_ca_6, e_cax, e_ch, e_ch1, e_ch2, e_ch3, e_ch4, e_sl, e_sl1, e_slt, e_sll, e_slf, e_st, e_st1, e_os, e_os1, e_on, e_ga, e_ga1, e_gs, e_gst, e_gsl, e_gsf, e_ge, e_get, e_r1, e_r1i, e_r2i, e_r3, e_lc, e_lc1, e_wp0, e_wp1, e_gn, e_gt, e_gl, e_gc, e_gc1, e_g0, e_seq, e_seqn, e_seqr, e_seqx, e_seqc, e_seqb, e_nop, e_brk, e_cnt, e_rai, e_asg, e_asg1, e_asgx, e_asgO, e_asgO1, e_asgT, e_asgT1, e_asgTx, e_tg, e_par, e_par1, e_par2, e_parO, e_parO1, e_drop, e_drop1, e_dropx, e_ret, e_ret1, e_retx, e_retN, e_if, e_ift, e_iff, e_ifx, e_aug, e_aug1, e_aug2, e_app, e_app1, e_ext, e_ext1, e_si, e_si1, e_si2, e_si3, e_pop, e_pop1, e_for, e_for1, e_whl, e_fl0, e_ft, e_fsn, e_fsc, e_fsb, e_fsr, e_fsx, e_wtt, e_wtf, e_wsn, e_wsc, e_wsb, e_wsr, e_wsx, e_try, e_tryn, e_tryr, e_tryc, e_try1, e_try1n, e_try1r, e_run, e_endn, e_endr, e_endx, e_sta1, e_sta2, e_sta3, l_eq, l_ne, l_eqbb, l_nebb, l_lt, l_le, l_gt, l_ge, l_add, l_addt, l_addl, l_sub, l_neg, l_mod, l_fdiv, l_mul, l_mul2, l_iadd, l_not, l_len1, l_len2, l_len3, l_int, l_intb, l_tup1, l_tup2, l_lst1, l_lst2, l_max, l_min, l_ixt0, l_ixt1, l_ixt2, l_ixtl, l_ixl0, l_ixl1, l_ixl2, l_ixll, l_isn_bl, l_inn_bl, l_ty_int_bl, l_ty_bool_bl, l_ty_str_bl, l_ty_tuple_bl, l_ty_list_bl, l_isn_int, l_inn_int, l_ty_int_int, l_ty_bool_int, l_ty_str_int, l_ty_tuple_int, l_ty_list_int, l_isn_str, l_inn_str, l_ty_int_str, l_ty_bool_str, l_ty_str_str, l_ty_tuple_str, l_ty_list_str, l_isn_tup, l_inn_tup, l_ty_int_tup, l_ty_bool_tup, l_ty_str_tup, l_ty_tuple_tup, l_ty_list_tup, l_isn_lst, l_inn_lst, l_ty_int_lst, l_ty_bool_lst, l_ty_str_lst, l_ty_tuple_lst, l_ty_list_lst, l_isn_non, l_inn_non, l_ty_int_non, l_ty_bool_non, l_ty_str_non, l_ty_tuple_non, l_ty_list_non, d_t, d_f, Bool.not_true, Bool.not_false, List.length_map, List.length_append, List.length_cons, List.length_nil, List.nil_append, List.cons_append, if_true, if_false, Bool.false_eq_true, ite_true, ite_false, List.map_cons, List.map_nil, beq_self_eq_true, reduceIte, Bool.true_and, Bool.and_true, Bool.false_and, Bool.and_false, Int.reduceAdd, Int.reduceSub, Int.reduceMul, Int.reduceNeg, Int.reduceMod, Int.reduceDiv, Int.reduceToNat, Nat.reduceAdd, Nat.reduceMul, Nat.reduceSub, Bool.or_true, Bool.true_or, Bool.or_false, Bool.false_or, Int.cast_ofNat_Int, decide_true, decide_false, F__searched, u_for, e0, s0, ei, e1, s1, ep]
          rfl
        · refine .inr ⟨fun z => ?_, [rsD its, rsD its1], ?_, hl, _, _, rfl, .inr ⟨its, bi, rfl⟩, .inr ⟨its1, bi1, rfl⟩⟩
          · rcases (win_inv hl).mp z with z | z
            · exact w z.2
            · exact w1 z.2
          · simp (disch := (first | omega | (simp only [List.length_map, List.length_append, List.length_cons, List.length_nil, rngC_len, rng_len, List.length_range, List.length_reverse, List.length_take, List.length_drop, List.length_set, List.length_replicate] at *; omega))) only [e_v0, e_vS, e_vC, e_s0, e_sS, e_op, e_op1, e_op2, e_opx, e_opx2, e_some, e_1, e_11, e_t, e_t1, e_tx, e_tr, e_tr1, e_trx, e_trb, e_trn, e_nt, e_nt1, e_ntx, e_and, e_andt, e_andf, e_andx, e_or, e_ort, e_orf, e_orx, e_va, e_vat, e_vaf, e_vax, e_vo, e_vot, e_vof, e_vox, e_vi, e_vit, e_vif, e_vix, e_vl, e_vl1, e_an, e_ac, e_ac1, e_acx, e_ac2, e_acx2, e_tu, e_tu1, e_tux, e_ls, e_ls1, e_cb, e_cb1, e_cbx, e_ca, e_ca_0, e_ca_1, e_ca_2, e_ca_3, e_ca_4, e_ca_5, e_ca_6, e_cax, e_ch, e_ch1, e_ch2, e_ch3, e_ch4, e_sl, e_sl1, e_slt, e_sll, e_slf, e_st, e_st1, e_os, e_os1, e_on, e_ga, e_ga1, e_gs, e_gst, e_gsl, e_gsf, e_ge, e_get, e_r1, e_r1i, e_r2i, e_r3, e_lc, e_lc1, e_wp0, e_wp1, e_gn, e_gt, e_gl, e_gc, e_gc1, e_g0, e_seq, e_seqn, e_seqr, e_seqx, e_seqc, e_seqb, e_nop, e_brk, e_cnt, e_rai, e_asg, e_asg1, e_asgx, e_asgO, e_asgO1, e_asgT, e_asgT1, e_asgTx, e_tg, e_par, e_par1, e_par2, e_parO, e_parO1, e_drop, e_drop1, e_dropx, e_ret, e_ret1, e_retx, e_retN, e_if, e_ift, e_iff, e_ifx, e_aug, e_aug1, e_aug2, e_app, e_app1, e_ext, e_ext1, e_si, e_si1, e_si2, e_si3, e_pop, e_pop1, e_for, e_for1, e_whl, e_fl0, e_ft, e_fsn, e_fsc, e_fsb, e_fsr, e_fsx, e_wtt, e_wtf, e_wsn, e_wsc, e_wsb, e_wsr, e_wsx, e_try, e_tryn, e_tryr, e_tryc, e_try1, e_try1n, e_try1r, e_run, e_endn, e_endr, e_endx, e_sta1, e_sta2, e_sta3, l_eq, l_ne, l_eqbb, l_nebb, l_lt, l_le, l_gt, l_ge, l_add, l_addt, l_addl, l_sub, l_neg, l_mod, l_fdiv, l_mul, l_mul2, l_iadd, l_not, l_len1, l_len2, l_len3, l_int, l_intb, l_tup1, l_tup2, l_lst1, l_lst2, l_max, l_min, l_ixt0, l_ixt1, l_ixt2, l_ixtl, l_ixl0, l_ixl1, l_ixl2, l_ixll, l_isn_bl, l_inn_bl, l_ty_int_bl, l_ty_bool_bl, l_ty_str_bl, l_ty_tuple_bl, l_ty_list_bl, l_isn_int, l_inn_int, l_ty_int_int, l_ty_bool_int, l_ty_str_int, l_ty_tuple_int, l_ty_list_int, l_isn_str, l_inn_str, l_ty_int_str, l_ty_bool_str, l_ty_str_str, l_ty_tuple_str, l_ty_list_str, l_isn_tup, l_inn_tup, l_ty_int_tup, l_ty_bool_tup, l_ty_str_tup, l_ty_tuple_tup, l_ty_list_tup, l_isn_lst, l_inn_lst, l_ty_int_lst, l_ty_bool_lst, l_ty_str_lst, l_ty_tuple_lst, l_ty_list_lst, l_isn_non, l_inn_non, l_ty_int_non, l_ty_bool_non, l_ty_str_non, l_ty_tuple_non, l_ty_list_non, d_t, d_f, Bool.not_true, Bool.not_false, List.length_map, List.length_append, List.length_cons, List.length_nil, List.nil_append, List.cons_append, if_true, if_false, Bool.false_eq_true, ite_true, ite_false, List.map_cons, List.map_nil, beq_self_eq_true, reduceIte, Bool.true_and, Bool.and_true, Bool.false_and, Bool.and_false, Int.reduceAdd, Int.reduceSub, Int.reduceMul, Int.reduceNeg, Int.reduceMod, Int.reduceDiv, Int.reduceToNat, Nat.reduceAdd, Nat.reduceMul, Nat.reduceSub, Bool.or_true, Bool.true_or, Bool.or_false, Bool.false_or, Int.cast_ofNat_Int, decide_true, decide_false, F__searched, u_for, e0, s0, ei, e1, s1, ei1]
            rfl
      · obtain ⟨k, e1, hk⟩ := clash_yes l true (by omega) (by simpa using a1)
        have e1 : D__clash [.tup (l.map cD), .int 1] = .ok (.int k) := e1
        refine .inr ⟨fun z => ?_, [rsD its, clD k], ?_, hl, _, _, rfl, .inr ⟨its, bi, rfl⟩, .inl ⟨k, hk, rfl⟩⟩
        · rcases (win_inv hl).mp z with z | z
          · exact w z.2
          · exact a1 z.1
        · simp (disch := (first | omega | (simp only [List.length_map, List.length_append, List.length_cons, List.length_nil, rngC_len, rng_len, List.length_range, List.length_reverse, List.length_take, List.length_drop, List.length_set, List.length_replicate] at *; omega))) only [e_v0, e_vS, e_vC, e_s0, e_sS, e_op, e_op1, e_op2, e_opx, e_opx2, e_some, e_1, e_11, e_t, e_t1, e_tx, e_tr, e_tr1, e_trx, e_trb, e_trn, e_nt, e_nt1, e_ntx, e_and, e_andt, e_andf, e_andx, e_or, e_ort, e_orf, e_orx, e_va, e_vat, e_vaf, e_vax, e_vo, e_vot, e_vof, e_vox, e_vi, e_vit, e_vif, e_vix, e_vl, e_vl1, e_an, e_ac, e_ac1, e_acx, e_ac2, e_acx2, e_tu, e_tu1, e_tux, e_ls, e_ls1, e_cb, e_cb1, e_cbx, e_ca, e_ca_0, e_ca_1, e_ca_2, e_ca_3, e_ca_4, e_ca_5, e_ca_6, e_cax, e_ch, e_ch1, e_ch2, e_ch3, e_ch4, e_sl, e_sl1, e_slt, e_sll, e_slf, e_st, e_st1, e_os, e_os1, e_on, e_ga, e_ga1, e_gs, e_gst, e_gsl, e_gsf, e_ge, e_get, e_r1, e_r1i, e_r2i, e_r3, e_lc, e_lc1, e_wp0, e_wp1, e_gn, e_gt, e_gl, e_gc, e_gc1, e_g0, e_seq, e_seqn, e_seqr, e_seqx, e_seqc, e_seqb, e_nop, e_brk, e_cnt, e_rai, e_asg, e_asg1, e_asgx, e_asgO, e_asgO1, e_asgT, e_asgT1, e_asgTx, e_tg, e_par, e_par1, e_par2, e_parO, e_parO1, e_drop, e_drop1, e_dropx, e_ret, e_ret1, e_retx, e_retN, e_if, e_ift, e_iff, e_ifx, e_aug, e_aug1, e_aug2, e_app, e_app1, e_ext, e_ext1, e_si, e_si1, e_si2, e_si3, e_pop, e_pop1, e_for, e_for1, e_whl, e_fl0, e_ft, e_fsn, e_fsc, e_fsb, e_fsr, e_fsx, e_wtt, e_wtf, e_wsn, e_wsc, e_wsb, e_wsr, e_wsx, e_try, e_tryn, e_tryr, e_tryc, e_try1, e_try1n, e_try1r, e_run, e_endn, e_endr, e_endx, e_sta1, e_sta2, e_sta3, l_eq, l_ne, l_eqbb, l_nebb, l_lt, l_le, l_gt, l_ge, l_add, l_addt, l_addl, l_sub, l_neg, l_mod, l_fdiv, l_mul, l_mul2, l_iadd, l_not, l_len1, l_len2, l_len3, l_int, l_intb, l_tup1, l_tup2, l_lst1, l_lst2, l_max, l_min, l_ixt0, l_ixt1, l_ixt2, l_ixtl, l_ixl0, l_ixl1, l_ixl2, l_ixll, l_isn_bl, l_inn_bl, l_ty_int_bl, l_ty_bool_bl, l_ty_str_bl, l_ty_tuple_bl, l_ty_list_bl, l_isn_int, l_inn_int, l_ty_int_int, l_ty_bool_int, l_ty_str_int, l_ty_tuple_int, l_ty_list_int, l_isn_str, l_inn_str, l_ty_int_str, l_ty_bool_str, l_ty_str_str, l_ty_tuple_str, l_ty_list_str, l_isn_tup, l_inn_tup, l_ty_int_tup, l_ty_bool_tup, l_ty_str_tup, l_ty_tuple_tup, l_ty_list_tup, l_isn_lst, l_inn_lst, l_ty_int_lst, l_ty_bool_lst, l_ty_str_lst, l_ty_tuple_lst, l_ty_list_lst, l_isn_non, l_inn_non, l_ty_int_non, l_ty_bool_non, l_ty_str_non, l_ty_tuple_non, l_ty_list_non, d_t, d_f, Bool.not_true, Bool.not_false, List.length_map, List.length_append, List.length_cons, List.length_nil, List.nil_append, List.cons_append, if_true, if_false, Bool.false_eq_true, ite_true, ite_false, List.map_cons, List.map_nil, beq_self_eq_true, reduceIte, Bool.true_and, Bool.and_true, Bool.false_and, Bool.and_false, Int.reduceAdd, Int.reduceSub, Int.reduceMul, Int.reduceNeg, Int.reduceMod, Int.reduceDiv, Int.reduceToNat, Nat.reduceAdd, Nat.reduceMul, Nat.reduceSub, Bool.or_true, Bool.true_or, Bool.or_false, Bool.false_or, Int.cast_ofNat_Int, decide_true, decide_false, F__searched, u_for, e0, s0, ei, e1]
          rfl
  · obtain ⟨k, e0, hk⟩ := clash_yes l false (by omega) (by simpa using a0)
    have e0 : D__clash [.tup (l.map cD), .int 0] = .ok (.int k) := e0
    by_cases a1 : altl (sel true l) = true
    · have e1 : D__clash [.tup (l.map cD), .int 1] = .ok .non := clash_no l true (by omega) a1
      rcases h1 (fun z => a0 z.1) a1 with ⟨w1, p, ep, gp, lp⟩ | ⟨w1, its1, ei1, bi1⟩
      · refine .inl ⟨(win_inv hl).mpr (.inr ⟨a1, w1⟩), true :: p, ?_, ⟨hl, a1, gp⟩, by simp; omega⟩
        have lp' : (pathD p).length ≤ 1000 := by unfold pathD; rw [List.length_map]; omega
        simp (disch := (first | omega | (simp only [List.length_map, List.length_append, List.length_cons, List.length_nil, rngC_len, rng_len, List.length_range, List.length_reverse, List.length_take, List.length_drop, List.length_set, List.length_replicate] at *; omega))) only [e_v0, e_vS, e_vC, e_s0, e_sS, e_op, e_op1, e_op2, e_opx, e_opx2, e_some, e_1, e_11, e_t, e_t1, e_tx, e_tr, e_tr1, e_trx, e_trb, e_trn, e_nt, e_nt1, e_ntx, e_and, e_andt, e_andf, e_andx, e_or, e_ort, e_orf, e_orx, e_va, e_vat, e_vaf, e_vax, e_vo, e_vot, e_vof, e_vox, e_vi, e_vit, e_vif, e_vix, e_vl, e_vl1, e_an, e_ac, e_ac1, e_acx, e_ac2, e_acx2, e_tu, e_tu1, e_tux, e_ls, e_ls1, e_cb, e_cb1, e_cbx, e_ca, e_ca_0, e_ca_1, e_ca_2, e_ca_3, e_ca_4, e_ca_5, e_ca_6, e_cax, e_ch, e_ch1, e_ch2, e_ch3, e_ch4, e_sl, e_sl1, e_slt, e_sll, e_slf, e_st, e_st1, e_os, e_os1, e_on, e_ga, e_ga1, e_gs, e_gst, e_gsl, e_gsf, e_ge, e_get, e_r1, e_r1i, e_r2i, e_r3, e_lc, e_lc1, e_wp0, e_wp1, e_gn, e_gt, e_gl, e_gc, e_gc1, e_g0, e_seq, e_seqn, e_seqr, e_seqx, e_seqc, e_seqb, e_nop, e_brk, e_cnt, e_rai, e_asg, e_asg1, e_asgx, e_asgO, e_asgO1, e_asgT, e_asgT1, e_asgTx, e_tg, e_par, e_par1, e_par2, e_parO, e_parO1, e_drop, e_drop1, e_dropx, e_ret, e_ret1, e_retx, e_retN, e_if, e_ift, e_iff, e_ifx, e_aug, e_aug1, e_aug2, e_app, e_app1, e_ext, e_ext1, e_si, e_si1, e_si2, e_si3, e_pop, e_pop1, e_for, e_for1, e_whl, e_fl0, e_ft, e_fsn, e_fsc, e_fsb, e_fsr, e_fsx, e_wtt, e_wtf, e_wsn, e_wsc, e_wsb, e_wsr, e_wsx, e_try, e_tryn, e_tryr, e_tryc, e_try1, e_try1n, e_try1r, e_run, e_endn, e_endr, e_endx, e_sta1, e_sta2, e_sta3, l_eq, l_ne, l_eqbb, l_nebb, l_lt, l_le, l_gt, l_ge, l_add, l_addt, l_addl, l_sub, l_neg, l_mod, l_fdiv, l_mul, l_mul2, l_iadd, l_not, l_len1, l_len2, l_len3, l_int, l_intb, l_tup1, l_tup2, l_lst1, l_lst2, l_max, l_min, l_ixt0, l_ixt1, l_ixt2, l_ixtl, l_ixl0, l_ixl1, l_ixl2, l_ixll, l_isn_bl, l_inn_bl, l_ty_int_bl, l_ty_bool_bl, l_ty_str_bl, l_ty_tuple_bl, l_ty_list_bl, l_isn_int, l_inn_int, l_ty_int_int, l_ty_bool_int, l_ty_str_int, l_ty_tuple_int, l_ty_list_int, l_isn_str, l_inn_str, l_ty_int_str, l_ty_bool_str, l_ty_str_str, l_ty_tuple_str, l_ty_list_str, l_isn_tup, l_inn_tup, l_ty_int_tup, l_ty_bool_tup, l_ty_str_tup, l_ty_tuple_tup, l_ty_list_tup, l_isn_lst, l_inn_lst, l_ty_int_lst, l_ty_bool_lst, l_ty_str_lst, l_ty_tuple_lst, l_ty_list_lst, l_isn_non, l_inn_non, l_ty_int_non, l_ty_bool_non, l_ty_str_non, l_ty_tuple_non, l_ty_list_non, d_t, d_f, Bool.not_true, Bool.not_false, List.length_map, List.length_append, List.length_cons, List.length_nil, List.nil_append, List.cons_append, if_true, if_false, Bool.false_eq_true, ite_true, ite_false, List.map_cons, List.map_nil, beq_self_eq_true, reduceIte, Bool.true_and, Bool.and_true, Bool.false_and, Bool.and_false, Int.reduceAdd, Int.reduceSub, Int.reduceMul, Int.reduceNeg, Int.reduceMod, Int.reduceDiv, Int.reduceToNat, Nat.reduceAdd, Nat.reduceMul, Nat.reduceSub, Bool.or_true, Bool.true_or, Bool.or_false, Bool.false_or, Int.cast_ofNat_Int, decide_true, decide_false, F__searched, u_for, e0, s0, e1, s1, ep]
        rfl
      · refine .inr ⟨fun z => ?_, [clD k, rsD its1], ?_, hl, _, _, rfl, .inl ⟨k, hk, rfl⟩, .inr ⟨its1, bi1, rfl⟩⟩
        · rcases (win_inv hl).mp z with z | z
          · exact a0 z.1
          · exact w1 z.2
        · simp (disch := (first | omega | (simp only [List.length_map, List.length_append, List.length_cons, List.length_nil, rngC_len, rng_len, List.length_range, List.length_reverse, List.length_take, List.length_drop, List.length_set, List.length_replicate] at *; omega))) only [e_v0, e_vS, e_vC, e_s0, e_sS, e_op, e_op1, e_op2, e_opx, e_opx2, e_some, e_1, e_11, e_t, e_t1, e_tx, e_tr, e_tr1, e_trx, e_trb, e_trn, e_nt, e_nt1, e_ntx, e_and, e_andt, e_andf, e_andx, e_or, e_ort, e_orf, e_orx, e_va, e_vat, e_vaf, e_vax, e_vo, e_vot, e_vof, e_vox, e_vi, e_vit, e_vif, e_vix, e_vl, e_vl1, e_an, e_ac, e_ac1, e_acx, e_ac2, e_acx2, e_tu, e_tu1, e_tux, e_ls, e_ls1, e_cb, e_cb1, e_cbx, e_ca, e_ca_0, e_ca_1, e_ca_2, e_ca_3, e_ca_4, e_ca_5, e_ca_6, e_cax, e_ch, e_ch1, e_ch2, e_ch3, e_ch4, e_sl, e_sl1, e_slt, e_sll, e_slf, e_st, e_st1, e_os, e_os1, e_on, e_ga, e_ga1, e_gs, e_gst, e_gsl, e_gsf, e_ge, e_get, e_r1, e_r1i, e_r2i, e_r3, e_lc, e_lc1, e_wp0, e_wp1, e_gn, e_gt, e_gl, e_gc, e_gc1, e_g0, e_seq, e_seqn, e_seqr, e_seqx, e_seqc, e_seqb, e_nop, e_brk, e_cnt, e_rai, e_asg, e_asg1, e_asgx, e_asgO, e_asgO1, e_asgT, e_asgT1, e_asgTx, e_tg, e_par, e_par1, e_par2, e_parO, e_parO1, e_drop, e_drop1, e_dropx, e_ret, e_ret1, e_retx, e_retN, e_if, e_ift, e_iff, e_ifx, e_aug, e_aug1, e_aug2, e_app, e_app1, e_ext, e_ext1, e_si, e_si1, e_si2, e_si3, e_pop, e_pop1, e_for, e_for1, e_whl, e_fl0, e_ft, e_fsn, e_fsc, e_fsb, e_fsr, e_fsx, e_wtt, e_wtf, e_wsn, e_wsc, e_wsb, e_wsr, e_wsx, e_try, e_tryn, e_tryr, e_tryc, e_try1, e_try1n, e_try1r, e_run, e_endn, e_endr, e_endx, e_sta1, e_sta2, e_sta3, l_eq, l_ne, l_eqbb, l_nebb, l_lt, l_le, l_gt, l_ge, l_add, l_addt, l_addl, l_sub, l_neg, l_mod, l_fdiv, l_mul, l_mul2, l_iadd, l_not, l_len1, l_len2, l_len3, l_int, l_intb, l_tup1, l_tup2, l_lst1, l_lst2, l_max, l_min, l_ixt0, l_ixt1, l_ixt2, l_ixtl, l_ixl0, l_ixl1, l_ixl2, l_ixll, l_isn_bl, l_inn_bl, l_ty_int_bl, l_ty_bool_bl, l_ty_str_bl, l_ty_tuple_bl, l_ty_list_bl, l_isn_int, l_inn_int, l_ty_int_int, l_ty_bool_int, l_ty_str_int, l_ty_tuple_int, l_ty_list_int, l_isn_str, l_inn_str, l_ty_int_str, l_ty_bool_str, l_ty_str_str, l_ty_tuple_str, l_ty_list_str, l_isn_tup, l_inn_tup, l_ty_int_tup, l_ty_bool_tup, l_ty_str_tup, l_ty_tuple_tup, l_ty_list_tup, l_isn_lst, l_inn_lst, l_ty_int_lst, l_ty_bool_lst, l_ty_str_lst, l_ty_tuple_lst, l_ty_list_lst, l_isn_non, l_inn_non, l_ty_int_non, l_ty_bool_non, l_ty_str_non, l_ty_tuple_non, l_ty_list_non, d_t, d_f, Bool.not_true, Bool.not_false, List.length_map, List.length_append, List.length_cons, List.length_nil, List.nil_append, List.cons_append, if_true, if_false, Bool.false_eq_true, ite_true, ite_false, List.map_cons, List.map_nil, beq_self_eq_true, reduceIte, Bool.true_and, Bool.and_true, Bool.false_and, Bool.and_false, Int.reduceAdd, Int.reduceSub, Int.reduceMul, Int.reduceNeg, Int.reduceMod, Int.reduceDiv, Int.reduceToNat, Nat.reduceAdd, Nat.reduceMul, Nat.reduceSub, Bool.or_true, Bool.true_or, Bool.or_false, Bool.false_or, Int.cast_ofNat_Int, decide_true, decide_false, F__searched, u_for, e0, s0, e1, s1, ei1]
          rfl
    · obtain ⟨k1, e1, hk1⟩ := clash_yes l true (by omega) (by simpa using a1)
      have e1 : D__clash [.tup (l.map cD), .int 1] = .ok (.int k1) := e1
      refine .inr ⟨fun z => ?_, [clD k, clD k1], ?_, hl, _, _, rfl, .inl ⟨k, hk, rfl⟩, .inl ⟨k1, hk1, rfl⟩⟩
      · rcases (win_inv hl).mp z with z | z
        · exact a0 z.1
        · exact a1 z.1
      · simp (disch := (first | omega | (simp only [List.length_map, List.length_append, List.length_cons, List.length_nil, rngC_len, rng_len, List.length_range, List.length_reverse, List.length_take, List.length_drop, List.length_set, List.length_replicate] at *; omega))) only [e_v0, e_vS, e_vC, e_s0, e_sS, e_op, e_op1, e_op2, e_opx, e_opx2, e_some, e_1, e_11, e_t, e_t1, e_tx, e_tr, e_tr1, e_trx, e_trb, e_trn, e_nt, e_nt1, e_ntx, e_and, e_andt, e_andf, e_andx, e_or, e_ort, e_orf, e_orx, e_va, e_vat, e_vaf, e_vax, e_vo, e_vot, e_vof, e_vox, e_vi, e_vit, e_vif, e_vix, e_vl, e_vl1, e_an, e_ac, e_ac1, e_acx, e_ac2, e_acx2, e_tu, e_tu1, e_tux, e_ls, e_ls1, e_cb, e_cb1, e_cbx, e_ca, e_ca_0, e_ca_1, e_ca_2, e_ca_3, e_ca_4, e_ca_5, e_ca_6, e_cax, e_ch, e_ch1, e_ch2, e_ch3, e_ch4, e_sl, e_sl1, e_slt, e_sll, e_slf, e_st, e_st1, e_os, e_os1, e_on, e_ga, e_ga1, e_gs, e_gst, e_gsl, e_gsf, e_ge, e_get, e_r1, e_r1i, e_r2i, e_r3, e_lc, e_lc1, e_wp0, e_wp1, e_gn, e_gt, e_gl, e_gc, e_gc1, e_g0, e_seq, e_seqn, e_seqr, e_seqx, e_seqc, e_seqb, e_nop, e_brk, e_cnt, e_rai, e_asg, e_asg1, e_asgx, e_asgO, e_asgO1, e_asgT, e_asgT1, e_asgTx, e_tg, e_par, e_par1, e_par2, e_parO, e_parO1, e_drop, e_drop1, e_dropx, e_ret, e_ret1, e_retx, e_retN, e_if, e_ift, e_iff, e_ifx, e_aug, e_aug1, e_aug2, e_app, e_app1, e_ext, e_ext1, e_si, e_si1, e_si2, e_si3, e_pop, e_pop1, e_for, e_for1, e_whl, e_fl0, e_ft, e_fsn, e_fsc, e_fsb, e_fsr, e_fsx, e_wtt, e_wtf, e_wsn, e_wsc, e_wsb, e_wsr, e_wsx, e_try, e_tryn, e_tryr, e_tryc, e_try1, e_try1n, e_try1r, e_run, e_endn, e_endr, e_endx, e_sta1, e_sta2, e_sta3, l_eq, l_ne, l_eqbb, l_nebb, l_lt, l_le, l_gt, l_ge, l_add, l_addt, l_addl, l_sub, l_neg, l_mod, l_fdiv, l_mul, l_mul2, l_iadd, l_not, l_len1, l_len2, l_len3, l_int, l_intb, l_tup1, l_tup2, l_lst1, l_lst2, l_max, l_min, l_ixt0, l_ixt1, l_ixt2, l_ixtl, l_ixl0, l_ixl1, l_ixl2, l_ixll, l_isn_bl, l_inn_bl, l_ty_int_bl, l_ty_bool_bl, l_ty_str_bl, l_ty_tuple_bl, l_ty_list_bl, l_isn_int, l_inn_int, l_ty_int_int, l_ty_bool_int, l_ty_str_int, l_ty_tuple_int, l_ty_list_int, l_isn_str, l_inn_str, l_ty_int_str, l_ty_bool_str, l_ty_str_str, l_ty_tuple_str, l_ty_list_str, l_isn_tup, l_inn_tup, l_ty_int_tup, l_ty_bool_tup, l_ty_str_tup, l_ty_tuple_tup, l_ty_list_tup, l_isn_lst, l_inn_lst, l_ty_int_lst, l_ty_bool_lst, l_ty_str_lst, l_ty_tuple_lst, l_ty_list_lst, l_isn_non, l_inn_non, l_ty_int_non, l_ty_bool_non, l_ty_str_non, l_ty_tuple_non, l_ty_list_non, d_t, d_f, Bool.not_true, Bool.not_false, List.length_map, List.length_append, List.length_cons, List.length_nil, List.nil_append, List.cons_append, if_true, if_false, Bool.false_eq_true, ite_true, ite_false, List.map_cons, List.map_nil, beq_self_eq_true, reduceIte, Bool.true_and, Bool.and_true, Bool.false_and, Bool.and_false, Int.reduceAdd, Int.reduceSub, Int.reduceMul, Int.reduceNeg, Int.reduceMod, Int.reduceDiv, Int.reduceToNat, Nat.reduceAdd, Nat.reduceMul, Nat.reduceSub, Bool.or_true, Bool.true_or, Bool.or_false, Bool.false_or, Int.cast_ofNat_Int, decide_true, decide_false, F__searched, u_for, e0, s0, e1]
        rfl
end Lw
/-! Windows: the search on all rows, looks at what is found. -/
namespace Lw
open PySem PySem.Spec PyProof.Rows L2 Dl
theorem found_small (f n : Nat) : ∀ l : List Bool, l.length ≤ 2 → Found (f + 3) n 2 l := fun l h => by
  have key : Win l ∧ ∃ p, R__searched (f + 3) [.tup (l.map cD)] = .ok (.tup [.bl true, .tup (pathD p)]) ∧ Good l p ∧ p.length ≤ 2 := by
    match l, h with
    | [], _ =>
      rcases found_nil (f + 2) 0 2 with z | ⟨w, _⟩
      · exact z
      · exact absurd Win.nil w
    | [a], _ =>
      rcases found_step (f := f + 2) (n := 0) (q := 1) (l := [a]) (by simp) (by simp) (by omega) (fun _ => found_nil (f + 1) 0 1) (fun z => absurd ⟨rfl, Win.nil⟩ z) with z | ⟨w, _⟩
      · exact z
      · exact absurd (show Win [a] from Win.step false rfl Win.nil) w
    | [a, b], _ =>
      have hb : Found (f + 2) 1 1 [b] := found_step (f := f + 1) (n := 0) (q := 0) (l := [b]) (by simp) (by simp) (by omega) (fun _ => found_nil f 0 0) (fun z => absurd ⟨rfl, Win.nil⟩ z)
      have wb : Win [b] := Win.step false rfl Win.nil
      rcases found_step (f := f + 2) (n := 1) (q := 1) (l := [a, b]) (by simp) (by simp) (by omega) (fun _ => hb) (fun z => absurd ⟨rfl, wb⟩ z) with z | ⟨w, _⟩
      · exact z
      · exact absurd (show Win [a, b] from Win.step false rfl wb) w
  exact .inl key
theorem found_all (f : Nat) : ∀ (n : Nat) (l : List Bool), n ≤ 10 → l.length ≤ 2 ^ n + 1 → Found (f + n + 3) n (n + 2) l
  | 0, l, _, h => found_small f 0 l h
  | n + 1, l, hn, h => by
    have hp : 2 ^ (n + 1) ≤ 2 ^ 10 := Nat.pow_le_pow_right (by decide) hn
    have hs : 2 ^ (n + 1) = 2 * 2 ^ n := by rw [Nat.pow_succ]; omega
    by_cases z : l = []
    · subst z
      exact found_nil _ _ _
    · refine found_step (f := f + n + 3) z (by omega) (by omega) (fun _ => found_all f n _ (by omega) ?_) (fun _ _ => found_all f n _ (by omega) ?_)
      · rw [sel_len]
        simp only [if_true]
        omega
      · rw [sel_len]
        simp only [Bool.false_eq_true, if_false]
        omega
theorem creases_eq (l : List Bool) (hl : l.length ≤ 10000) : D_are_creases [.tup (l.map cD)] = .ok (.bl true) := by
  simp (disch := (first | omega | (simp only [List.length_map, List.length_append, List.length_cons, List.length_nil, rngC_len, rng_len, List.length_range, List.length_reverse, List.length_take, List.length_drop, List.length_set, List.length_replicate] at *; omega))) only [e_v0, e_vS, e_vC, e_s0, e_sS, e_op, e_op1, e_op2, e_opx, e_opx2, e_some, e_1, e_11, e_t, e_t1, e_tx, e_tr, e_tr1, e_trx, e_trb, e_trn, e_nt, e_nt1, e_ntx, e_and, e_andt, e_andf, e_andx, e_or, e_ort, e_orf, e_orx, e_va, e_vat, e_vaf, e_vax, e_vo, e_vot, e_vof, e_vox, e_vi, e_vit, e_vif, e_vix, e_vl, e_vl1, e_an, e_ac, e_ac1, e_acx, e_ac2, e_acx2, e_tu, e_tu1, e_tux, e_ls, e_ls1, e_cb, e_cb1, e_cbx, e_ca, e_ca_0, e_ca_1, e_ca_2, e_ca_3, e_ca_4, e_ca_5, e_ca_6, e_cax, e_ch, e_ch1, e_ch2, e_ch3, e_ch4, e_sl, e_sl1, e_slt, e_sll, e_slf, e_st, e_st1, e_os, e_os1, e_on, e_ga, e_ga1, e_gs, e_gst, e_gsl, e_gsf, e_ge, e_get, e_r1, e_r1i, e_r2i, e_r3, e_lc, e_lc1, e_wp0, e_wp1, e_gn, e_gt, e_gl, e_gc, e_gc1, e_g0, e_seq, e_seqn, e_seqr, e_seqx, e_seqc, e_seqb, e_nop, e_brk, e_cnt, e_rai, e_asg, e_asg1, e_asgx, e_asgO, e_asgO1, e_asgT, e_asgT1, e_asgTx, e_tg, e_par, e_par1, e_par2, e_parO, e_parO1, e_drop, e_drop1, e_dropx, e_ret, e_ret1, e_retx, e_retN, e_if, e_ift, e_iff, e_ifx, e_aug, e_aug1, e_aug2, e_app, e_app1, e_ext, e_ext1, e_si, e_si1, e_si2, e_si3, e_pop, e_pop1, e_for, e_for1, e_whl, e_fl0, e_ft, e_fsn, e_fsc, e_fsb, e_fsr, e_fsx, e_wtt, e_wtf, e_wsn, e_wsc, e_wsb, e_wsr, e_wsx, e_try, e_tryn, e_tryr, e_tryc, e_try1, e_try1n, e_try1r, e_run, e_endn, e_endr, e_endx, e_sta1, e_sta2, e_sta3, l_eq, l_ne, l_eqbb, l_nebb, l_lt, l_le, l_gt, l_ge, l_add, l_addt, l_addl, l_sub, l_neg, l_mod, l_fdiv, l_mul, l_mul2, l_iadd, l_not, l_len1, l_len2, l_len3, l_int, l_intb, l_tup1, l_tup2, l_lst1, l_lst2, l_max, l_min, l_ixt0, l_ixt1, l_ixt2, l_ixtl, l_ixl0, l_ixl1, l_ixl2, l_ixll, l_isn_bl, l_inn_bl, l_ty_int_bl, l_ty_bool_bl, l_ty_str_bl, l_ty_tuple_bl, l_ty_list_bl, l_isn_int, l_inn_int, l_ty_int_int, l_ty_bool_int, l_ty_str_int, l_ty_tuple_int, l_ty_list_int, l_isn_str, l_inn_str, l_ty_int_str, l_ty_bool_str, l_ty_str_str, l_ty_tuple_str, l_ty_list_str, l_isn_tup, l_inn_tup, l_ty_int_tup, l_ty_bool_tup, l_ty_str_tup, l_ty_tuple_tup, l_ty_list_tup, l_isn_lst, l_inn_lst, l_ty_int_lst, l_ty_bool_lst, l_ty_str_lst, l_ty_tuple_lst, l_ty_list_lst, l_isn_non, l_inn_non, l_ty_int_non, l_ty_bool_non, l_ty_str_non, l_ty_tuple_non, l_ty_list_non, d_t, d_f, Bool.not_true, Bool.not_false, List.length_map, List.length_append, List.length_cons, List.length_nil, List.nil_append, List.cons_append, if_true, if_false, Bool.false_eq_true, ite_true, ite_false, List.map_cons, List.map_nil, beq_self_eq_true, reduceIte, Bool.true_and, Bool.and_true, Bool.false_and, Bool.and_false, Int.reduceAdd, Int.reduceSub, Int.reduceMul, Int.reduceNeg, Int.reduceMod, Int.reduceDiv, Int.reduceToNat, Nat.reduceAdd, Nat.reduceMul, Nat.reduceSub, Bool.or_true, Bool.true_or, Bool.or_false, Bool.false_or, Int.cast_ofNat_Int, decide_true, decide_false, D_are_creases, F_are_creases]
  generalize hL : lcL _ _ _ _ _ = r
  have := lcL_of' hL (fun _ => .bl true) fun b _ => ⟨_, rfl, by
    have h1 : isiD "str" (cD b) = some (.bl true) := rfl
    simp (disch := (first | omega | (simp only [List.length_map, List.length_append, List.length_cons, List.length_nil, rngC_len, rng_len, List.length_range, List.length_reverse, List.length_take, List.length_drop, List.length_set, List.length_replicate] at *; omega))) only [e_v0, e_vS, e_vC, e_s0, e_sS, e_op, e_op1, e_op2, e_opx, e_opx2, e_some, e_1, e_11, e_t, e_t1, e_tx, e_tr, e_tr1, e_trx, e_trb, e_trn, e_nt, e_nt1, e_ntx, e_and, e_andt, e_andf, e_andx, e_or, e_ort, e_orf, e_orx, e_va, e_vat, e_vaf, e_vax, e_vo, e_vot, e_vof, e_vox, e_vi, e_vit, e_vif, e_vix, e_vl, e_vl1, e_an, e_ac, e_ac1, e_acx, e_ac2, e_acx2, e_tu, e_tu1, e_tux, e_ls, e_ls1, e_cb, e_cb1, e_cbx, e_ca, e_ca_0, e_ca_1, e_ca_2, e_ca_3, e_ca_4, e_ca_5, e_ca_6, e_cax, e_ch, e_ch1, e_ch2, e_ch3, e_ch4, e_sl, e_sl1, e_slt, e_sll, e_slf, e_st, e_st1, e_os, e_os1, e_on, e_ga, e_ga1, e_gs, e_gst, e_gsl, e_gsf, e_ge, e_get, e_r1, e_r1i, e_r2i, e_r3, e_lc, e_lc1, e_wp0, e_wp1, e_gn, e_gt, e_gl, e_gc, e_gc1, e_g0, e_seq, e_seqn, e_seqr, e_seqx, e_seqc, e_seqb, e_nop, e_brk, e_cnt, e_rai, e_asg, e_asg1, e_asgx, e_asgO, e_asgO1, e_asgT, e_asgT1, e_asgTx, e_tg, e_par, e_par1, e_par2, e_parO, e_parO1, e_drop, e_drop1, e_dropx, e_ret, e_ret1, e_retx, e_retN, e_if, e_ift, e_iff, e_ifx, e_aug, e_aug1, e_aug2, e_app, e_app1, e_ext, e_ext1, e_si, e_si1, e_si2, e_si3, e_pop, e_pop1, e_for, e_for1, e_whl, e_fl0, e_ft, e_fsn, e_fsc, e_fsb, e_fsr, e_fsx, e_wtt, e_wtf, e_wsn, e_wsc, e_wsb, e_wsr, e_wsx, e_try, e_tryn, e_tryr, e_tryc, e_try1, e_try1n, e_try1r, e_run, e_endn, e_endr, e_endx, e_sta1, e_sta2, e_sta3, l_eq, l_ne, l_eqbb, l_nebb, l_lt, l_le, l_gt, l_ge, l_add, l_addt, l_addl, l_sub, l_neg, l_mod, l_fdiv, l_mul, l_mul2, l_iadd, l_not, l_len1, l_len2, l_len3, l_int, l_intb, l_tup1, l_tup2, l_lst1, l_lst2, l_max, l_min, l_ixt0, l_ixt1, l_ixt2, l_ixtl, l_ixl0, l_ixl1, l_ixl2, l_ixll, l_isn_bl, l_inn_bl, l_ty_int_bl, l_ty_bool_bl, l_ty_str_bl, l_ty_tuple_bl, l_ty_list_bl, l_isn_int, l_inn_int, l_ty_int_int, l_ty_bool_int, l_ty_str_int, l_ty_tuple_int, l_ty_list_int, l_isn_str, l_inn_str, l_ty_int_str, l_ty_bool_str, l_ty_str_str, l_ty_tuple_str, l_ty_list_str, l_isn_tup, l_inn_tup, l_ty_int_tup, l_ty_bool_tup, l_ty_str_tup, l_ty_tuple_tup, l_ty_list_tup, l_isn_lst, l_inn_lst, l_ty_int_lst, l_ty_bool_lst, l_ty_str_lst, l_ty_tuple_lst, l_ty_list_lst, l_isn_non, l_inn_non, l_ty_int_non, l_ty_bool_non, l_ty_str_non, l_ty_tuple_non, l_ty_list_non, d_t, d_f, Bool.not_true, Bool.not_false, List.length_map, List.length_append, List.length_cons, List.length_nil, List.nil_append, List.cons_append, if_true, if_false, Bool.false_eq_true, ite_true, ite_false, List.map_cons, List.map_nil, beq_self_eq_true, reduceIte, Bool.true_and, Bool.and_true, Bool.false_and, Bool.and_false, Int.reduceAdd, Int.reduceSub, Int.reduceMul, Int.reduceNeg, Int.reduceMod, Int.reduceDiv, Int.reduceToNat, Nat.reduceAdd, Nat.reduceMul, Nat.reduceSub, Bool.or_true, Bool.true_or, Bool.or_false, Bool.false_or, Int.cast_ofNat_Int, decide_true, decide_false, h1, in_c]⟩
  subst this
  simp (disch := (first | omega | (simp only [List.length_map, List.length_append, List.length_cons, List.length_nil, rngC_len, rng_len, List.length_range, List.length_reverse, List.length_take, List.length_drop, List.length_set, List.length_replicate] at *; omega))) only [e_v0, e_vS, e_vC, e_s0, e_sS, e_op, e_op1, e_op2, e_opx, e_opx2, e_some, e_1, e_11, e_t, e_t1, e_tx, e_tr, e_tr1, e_trx, e_trb, e_trn, e_nt, e_nt1, e_ntx, e_and, e_andt, e_andf, e_andx, e_or, e_ort, e_orf, e_orx, e_va, e_vat, e_vaf, e_vax, e_vo, e_vot, e_vof, e_vox, e_vi, e_vit, e_vif, e_vix, e_vl, e_vl1, e_an, e_ac, e_ac1, e_acx, e_ac2, e_acx2, e_tu, e_tu1, e_tux, e_ls, e_ls1, e_cb, e_cb1, e_cbx, e_ca, e_ca_0, e_ca_1, e_ca_2, e_ca_3, e_ca_4, e_ca_5, e_ca_6, e_cax, e_ch, e_ch1, e_ch2, e_ch3, e_ch4, e_sl, e_sl1, e_slt, e_sll, e_slf, e_st, e_st1, e_os, e_os1, e_on, e_ga, e_ga1, e_gs, e_gst, e_gsl, e_gsf, e_ge, e_get, e_r1, e_r1i, e_r2i, e_r3, e_lc, e_lc1, e_wp0, e_wp1, e_gn, e_gt, e_gl, e_gc, e_gc1, e_g0, e_seq, e_seqn, e_seqr, e_seqx, e_seqc, e_seqb, e_nop, e_brk, e_cnt, e_rai, e_asg, e_asg1, e_asgx, e_asgO, e_asgO1, e_asgT, e_asgT1, e_asgTx, e_tg, e_par, e_par1, e_par2, e_parO, e_parO1, e_drop, e_drop1, e_dropx, e_ret, e_ret1, e_retx, e_retN, e_if, e_ift, e_iff, e_ifx, e_aug, e_aug1, e_aug2, e_app, e_app1, e_ext, e_ext1, e_si, e_si1, e_si2, e_si3, e_pop, e_pop1, e_for, e_for1, e_whl, e_fl0, e_ft, e_fsn, e_fsc, e_fsb, e_fsr, e_fsx, e_wtt, e_wtf, e_wsn, e_wsc, e_wsb, e_wsr, e_wsx, e_try, e_tryn, e_tryr, e_tryc, e_try1, e_try1n, e_try1r, e_run, e_endn, e_endr, e_endx, e_sta1, e_sta2, e_sta3, l_eq, l_ne, l_eqbb, l_nebb, l_lt, l_le, l_gt, l_ge, l_add, l_addt, l_addl, l_sub, l_neg, l_mod, l_fdiv, l_mul, l_mul2, l_iadd, l_not, l_len1, l_len2, l_len3, l_int, l_intb, l_tup1, l_tup2, l_lst1, l_lst2, l_max, l_min, l_ixt0, l_ixt1, l_ixt2, l_ixtl, l_ixl0, l_ixl1, l_ixl2, l_ixll, l_isn_bl, l_inn_bl, l_ty_int_bl, l_ty_bool_bl, l_ty_str_bl, l_ty_tuple_bl, l_ty_list_bl, l_isn_int, l_inn_int, l_ty_int_int, l_ty_bool_int, l_ty_str_int, l_ty_tuple_int, l_ty_list_int, l_isn_str, l_inn_str, l_ty_int_str, l_ty_bool_str, l_ty_str_str, l_ty_tuple_str, l_ty_list_str, l_isn_tup, l_inn_tup, l_ty_int_tup, l_ty_bool_tup, l_ty_str_tup, l_ty_tuple_tup, l_ty_list_tup, l_isn_lst, l_inn_lst, l_ty_int_lst, l_ty_bool_lst, l_ty_str_lst, l_ty_tuple_lst, l_ty_list_lst, l_isn_non, l_inn_non, l_ty_int_non, l_ty_bool_non, l_ty_str_non, l_ty_tuple_non, l_ty_list_non, d_t, d_f, Bool.not_true, Bool.not_false, List.length_map, List.length_append, List.length_cons, List.length_nil, List.nil_append, List.cons_append, if_true, if_false, Bool.false_eq_true, ite_true, ite_false, List.map_cons, List.map_nil, beq_self_eq_true, reduceIte, Bool.true_and, Bool.and_true, Bool.false_and, Bool.and_false, Int.reduceAdd, Int.reduceSub, Int.reduceMul, Int.reduceNeg, Int.reduceMod, Int.reduceDiv, Int.reduceToNat, Nat.reduceAdd, Nat.reduceMul, Nat.reduceSub, Bool.or_true, Bool.true_or, Bool.or_false, Bool.false_or, Int.cast_ofNat_Int, decide_true, decide_false, allT]
theorem checkrow_eq (l : List Bool) (hl : l.length ≤ 200) : D__check_row [.tup (l.map cD)] = .ok .non := by
  have e := creases_eq l (by omega)
  simp (disch := (first | omega | (simp only [List.length_map, List.length_append, List.length_cons, List.length_nil, rngC_len, rng_len, List.length_range, List.length_reverse, List.length_take, List.length_drop, List.length_set, List.length_replicate] at *; omega))) only [e_v0, e_vS, e_vC, e_s0, e_sS, e_op, e_op1, e_op2, e_opx, e_opx2, e_some, e_1, e_11, e_t, e_t1, e_tx, e_tr, e_tr1, e_trx, e_trb, e_trn, e_nt, e_nt1, e_ntx, e_and, e_andt, e_andf, e_andx, e_or, e_ort, e_orf, e_orx, e_va, e_vat, e_vaf, e_vax, e_vo, e_vot, e_vof, e_vox, e_vi, e_vit, e_vif, e_vix, e_vl, e_vl1, e_an, e_ac, e_ac1, e_acx, e_ac2, e_acx2, e_tu, e_tu1, e_tux, e_ls, e_ls1, e_cb, e_cb1, e_cbx, e_ca, e_ca_0, e_ca_1, e_ca_2, e_ca_3, e_ca_4, e_ca_5, e_ca_6, e_cax, e_ch, e_ch1, e_ch2, e_ch3, e_ch4, e_sl, e_sl1, e_slt, e_sll, e_slf, e_st, e_st1, e_os, e_os1, e_on, e_ga, e_ga1, e_gs, e_gst, e_gsl, e_gsf, e_ge, e_get, e_r1, e_r1i, e_r2i, e_r3, e_lc, e_lc1, e_wp0, e_wp1, e_gn, e_gt, e_gl, e_gc, e_gc1, e_g0, e_seq, e_seqn, e_seqr, e_seqx, e_seqc, e_seqb, e_nop, e_brk, e_cnt, e_rai, e_asg, e_asg1, e_asgx, e_asgO, e_asgO1, e_asgT, e_asgT1, e_asgTx, e_tg, e_par, e_par1, e_par2, e_parO, e_parO1, e_drop, e_drop1, e_dropx, e_ret, e_ret1, e_retx, e_retN, e_if, e_ift, e_iff, e_ifx, e_aug, e_aug1, e_aug2, e_app, e_app1, e_ext, e_ext1, e_si, e_si1, e_si2, e_si3, e_pop, e_pop1, e_for, e_for1, e_whl, e_fl0, e_ft, e_fsn, e_fsc, e_fsb, e_fsr, e_fsx, e_wtt, e_wtf, e_wsn, e_wsc, e_wsb, e_wsr, e_wsx, e_try, e_tryn, e_tryr, e_tryc, e_try1, e_try1n, e_try1r, e_run, e_endn, e_endr, e_endx, e_sta1, e_sta2, e_sta3, l_eq, l_ne, l_eqbb, l_nebb, l_lt, l_le, l_gt, l_ge, l_add, l_addt, l_addl, l_sub, l_neg, l_mod, l_fdiv, l_mul, l_mul2, l_iadd, l_not, l_len1, l_len2, l_len3, l_int, l_intb, l_tup1, l_tup2, l_lst1, l_lst2, l_max, l_min, l_ixt0, l_ixt1, l_ixt2, l_ixtl, l_ixl0, l_ixl1, l_ixl2, l_ixll, l_isn_bl, l_inn_bl, l_ty_int_bl, l_ty_bool_bl, l_ty_str_bl, l_ty_tuple_bl, l_ty_list_bl, l_isn_int, l_inn_int, l_ty_int_int, l_ty_bool_int, l_ty_str_int, l_ty_tuple_int, l_ty_list_int, l_isn_str, l_inn_str, l_ty_int_str, l_ty_bool_str, l_ty_str_str, l_ty_tuple_str, l_ty_list_str, l_isn_tup, l_inn_tup, l_ty_int_tup, l_ty_bool_tup, l_ty_str_tup, l_ty_tuple_tup, l_ty_list_tup, l_isn_lst, l_inn_lst, l_ty_int_lst, l_ty_bool_lst, l_ty_str_lst, l_ty_tuple_lst, l_ty_list_lst, l_isn_non, l_inn_non, l_ty_int_non, l_ty_bool_non, l_ty_str_non, l_ty_tuple_non, l_ty_list_non, d_t, d_f, Bool.not_true, Bool.not_false, List.length_map, List.length_append, List.length_cons, List.length_nil, List.nil_append, List.cons_append, if_true, if_false, Bool.false_eq_true, ite_true, ite_false, List.map_cons, List.map_nil, beq_self_eq_true, reduceIte, Bool.true_and, Bool.and_true, Bool.false_and, Bool.and_false, Int.reduceAdd, Int.reduceSub, Int.reduceMul, Int.reduceNeg, Int.reduceMod, Int.reduceDiv, Int.reduceToNat, Nat.reduceAdd, Nat.reduceMul, Nat.reduceSub, Bool.or_true, Bool.true_or, Bool.or_false, Bool.false_or, Int.cast_ofNat_Int, decide_true, decide_false, D__check_row, F__check_row, e]
theorem window_of_eq (l : List Bool) (hl : l.length ≤ 200) : (Win l ∧ ∃ p, D_window_of [.tup (l.map cD)] = .ok (.tup [.str "window", .tup (pathD p)]) ∧ Good l p ∧ p.length ≤ 10) ∨
    (¬ Win l ∧ ∃ its, D_window_of [.tup (l.map cD)] = .ok (.tup [.str "none", .tup its]) ∧ Bad 8 l its) := by
  have e := checkrow_eq l hl
  rcases found_all 29 8 l (by decide) (by omega) with ⟨w, p, h1, h2, h3⟩ | ⟨w, its, h1, h2⟩
  · refine .inl ⟨w, p, ?_, h2, h3⟩
    have h1 : D__searched [.tup (l.map cD)] = .ok (.tup [.bl true, .tup (pathD p)]) := h1
    simp (disch := (first | omega | (simp only [List.length_map, List.length_append, List.length_cons, List.length_nil, rngC_len, rng_len, List.length_range, List.length_reverse, List.length_take, List.length_drop, List.length_set, List.length_replicate] at *; omega))) only [e_v0, e_vS, e_vC, e_s0, e_sS, e_op, e_op1, e_op2, e_opx, e_opx2, e_some, e_1, e_11, e_t, e_t1, e_tx, e_tr, e_tr1, e_trx, e_trb, e_trn, e_nt, e_nt1, e_ntx, e_and, e_andt, e_andf, e_andx, e_or, e_ort, e_orf, e_orx, e_va, e_vat, e_vaf, e_vax, e_vo, e_vot, e_vof, e_vox, e_vi, e_vit, e_vif, e_vix, e_vl, e_vl1, e_an, e_ac, e_ac1, e_acx, e_ac2, e_acx2, e_tu, e_tu1, e_tux, e_ls, e_ls1, e_cb, e_cb1, e_cbx, e_ca, e_ca_0, e_ca_1, e_ca_2, e_ca_3, e_ca_4, e_ca_5, e_ca_6, e_cax, e_ch, e_ch1, e_ch2, e_ch3, e_ch4, e_sl, e_sl1, e_slt, e_sll, e_slf, e_st, e_st1, e_os, e_os1, e_on, e_ga, e_ga1, e_gs, e_gst, e_gsl, e_gsf, e_ge, e_get, e_r1, e_r1i, e_r2i, e_r3, e_lc, e_lc1, e_wp0, e_wp1, e_gn, e_gt, e_gl, e_gc, e_gc1, e_g0, e_seq, e_seqn, e_seqr, e_seqx, e_seqc, e_seqb, e_nop, e_brk, e_cnt, e_rai, e_asg, e_asg1, e_asgx, e_asgO, e_asgO1, e_asgT, e_asgT1, e_asgTx, e_tg, e_par, e_par1, e_par2, e_parO, e_parO1, e_drop, e_drop1, e_dropx, e_ret, e_ret1, e_retx, e_retN, e_if, e_ift, e_iff, e_ifx, e_aug, e_aug1, e_aug2, e_app, e_app1, e_ext, e_ext1, e_si, e_si1, e_si2, e_si3, e_pop, e_pop1, e_for, e_for1, e_whl, e_fl0, e_ft, e_fsn, e_fsc, e_fsb, e_fsr, e_fsx, e_wtt, e_wtf, e_wsn, e_wsc, e_wsb, e_wsr, e_wsx, e_try, e_tryn, e_tryr, e_tryc, e_try1, e_try1n, e_try1r, e_run, e_endn, e_endr, e_endx, e_sta1, e_sta2, e_sta3, l_eq, l_ne, l_eqbb, l_nebb, l_lt, l_le, l_gt, l_ge, l_add, l_addt, l_addl, l_sub, l_neg, l_mod, l_fdiv, l_mul, l_mul2, l_iadd, l_not, l_len1, l_len2, l_len3, l_int, l_intb, l_tup1, l_tup2, l_lst1, l_lst2, l_max, l_min, l_ixt0, l_ixt1, l_ixt2, l_ixtl, l_ixl0, l_ixl1, l_ixl2, l_ixll, l_isn_bl, l_inn_bl, l_ty_int_bl, l_ty_bool_bl, l_ty_str_bl, l_ty_tuple_bl, l_ty_list_bl, l_isn_int, l_inn_int, l_ty_int_int, l_ty_bool_int, l_ty_str_int, l_ty_tuple_int, l_ty_list_int, l_isn_str, l_inn_str, l_ty_int_str, l_ty_bool_str, l_ty_str_str, l_ty_tuple_str, l_ty_list_str, l_isn_tup, l_inn_tup, l_ty_int_tup, l_ty_bool_tup, l_ty_str_tup, l_ty_tuple_tup, l_ty_list_tup, l_isn_lst, l_inn_lst, l_ty_int_lst, l_ty_bool_lst, l_ty_str_lst, l_ty_tuple_lst, l_ty_list_lst, l_isn_non, l_inn_non, l_ty_int_non, l_ty_bool_non, l_ty_str_non, l_ty_tuple_non, l_ty_list_non, d_t, d_f, Bool.not_true, Bool.not_false, List.length_map, List.length_append, List.length_cons, List.length_nil, List.nil_append, List.cons_append, if_true, if_false, Bool.false_eq_true, ite_true, ite_false, List.map_cons, List.map_nil, beq_self_eq_true, reduceIte, Bool.true_and, Bool.and_true, Bool.false_and, Bool.and_false, Int.reduceAdd, Int.reduceSub, Int.reduceMul, Int.reduceNeg, Int.reduceMod, Int.reduceDiv, Int.reduceToNat, Nat.reduceAdd, Nat.reduceMul, Nat.reduceSub, Bool.or_true, Bool.true_or, Bool.or_false, Bool.false_or, Int.cast_ofNat_Int, decide_true, decide_false, D_window_of, F_window_of, e, h1]
  · refine .inr ⟨w, its, ?_, h2⟩
    have h1 : D__searched [.tup (l.map cD)] = .ok (.tup [.bl false, .tup its]) := h1
    simp (disch := (first | omega | (simp only [List.length_map, List.length_append, List.length_cons, List.length_nil, rngC_len, rng_len, List.length_range, List.length_reverse, List.length_take, List.length_drop, List.length_set, List.length_replicate] at *; omega))) only [e_v0, e_vS, e_vC, e_s0, e_sS, e_op, e_op1, e_op2, e_opx, e_opx2, e_some, e_1, e_11, e_t, e_t1, e_tx, e_tr, e_tr1, e_trx, e_trb, e_trn, e_nt, e_nt1, e_ntx, e_and, e_andt, e_andf, e_andx, e_or, e_ort, e_orf, e_orx, e_va, e_vat, e_vaf, e_vax, e_vo, e_vot, e_vof, e_vox, e_vi, e_vit, e_vif, e_vix, e_vl, e_vl1, e_an, e_ac, e_ac1, e_acx, e_ac2, e_acx2, e_tu, e_tu1, e_tux, e_ls, e_ls1, e_cb, e_cb1, e_cbx, e_ca, e_ca_0, e_ca_1, e_ca_2, e_ca_3, e_ca_4, e_ca_5, e_ca_6, e_cax, e_ch, e_ch1, e_ch2, e_ch3, e_ch4, e_sl, e_sl1, e_slt, e_sll, e_slf, e_st, e_st1, e_os, e_os1, e_on, e_ga, e_ga1, e_gs, e_gst, e_gsl, e_gsf, e_ge, e_get, e_r1, e_r1i, e_r2i, e_r3, e_lc, e_lc1, e_wp0, e_wp1, e_gn, e_gt, e_gl, e_gc, e_gc1, e_g0, e_seq, e_seqn, e_seqr, e_seqx, e_seqc, e_seqb, e_nop, e_brk, e_cnt, e_rai, e_asg, e_asg1, e_asgx, e_asgO, e_asgO1, e_asgT, e_asgT1, e_asgTx, e_tg, e_par, e_par1, e_par2, e_parO, e_parO1, e_drop, e_drop1, e_dropx, e_ret, e_ret1, e_retx, e_retN, e_if, e_ift, e_iff, e_ifx, e_aug, e_aug1, e_aug2, e_app, e_app1, e_ext, e_ext1, e_si, e_si1, e_si2, e_si3, e_pop, e_pop1, e_for, e_for1, e_whl, e_fl0, e_ft, e_fsn, e_fsc, e_fsb, e_fsr, e_fsx, e_wtt, e_wtf, e_wsn, e_wsc, e_wsb, e_wsr, e_wsx, e_try, e_tryn, e_tryr, e_tryc, e_try1, e_try1n, e_try1r, e_run, e_endn, e_endr, e_endx, e_sta1, e_sta2, e_sta3, l_eq, l_ne, l_eqbb, l_nebb, l_lt, l_le, l_gt, l_ge, l_add, l_addt, l_addl, l_sub, l_neg, l_mod, l_fdiv, l_mul, l_mul2, l_iadd, l_not, l_len1, l_len2, l_len3, l_int, l_intb, l_tup1, l_tup2, l_lst1, l_lst2, l_max, l_min, l_ixt0, l_ixt1, l_ixt2, l_ixtl, l_ixl0, l_ixl1, l_ixl2, l_ixll, l_isn_bl, l_inn_bl, l_ty_int_bl, l_ty_bool_bl, l_ty_str_bl, l_ty_tuple_bl, l_ty_list_bl, l_isn_int, l_inn_int, l_ty_int_int, l_ty_bool_int, l_ty_str_int, l_ty_tuple_int, l_ty_list_int, l_isn_str, l_inn_str, l_ty_int_str, l_ty_bool_str, l_ty_str_str, l_ty_tuple_str, l_ty_list_str, l_isn_tup, l_inn_tup, l_ty_int_tup, l_ty_bool_tup, l_ty_str_tup, l_ty_tuple_tup, l_ty_list_tup, l_isn_lst, l_inn_lst, l_ty_int_lst, l_ty_bool_lst, l_ty_str_lst, l_ty_tuple_lst, l_ty_list_lst, l_isn_non, l_inn_non, l_ty_int_non, l_ty_bool_non, l_ty_str_non, l_ty_tuple_non, l_ty_list_non, d_t, d_f, Bool.not_true, Bool.not_false, List.length_map, List.length_append, List.length_cons, List.length_nil, List.nil_append, List.cons_append, if_true, if_false, Bool.false_eq_true, ite_true, ite_false, List.map_cons, List.map_nil, beq_self_eq_true, reduceIte, Bool.true_and, Bool.and_true, Bool.false_and, Bool.and_false, Int.reduceAdd, Int.reduceSub, Int.reduceMul, Int.reduceNeg, Int.reduceMod, Int.reduceDiv, Int.reduceToNat, Nat.reduceAdd, Nat.reduceMul, Nat.reduceSub, Bool.or_true, Bool.true_or, Bool.or_false, Bool.false_or, Int.cast_ofNat_Int, decide_true, decide_false, D_window_of, F_window_of, e, h1]
end Lw
/-! Windows: looks at beginnings. -/
namespace Lw
open PySem PySem.Spec PyProof.Rows L2 Dl
def W1 : DEnv → DFlow := sSeq (sIf (vTest (vOp eqD (vVar 2) (vC (.int 0)))) (sRet (vC (.str "form"))) (sNop)) (sAsg 2 (vOp fdivD (vOp addD (vVar 2) (vVar 4)) (vC (.int 2))))
def W2 : DEnv → DFlow := sSeq (sIf (vTest (vOp notND (vCall 2 D__clash (aCons (vVar 0) (aCons (vVar 4) (aNil)))) (vC .non))) (sRet (vVar 3)) (sNop)) (sAsg 0 (vStep (vVar 0) (oSome (vOp subD (vC (.int 1)) (vVar 4))) (oNone) (oSome (vC (.int 2)))))
def T2 : Dat → DEnv → Option DEnv := aTup (asCons (aName 3) (asCons (aName 4) (asNil)))
theorem left_half (l : List Bool) (b : Bool) : ((l.length : Int) + bitI b) / 2 = ((sel (!b) l).length : Nat) := by
  rw [sel_len]
  cases b <;> simp [bitI] <;> omega
theorem step_bit (l : List Bool) (b : Bool) (h : l.length ≤ 100000) : stepK (some (1 - bitI b)) none (some 2) (.tup (l.map cD)) = some (.tup ((sel (!b) l).map cD)) := by
  have : 1 - bitI b = bitI (!b) := by cases b <;> rfl
  rw [this]
  exact step_sel l (!b) h
theorem sel_le (l : List Bool) (b : Bool) (h : l.length ≤ 1000) : (sel b l).length ≤ 1000 := by
  rw [sel_len]
  cases b <;> simp <;> omega
theorem w1_loop : ∀ (p l : List Bool) (k : Nat) (row ps x y z : Option Dat), l.length ≤ 1000 → Good l p → ∃ x' y', forL T2 W1 (numF k (pathD p)) [row, ps, some (.int l.length), x, y, z] = .nx [row, ps, some (.int 0), x', y', z]
  | [], l, k, row, ps, x, y, z, hl, g => by
    have g : l = [] := g
    subst g
    exact ⟨x, y, rfl⟩
  | b :: p, l, k, row, ps, x, y, z, hl, g => by
    obtain ⟨g1, g2, g3⟩ := g
    have hp : 0 < l.length := List.length_pos_iff.mpr g1
    obtain ⟨x', y', e⟩ := w1_loop p (sel (!b) l) (k + 1) row ps (some (.int (k : Nat))) (some (.int (bitI b))) z (sel_le _ _ hl) g3
    refine ⟨x', y', ?_⟩
    rw [← e, ← left_half]
    show forL T2 W1 (.tup [.int (k : Nat), .int (bitI b)] :: numF (k + 1) (pathD p)) _ = _
    rw [u_for]
    unfold T2 W1
    simp (disch := (first | omega | (simp only [List.length_map, List.length_append, List.length_cons, List.length_nil, rngC_len, rng_len, List.length_range, List.length_reverse, List.length_take, List.length_drop, List.length_set, List.length_replicate] at *; omega))) only [e_v0, e_vS, e_vC, e_s0, e_sS, e_op, e_op1, e_op2, e_opx, e_opx2, e_some, e_1, e_11, e_t, e_t1, e_tx, e_tr, e_tr1, e_trx, e_trb, e_trn, e_nt, e_nt1, e_ntx, e_and, e_andt, e_andf, e_andx, e_or, e_ort, e_orf, e_orx, e_va, e_vat, e_vaf, e_vax, e_vo, e_vot, e_vof, e_vox, e_vi, e_vit, e_vif, e_vix, e_vl, e_vl1, e_an, e_ac, e_ac1, e_acx, e_ac2, e_acx2, e_tu, e_tu1, e_tux, e_ls, e_ls1, e_cb, e_cb1, e_cbx, e_ca, e_ca_0, e_ca_1, e_ca_2, e_ca_3, e_ca_4, e_ca_5, e_ca_6, e_cax, e_ch, e_ch1, e_ch2, e_ch3, e_ch4, e_sl, e_sl1, e_slt, e_sll, e_slf, e_st, e_st1, e_os, e_os1, e_on, e_ga, e_ga1, e_gs, e_gst, e_gsl, e_gsf, e_ge, e_get, e_r1, e_r1i, e_r2i, e_r3, e_lc, e_lc1, e_wp0, e_wp1, e_gn, e_gt, e_gl, e_gc, e_gc1, e_g0, e_seq, e_seqn, e_seqr, e_seqx, e_seqc, e_seqb, e_nop, e_brk, e_cnt, e_rai, e_asg, e_asg1, e_asgx, e_asgO, e_asgO1, e_asgT, e_asgT1, e_asgTx, e_tg, e_par, e_par1, e_par2, e_parO, e_parO1, e_drop, e_drop1, e_dropx, e_ret, e_ret1, e_retx, e_retN, e_if, e_ift, e_iff, e_ifx, e_aug, e_aug1, e_aug2, e_app, e_app1, e_ext, e_ext1, e_si, e_si1, e_si2, e_si3, e_pop, e_pop1, e_for, e_for1, e_whl, e_fl0, e_ft, e_fsn, e_fsc, e_fsb, e_fsr, e_fsx, e_wtt, e_wtf, e_wsn, e_wsc, e_wsb, e_wsr, e_wsx, e_try, e_tryn, e_tryr, e_tryc, e_try1, e_try1n, e_try1r, e_run, e_endn, e_endr, e_endx, e_sta1, e_sta2, e_sta3, l_eq, l_ne, l_eqbb, l_nebb, l_lt, l_le, l_gt, l_ge, l_add, l_addt, l_addl, l_sub, l_neg, l_mod, l_fdiv, l_mul, l_mul2, l_iadd, l_not, l_len1, l_len2, l_len3, l_int, l_intb, l_tup1, l_tup2, l_lst1, l_lst2, l_max, l_min, l_ixt0, l_ixt1, l_ixt2, l_ixtl, l_ixl0, l_ixl1, l_ixl2, l_ixll, l_isn_bl, l_inn_bl, l_ty_int_bl, l_ty_bool_bl, l_ty_str_bl, l_ty_tuple_bl, l_ty_list_bl, l_isn_int, l_inn_int, l_ty_int_int, l_ty_bool_int, l_ty_str_int, l_ty_tuple_int, l_ty_list_int, l_isn_str, l_inn_str, l_ty_int_str, l_ty_bool_str, l_ty_str_str, l_ty_tuple_str, l_ty_list_str, l_isn_tup, l_inn_tup, l_ty_int_tup, l_ty_bool_tup, l_ty_str_tup, l_ty_tuple_tup, l_ty_list_tup, l_isn_lst, l_inn_lst, l_ty_int_lst, l_ty_bool_lst, l_ty_str_lst, l_ty_tuple_lst, l_ty_list_lst, l_isn_non, l_inn_non, l_ty_int_non, l_ty_bool_non, l_ty_str_non, l_ty_tuple_non, l_ty_list_non, d_t, d_f, Bool.not_true, Bool.not_false, List.length_map, List.length_append, List.length_cons, List.length_nil, List.nil_append, List.cons_append, if_true, if_false, Bool.false_eq_true, ite_true, ite_false, List.map_cons, List.map_nil, beq_self_eq_true, reduceIte, Bool.true_and, Bool.and_true, Bool.false_and, Bool.and_false, Int.reduceAdd, Int.reduceSub, Int.reduceMul, Int.reduceNeg, Int.reduceMod, Int.reduceDiv, Int.reduceToNat, Nat.reduceAdd, Nat.reduceMul, Nat.reduceSub, Bool.or_true, Bool.true_or, Bool.or_false, Bool.false_or, Int.cast_ofNat_Int, decide_true, decide_false]
theorem w2_loop : ∀ (p l : List Bool) (k : Nat) (ps x y u z : Option Dat), l.length ≤ 1000 → Good l p → ∃ x' y', forL T2 W2 (numF k (pathD p)) [some (.tup (l.map cD)), ps, u, x, y, z] = .nx [some (.tup []), ps, u, x', y', z]
  | [], l, k, ps, x, y, u, z, hl, g => by
    have g : l = [] := g
    subst g
    exact ⟨x, y, rfl⟩
  | b :: p, l, k, ps, x, y, u, z, hl, g => by
    obtain ⟨g1, g2, g3⟩ := g
    obtain ⟨x', y', e⟩ := w2_loop p (sel (!b) l) (k + 1) ps (some (.int (k : Nat))) (some (.int (bitI b))) u z (sel_le _ _ hl) g3
    refine ⟨x', y', ?_⟩
    rw [← e]
    show forL T2 W2 (.tup [.int (k : Nat), .int (bitI b)] :: numF (k + 1) (pathD p)) _ = _
    rw [u_for]
    have e1 := clash_no l b (by omega) g2
    have e2 := step_bit l b (by omega)
    unfold T2 W2
    simp (disch := (first | omega | (simp only [List.length_map, List.length_append, List.length_cons, List.length_nil, rngC_len, rng_len, List.length_range, List.length_reverse, List.length_take, List.length_drop, List.length_set, List.length_replicate] at *; omega))) only [e_v0, e_vS, e_vC, e_s0, e_sS, e_op, e_op1, e_op2, e_opx, e_opx2, e_some, e_1, e_11, e_t, e_t1, e_tx, e_tr, e_tr1, e_trx, e_trb, e_trn, e_nt, e_nt1, e_ntx, e_and, e_andt, e_andf, e_andx, e_or, e_ort, e_orf, e_orx, e_va, e_vat, e_vaf, e_vax, e_vo, e_vot, e_vof, e_vox, e_vi, e_vit, e_vif, e_vix, e_vl, e_vl1, e_an, e_ac, e_ac1, e_acx, e_ac2, e_acx2, e_tu, e_tu1, e_tux, e_ls, e_ls1, e_cb, e_cb1, e_cbx, e_ca, e_ca_0, e_ca_1, e_ca_2, e_ca_3, e_ca_4, e_ca_5, e_ca_6, e_cax, e_ch, e_ch1, e_ch2, e_ch3, e_ch4, e_sl, e_sl1, e_slt, e_sll, e_slf, e_st, e_st1, e_os, e_os1, e_on, e_ga, e_ga1, e_gs, e_gst, e_gsl, e_gsf, e_ge, e_get, e_r1, e_r1i, e_r2i, e_r3, e_lc, e_lc1, e_wp0, e_wp1, e_gn, e_gt, e_gl, e_gc, e_gc1, e_g0, e_seq, e_seqn, e_seqr, e_seqx, e_seqc, e_seqb, e_nop, e_brk, e_cnt, e_rai, e_asg, e_asg1, e_asgx, e_asgO, e_asgO1, e_asgT, e_asgT1, e_asgTx, e_tg, e_par, e_par1, e_par2, e_parO, e_parO1, e_drop, e_drop1, e_dropx, e_ret, e_ret1, e_retx, e_retN, e_if, e_ift, e_iff, e_ifx, e_aug, e_aug1, e_aug2, e_app, e_app1, e_ext, e_ext1, e_si, e_si1, e_si2, e_si3, e_pop, e_pop1, e_for, e_for1, e_whl, e_fl0, e_ft, e_fsn, e_fsc, e_fsb, e_fsr, e_fsx, e_wtt, e_wtf, e_wsn, e_wsc, e_wsb, e_wsr, e_wsx, e_try, e_tryn, e_tryr, e_tryc, e_try1, e_try1n, e_try1r, e_run, e_endn, e_endr, e_endx, e_sta1, e_sta2, e_sta3, l_eq, l_ne, l_eqbb, l_nebb, l_lt, l_le, l_gt, l_ge, l_add, l_addt, l_addl, l_sub, l_neg, l_mod, l_fdiv, l_mul, l_mul2, l_iadd, l_not, l_len1, l_len2, l_len3, l_int, l_intb, l_tup1, l_tup2, l_lst1, l_lst2, l_max, l_min, l_ixt0, l_ixt1, l_ixt2, l_ixtl, l_ixl0, l_ixl1, l_ixl2, l_ixll, l_isn_bl, l_inn_bl, l_ty_int_bl, l_ty_bool_bl, l_ty_str_bl, l_ty_tuple_bl, l_ty_list_bl, l_isn_int, l_inn_int, l_ty_int_int, l_ty_bool_int, l_ty_str_int, l_ty_tuple_int, l_ty_list_int, l_isn_str, l_inn_str, l_ty_int_str, l_ty_bool_str, l_ty_str_str, l_ty_tuple_str, l_ty_list_str, l_isn_tup, l_inn_tup, l_ty_int_tup, l_ty_bool_tup, l_ty_str_tup, l_ty_tuple_tup, l_ty_list_tup, l_isn_lst, l_inn_lst, l_ty_int_lst, l_ty_bool_lst, l_ty_str_lst, l_ty_tuple_lst, l_ty_list_lst, l_isn_non, l_inn_non, l_ty_int_non, l_ty_bool_non, l_ty_str_non, l_ty_tuple_non, l_ty_list_non, d_t, d_f, Bool.not_true, Bool.not_false, List.length_map, List.length_append, List.length_cons, List.length_nil, List.nil_append, List.cons_append, if_true, if_false, Bool.false_eq_true, ite_true, ite_false, List.map_cons, List.map_nil, beq_self_eq_true, reduceIte, Bool.true_and, Bool.and_true, Bool.false_and, Bool.and_false, Int.reduceAdd, Int.reduceSub, Int.reduceMul, Int.reduceNeg, Int.reduceMod, Int.reduceDiv, Int.reduceToNat, Nat.reduceAdd, Nat.reduceMul, Nat.reduceSub, Bool.or_true, Bool.true_or, Bool.or_false, Bool.false_or, Int.cast_ofNat_Int, decide_true, decide_false, e1, e2]
theorem window_fault_eq (l p : List Bool) (hl : l.length ≤ 200) (hp : p.length ≤ 10) (g : Good l p) : D_window_fault [.tup (l.map cD), .tup (pathD p)] = .ok .non := by
  have e := checkrow_eq l hl
  have hp' : (pathD p).length ≤ 10 := by unfold pathD; rw [List.length_map]; exact hp
  simp (disch := (first | omega | (simp only [List.length_map, List.length_append, List.length_cons, List.length_nil, rngC_len, rng_len, List.length_range, List.length_reverse, List.length_take, List.length_drop, List.length_set, List.length_replicate] at *; omega))) only [e_v0, e_vS, e_vC, e_s0, e_sS, e_op, e_op1, e_op2, e_opx, e_opx2, e_some, e_1, e_11, e_t, e_t1, e_tx, e_tr, e_tr1, e_trx, e_trb, e_trn, e_nt, e_nt1, e_ntx, e_and, e_andt, e_andf, e_andx, e_or, e_ort, e_orf, e_orx, e_va, e_vat, e_vaf, e_vax, e_vo, e_vot, e_vof, e_vox, e_vi, e_vit, e_vif, e_vix, e_vl, e_vl1, e_an, e_ac, e_ac1, e_acx, e_ac2, e_acx2, e_tu, e_tu1, e_tux, e_ls, e_ls1, e_cb, e_cb1, e_cbx, e_ca, e_ca_0, e_ca_1, e_ca_2, e_ca_3, e_ca_4, e_ca_5, e_ca_6, e_cax, e_ch, e_ch1, e_ch2, e_ch3, e_ch4, e_sl, e_sl1, e_slt, e_sll, e_slf, e_st, e_st1, e_os, e_os1, e_on, e_ga, e_ga1, e_gs, e_gst, e_gsl, e_gsf, e_ge, e_get, e_r1, e_r1i, e_r2i, e_r3, e_lc, e_lc1, e_wp0, e_wp1, e_gn, e_gt, e_gl, e_gc, e_gc1, e_g0, e_seq, e_seqn, e_seqr, e_seqx, e_seqc, e_seqb, e_nop, e_brk, e_cnt, e_rai, e_asg, e_asg1, e_asgx, e_asgO, e_asgO1, e_asgT, e_asgT1, e_asgTx, e_tg, e_par, e_par1, e_par2, e_parO, e_parO1, e_drop, e_drop1, e_dropx, e_ret, e_ret1, e_retx, e_retN, e_if, e_ift, e_iff, e_ifx, e_aug, e_aug1, e_aug2, e_app, e_app1, e_ext, e_ext1, e_si, e_si1, e_si2, e_si3, e_pop, e_pop1, e_for, e_for1, e_whl, e_fl0, e_ft, e_fsn, e_fsc, e_fsb, e_fsr, e_fsx, e_wtt, e_wtf, e_wsn, e_wsc, e_wsb, e_wsr, e_wsx, e_try, e_tryn, e_tryr, e_tryc, e_try1, e_try1n, e_try1r, e_run, e_endn, e_endr, e_endx, e_sta1, e_sta2, e_sta3, l_eq, l_ne, l_eqbb, l_nebb, l_lt, l_le, l_gt, l_ge, l_add, l_addt, l_addl, l_sub, l_neg, l_mod, l_fdiv, l_mul, l_mul2, l_iadd, l_not, l_len1, l_len2, l_len3, l_int, l_intb, l_tup1, l_tup2, l_lst1, l_lst2, l_max, l_min, l_ixt0, l_ixt1, l_ixt2, l_ixtl, l_ixl0, l_ixl1, l_ixl2, l_ixll, l_isn_bl, l_inn_bl, l_ty_int_bl, l_ty_bool_bl, l_ty_str_bl, l_ty_tuple_bl, l_ty_list_bl, l_isn_int, l_inn_int, l_ty_int_int, l_ty_bool_int, l_ty_str_int, l_ty_tuple_int, l_ty_list_int, l_isn_str, l_inn_str, l_ty_int_str, l_ty_bool_str, l_ty_str_str, l_ty_tuple_str, l_ty_list_str, l_isn_tup, l_inn_tup, l_ty_int_tup, l_ty_bool_tup, l_ty_str_tup, l_ty_tuple_tup, l_ty_list_tup, l_isn_lst, l_inn_lst, l_ty_int_lst, l_ty_bool_lst, l_ty_str_lst, l_ty_tuple_lst, l_ty_list_lst, l_isn_non, l_inn_non, l_ty_int_non, l_ty_bool_non, l_ty_str_non, l_ty_tuple_non, l_ty_list_non, d_t, d_f, Bool.not_true, Bool.not_false, List.length_map, List.length_append, List.length_cons, List.length_nil, List.nil_append, List.cons_append, if_true, if_false, Bool.false_eq_true, ite_true, ite_false, List.map_cons, List.map_nil, beq_self_eq_true, reduceIte, Bool.true_and, Bool.and_true, Bool.false_and, Bool.and_false, Int.reduceAdd, Int.reduceSub, Int.reduceMul, Int.reduceNeg, Int.reduceMod, Int.reduceDiv, Int.reduceToNat, Nat.reduceAdd, Nat.reduceMul, Nat.reduceSub, Bool.or_true, Bool.true_or, Bool.or_false, Bool.false_or, Int.cast_ofNat_Int, decide_true, decide_false, D_window_fault, F_window_fault, e]
  generalize hL : lcL _ _ _ _ _ = r
  have := lcL_of' (l := p) hL (fun _ => .bl true) fun b _ => ⟨_, rfl, by cases b <;> simp (disch := (first | omega | (simp only [List.length_map, List.length_append, List.length_cons, List.length_nil, rngC_len, rng_len, List.length_range, List.length_reverse, List.length_take, List.length_drop, List.length_set, List.length_replicate] at *; omega))) only [e_v0, e_vS, e_vC, e_s0, e_sS, e_op, e_op1, e_op2, e_opx, e_opx2, e_some, e_1, e_11, e_t, e_t1, e_tx, e_tr, e_tr1, e_trx, e_trb, e_trn, e_nt, e_nt1, e_ntx, e_and, e_andt, e_andf, e_andx, e_or, e_ort, e_orf, e_orx, e_va, e_vat, e_vaf, e_vax, e_vo, e_vot, e_vof, e_vox, e_vi, e_vit, e_vif, e_vix, e_vl, e_vl1, e_an, e_ac, e_ac1, e_acx, e_ac2, e_acx2, e_tu, e_tu1, e_tux, e_ls, e_ls1, e_cb, e_cb1, e_cbx, e_ca, e_ca_0, e_ca_1, e_ca_2, e_ca_3, e_ca_4, e_ca_5, e_ca_6, e_cax, e_ch, e_ch1, e_ch2, e_ch3, e_ch4, e_sl, e_sl1, e_slt, e_sll, e_slf, e_st, e_st1, e_os, e_os1, e_on, e_ga, e_ga1, e_gs, e_gst, e_gsl, e_gsf, e_ge, e_get, e_r1, e_r1i, e_r2i, e_r3, e_lc, e_lc1, e_wp0, e_wp1, e_gn, e_gt, e_gl, e_gc, e_gc1, e_g0, e_seq, e_seqn, e_seqr, e_seqx, e_seqc, e_seqb, e_nop, e_brk, e_cnt, e_rai, e_asg, e_asg1, e_asgx, e_asgO, e_asgO1, e_asgT, e_asgT1, e_asgTx, e_tg, e_par, e_par1, e_par2, e_parO, e_parO1, e_drop, e_drop1, e_dropx, e_ret, e_ret1, e_retx, e_retN, e_if, e_ift, e_iff, e_ifx, e_aug, e_aug1, e_aug2, e_app, e_app1, e_ext, e_ext1, e_si, e_si1, e_si2, e_si3, e_pop, e_pop1, e_for, e_for1, e_whl, e_fl0, e_ft, e_fsn, e_fsc, e_fsb, e_fsr, e_fsx, e_wtt, e_wtf, e_wsn, e_wsc, e_wsb, e_wsr, e_wsx, e_try, e_tryn, e_tryr, e_tryc, e_try1, e_try1n, e_try1r, e_run, e_endn, e_endr, e_endx, e_sta1, e_sta2, e_sta3, l_eq, l_ne, l_eqbb, l_nebb, l_lt, l_le, l_gt, l_ge, l_add, l_addt, l_addl, l_sub, l_neg, l_mod, l_fdiv, l_mul, l_mul2, l_iadd, l_not, l_len1, l_len2, l_len3, l_int, l_intb, l_tup1, l_tup2, l_lst1, l_lst2, l_max, l_min, l_ixt0, l_ixt1, l_ixt2, l_ixtl, l_ixl0, l_ixl1, l_ixl2, l_ixll, l_isn_bl, l_inn_bl, l_ty_int_bl, l_ty_bool_bl, l_ty_str_bl, l_ty_tuple_bl, l_ty_list_bl, l_isn_int, l_inn_int, l_ty_int_int, l_ty_bool_int, l_ty_str_int, l_ty_tuple_int, l_ty_list_int, l_isn_str, l_inn_str, l_ty_int_str, l_ty_bool_str, l_ty_str_str, l_ty_tuple_str, l_ty_list_str, l_isn_tup, l_inn_tup, l_ty_int_tup, l_ty_bool_tup, l_ty_str_tup, l_ty_tuple_tup, l_ty_list_tup, l_isn_lst, l_inn_lst, l_ty_int_lst, l_ty_bool_lst, l_ty_str_lst, l_ty_tuple_lst, l_ty_list_lst, l_isn_non, l_inn_non, l_ty_int_non, l_ty_bool_non, l_ty_str_non, l_ty_tuple_non, l_ty_list_non, d_t, d_f, Bool.not_true, Bool.not_false, List.length_map, List.length_append, List.length_cons, List.length_nil, List.nil_append, List.cons_append, if_true, if_false, Bool.false_eq_true, ite_true, ite_false, List.map_cons, List.map_nil, beq_self_eq_true, reduceIte, Bool.true_and, Bool.and_true, Bool.false_and, Bool.and_false, Int.reduceAdd, Int.reduceSub, Int.reduceMul, Int.reduceNeg, Int.reduceMod, Int.reduceDiv, Int.reduceToNat, Nat.reduceAdd, Nat.reduceMul, Nat.reduceSub, Bool.or_true, Bool.true_or, Bool.or_false, Bool.false_or, Int.cast_ofNat_Int, decide_true, decide_false, bitI, whole_eq]⟩
  subst this
  simp (disch := (first | omega | (simp only [List.length_map, List.length_append, List.length_cons, List.length_nil, rngC_len, rng_len, List.length_range, List.length_reverse, List.length_take, List.length_drop, List.length_set, List.length_replicate] at *; omega))) only [e_v0, e_vS, e_vC, e_s0, e_sS, e_op, e_op1, e_op2, e_opx, e_opx2, e_some, e_1, e_11, e_t, e_t1, e_tx, e_tr, e_tr1, e_trx, e_trb, e_trn, e_nt, e_nt1, e_ntx, e_and, e_andt, e_andf, e_andx, e_or, e_ort, e_orf, e_orx, e_va, e_vat, e_vaf, e_vax, e_vo, e_vot, e_vof, e_vox, e_vi, e_vit, e_vif, e_vix, e_vl, e_vl1, e_an, e_ac, e_ac1, e_acx, e_ac2, e_acx2, e_tu, e_tu1, e_tux, e_ls, e_ls1, e_cb, e_cb1, e_cbx, e_ca, e_ca_0, e_ca_1, e_ca_2, e_ca_3, e_ca_4, e_ca_5, e_ca_6, e_cax, e_ch, e_ch1, e_ch2, e_ch3, e_ch4, e_sl, e_sl1, e_slt, e_sll, e_slf, e_st, e_st1, e_os, e_os1, e_on, e_ga, e_ga1, e_gs, e_gst, e_gsl, e_gsf, e_ge, e_get, e_r1, e_r1i, e_r2i, e_r3, e_lc, e_lc1, e_wp0, e_wp1, e_gn, e_gt, e_gl, e_gc, e_gc1, e_g0, e_seq, e_seqn, e_seqr, e_seqx, e_seqc, e_seqb, e_nop, e_brk, e_cnt, e_rai, e_asg, e_asg1, e_asgx, e_asgO, e_asgO1, e_asgT, e_asgT1, e_asgTx, e_tg, e_par, e_par1, e_par2, e_parO, e_parO1, e_drop, e_drop1, e_dropx, e_ret, e_ret1, e_retx, e_retN, e_if, e_ift, e_iff, e_ifx, e_aug, e_aug1, e_aug2, e_app, e_app1, e_ext, e_ext1, e_si, e_si1, e_si2, e_si3, e_pop, e_pop1, e_for, e_for1, e_whl, e_fl0, e_ft, e_fsn, e_fsc, e_fsb, e_fsr, e_fsx, e_wtt, e_wtf, e_wsn, e_wsc, e_wsb, e_wsr, e_wsx, e_try, e_tryn, e_tryr, e_tryc, e_try1, e_try1n, e_try1r, e_run, e_endn, e_endr, e_endx, e_sta1, e_sta2, e_sta3, l_eq, l_ne, l_eqbb, l_nebb, l_lt, l_le, l_gt, l_ge, l_add, l_addt, l_addl, l_sub, l_neg, l_mod, l_fdiv, l_mul, l_mul2, l_iadd, l_not, l_len1, l_len2, l_len3, l_int, l_intb, l_tup1, l_tup2, l_lst1, l_lst2, l_max, l_min, l_ixt0, l_ixt1, l_ixt2, l_ixtl, l_ixl0, l_ixl1, l_ixl2, l_ixll, l_isn_bl, l_inn_bl, l_ty_int_bl, l_ty_bool_bl, l_ty_str_bl, l_ty_tuple_bl, l_ty_list_bl, l_isn_int, l_inn_int, l_ty_int_int, l_ty_bool_int, l_ty_str_int, l_ty_tuple_int, l_ty_list_int, l_isn_str, l_inn_str, l_ty_int_str, l_ty_bool_str, l_ty_str_str, l_ty_tuple_str, l_ty_list_str, l_isn_tup, l_inn_tup, l_ty_int_tup, l_ty_bool_tup, l_ty_str_tup, l_ty_tuple_tup, l_ty_list_tup, l_isn_lst, l_inn_lst, l_ty_int_lst, l_ty_bool_lst, l_ty_str_lst, l_ty_tuple_lst, l_ty_list_lst, l_isn_non, l_inn_non, l_ty_int_non, l_ty_bool_non, l_ty_str_non, l_ty_tuple_non, l_ty_list_non, d_t, d_f, Bool.not_true, Bool.not_false, List.length_map, List.length_append, List.length_cons, List.length_nil, List.nil_append, List.cons_append, if_true, if_false, Bool.false_eq_true, ite_true, ite_false, List.map_cons, List.map_nil, beq_self_eq_true, reduceIte, Bool.true_and, Bool.and_true, Bool.false_and, Bool.and_false, Int.reduceAdd, Int.reduceSub, Int.reduceMul, Int.reduceNeg, Int.reduceMod, Int.reduceDiv, Int.reduceToNat, Nat.reduceAdd, Nat.reduceMul, Nat.reduceSub, Bool.or_true, Bool.true_or, Bool.or_false, Bool.false_or, Int.cast_ofNat_Int, decide_true, decide_false, allT, num_from]
  obtain ⟨x1, y1, e1⟩ := w1_loop p l 0 (some (.tup (l.map cD))) (some (.tup (pathD p))) none none none (by omega) g
  have e1 := e1
  unfold T2 W1 at e1
  simp (disch := (first | omega | (simp only [List.length_map, List.length_append, List.length_cons, List.length_nil, rngC_len, rng_len, List.length_range, List.length_reverse, List.length_take, List.length_drop, List.length_set, List.length_replicate] at *; omega))) only [e_v0, e_vS, e_vC, e_s0, e_sS, e_op, e_op1, e_op2, e_opx, e_opx2, e_some, e_1, e_11, e_t, e_t1, e_tx, e_tr, e_tr1, e_trx, e_trb, e_trn, e_nt, e_nt1, e_ntx, e_and, e_andt, e_andf, e_andx, e_or, e_ort, e_orf, e_orx, e_va, e_vat, e_vaf, e_vax, e_vo, e_vot, e_vof, e_vox, e_vi, e_vit, e_vif, e_vix, e_vl, e_vl1, e_an, e_ac, e_ac1, e_acx, e_ac2, e_acx2, e_tu, e_tu1, e_tux, e_ls, e_ls1, e_cb, e_cb1, e_cbx, e_ca, e_ca_0, e_ca_1, e_ca_2, e_ca_3, e_ca_4, e_ca_5, e_ca_6, e_cax, e_ch, e_ch1, e_ch2, e_ch3, e_ch4, e_sl, e_sl1, e_slt, e_sll, e_slf, e_st, e_st1, e_os, e_os1, e_on, e_ga, e_ga1, e_gs, e_gst, e_gsl, e_gsf, e_ge, e_get, e_r1, e_r1i, e_r2i, e_r3, e_lc, e_lc1, e_wp0, e_wp1, e_gn, e_gt, e_gl, e_gc, e_gc1, e_g0, e_seq, e_seqn, e_seqr, e_seqx, e_seqc, e_seqb, e_nop, e_brk, e_cnt, e_rai, e_asg, e_asg1, e_asgx, e_asgO, e_asgO1, e_asgT, e_asgT1, e_asgTx, e_tg, e_par, e_par1, e_par2, e_parO, e_parO1, e_drop, e_drop1, e_dropx, e_ret, e_ret1, e_retx, e_retN, e_if, e_ift, e_iff, e_ifx, e_aug, e_aug1, e_aug2, e_app, e_app1, e_ext, e_ext1, e_si, e_si1, e_si2, e_si3, e_pop, e_pop1, e_for, e_for1, e_whl, e_fl0, e_ft, e_fsn, e_fsc, e_fsb, e_fsr, e_fsx, e_wtt, e_wtf, e_wsn, e_wsc, e_wsb, e_wsr, e_wsx, e_try, e_tryn, e_tryr, e_tryc, e_try1, e_try1n, e_try1r, e_run, e_endn, e_endr, e_endx, e_sta1, e_sta2, e_sta3, l_eq, l_ne, l_eqbb, l_nebb, l_lt, l_le, l_gt, l_ge, l_add, l_addt, l_addl, l_sub, l_neg, l_mod, l_fdiv, l_mul, l_mul2, l_iadd, l_not, l_len1, l_len2, l_len3, l_int, l_intb, l_tup1, l_tup2, l_lst1, l_lst2, l_max, l_min, l_ixt0, l_ixt1, l_ixt2, l_ixtl, l_ixl0, l_ixl1, l_ixl2, l_ixll, l_isn_bl, l_inn_bl, l_ty_int_bl, l_ty_bool_bl, l_ty_str_bl, l_ty_tuple_bl, l_ty_list_bl, l_isn_int, l_inn_int, l_ty_int_int, l_ty_bool_int, l_ty_str_int, l_ty_tuple_int, l_ty_list_int, l_isn_str, l_inn_str, l_ty_int_str, l_ty_bool_str, l_ty_str_str, l_ty_tuple_str, l_ty_list_str, l_isn_tup, l_inn_tup, l_ty_int_tup, l_ty_bool_tup, l_ty_str_tup, l_ty_tuple_tup, l_ty_list_tup, l_isn_lst, l_inn_lst, l_ty_int_lst, l_ty_bool_lst, l_ty_str_lst, l_ty_tuple_lst, l_ty_list_lst, l_isn_non, l_inn_non, l_ty_int_non, l_ty_bool_non, l_ty_str_non, l_ty_tuple_non, l_ty_list_non, d_t, d_f, Bool.not_true, Bool.not_false, List.length_map, List.length_append, List.length_cons, List.length_nil, List.nil_append, List.cons_append, if_true, if_false, Bool.false_eq_true, ite_true, ite_false, List.map_cons, List.map_nil, beq_self_eq_true, reduceIte, Bool.true_and, Bool.and_true, Bool.false_and, Bool.and_false, Int.reduceAdd, Int.reduceSub, Int.reduceMul, Int.reduceNeg, Int.reduceMod, Int.reduceDiv, Int.reduceToNat, Nat.reduceAdd, Nat.reduceMul, Nat.reduceSub, Bool.or_true, Bool.true_or, Bool.or_false, Bool.false_or, Int.cast_ofNat_Int, decide_true, decide_false, e1]
  obtain ⟨x2, y2, e2⟩ := w2_loop p l 0 (some (.tup (pathD p))) x1 y1 (some (.int 0)) none (by omega) g
  unfold T2 W2 at e2
  simp (disch := (first | omega | (simp only [List.length_map, List.length_append, List.length_cons, List.length_nil, rngC_len, rng_len, List.length_range, List.length_reverse, List.length_take, List.length_drop, List.length_set, List.length_replicate] at *; omega))) only [e_v0, e_vS, e_vC, e_s0, e_sS, e_op, e_op1, e_op2, e_opx, e_opx2, e_some, e_1, e_11, e_t, e_t1, e_tx, e_tr, e_tr1, e_trx, e_trb, e_trn, e_nt, e_nt1, e_ntx, e_and, e_andt, e_andf, e_andx, e_or, e_ort, e_orf, e_orx, e_va, e_vat, e_vaf, e_vax, e_vo, e_vot, e_vof, e_vox, e_vi, e_vit, e_vif, e_vix, e_vl, e_vl1, e_an, e_ac, e_ac1, e_acx, e_ac2, e_acx2, e_tu, e_tu1, e_tux, e_ls, e_ls1, e_cb, e_cb1, e_cbx, e_ca, e_ca_0, e_ca_1, e_ca_2, e_ca_3, e_ca_4, e_ca_5, e_ca_6, e_cax, e_ch, e_ch1, e_ch2, e_ch3, e_ch4, e_sl, e_sl1, e_slt, e_sll, e_slf, e_st, e_st1, e_os, e_os1, e_on, e_ga, e_ga1, e_gs, e_gst, e_gsl, e_gsf, e_ge, e_get, e_r1, e_r1i, e_r2i, e_r3, e_lc, e_lc1, e_wp0, e_wp1, e_gn, e_gt, e_gl, e_gc, e_gc1, e_g0, e_seq, e_seqn, e_seqr, e_seqx, e_seqc, e_seqb, e_nop, e_brk, e_cnt, e_rai, e_asg, e_asg1, e_asgx, e_asgO, e_asgO1, e_asgT, e_asgT1, e_asgTx, e_tg, e_par, e_par1, e_par2, e_parO, e_parO1, e_drop, e_drop1, e_dropx, e_ret, e_ret1, e_retx, e_retN, e_if, e_ift, e_iff, e_ifx, e_aug, e_aug1, e_aug2, e_app, e_app1, e_ext, e_ext1, e_si, e_si1, e_si2, e_si3, e_pop, e_pop1, e_for, e_for1, e_whl, e_fl0, e_ft, e_fsn, e_fsc, e_fsb, e_fsr, e_fsx, e_wtt, e_wtf, e_wsn, e_wsc, e_wsb, e_wsr, e_wsx, e_try, e_tryn, e_tryr, e_tryc, e_try1, e_try1n, e_try1r, e_run, e_endn, e_endr, e_endx, e_sta1, e_sta2, e_sta3, l_eq, l_ne, l_eqbb, l_nebb, l_lt, l_le, l_gt, l_ge, l_add, l_addt, l_addl, l_sub, l_neg, l_mod, l_fdiv, l_mul, l_mul2, l_iadd, l_not, l_len1, l_len2, l_len3, l_int, l_intb, l_tup1, l_tup2, l_lst1, l_lst2, l_max, l_min, l_ixt0, l_ixt1, l_ixt2, l_ixtl, l_ixl0, l_ixl1, l_ixl2, l_ixll, l_isn_bl, l_inn_bl, l_ty_int_bl, l_ty_bool_bl, l_ty_str_bl, l_ty_tuple_bl, l_ty_list_bl, l_isn_int, l_inn_int, l_ty_int_int, l_ty_bool_int, l_ty_str_int, l_ty_tuple_int, l_ty_list_int, l_isn_str, l_inn_str, l_ty_int_str, l_ty_bool_str, l_ty_str_str, l_ty_tuple_str, l_ty_list_str, l_isn_tup, l_inn_tup, l_ty_int_tup, l_ty_bool_tup, l_ty_str_tup, l_ty_tuple_tup, l_ty_list_tup, l_isn_lst, l_inn_lst, l_ty_int_lst, l_ty_bool_lst, l_ty_str_lst, l_ty_tuple_lst, l_ty_list_lst, l_isn_non, l_inn_non, l_ty_int_non, l_ty_bool_non, l_ty_str_non, l_ty_tuple_non, l_ty_list_non, d_t, d_f, Bool.not_true, Bool.not_false, List.length_map, List.length_append, List.length_cons, List.length_nil, List.nil_append, List.cons_append, if_true, if_false, Bool.false_eq_true, ite_true, ite_false, List.map_cons, List.map_nil, beq_self_eq_true, reduceIte, Bool.true_and, Bool.and_true, Bool.false_and, Bool.and_false, Int.reduceAdd, Int.reduceSub, Int.reduceMul, Int.reduceNeg, Int.reduceMod, Int.reduceDiv, Int.reduceToNat, Nat.reduceAdd, Nat.reduceMul, Nat.reduceSub, Bool.or_true, Bool.true_or, Bool.or_false, Bool.false_or, Int.cast_ofNat_Int, decide_true, decide_false, e2, num_from]
def W3 : DEnv → DFlow := sSeq (sIf (vNotT (vTru (vCB allD (aCons (vL (vLc (gA range3D (aCons (vVar 3) (aCons (vOp subD (vCB lenD (aCons (vVar 0) (aNil))) (vC (.int 2))) (aCons (vC (.int 2)) (aNil))))) (aName 4) [4] (tYesD) (vOp neD (vOp ixD (vVar 0) (vVar 4)) (vOp ixD (vVar 0) (vOp addD (vVar 4) (vC (.int 2))))))) (aNil))))) (sRet (vC (.bl false))) (sNop)) (sAsg 0 (vStep (vVar 0) (oSome (vOp subD (vC (.int 1)) (vVar 3))) (oNone) (oSome (vC (.int 2)))))
theorem w3_loop : ∀ (p l : List Bool) (a b x y : Option Dat), l.length ≤ 1000 → Good l p → ∃ x', forL (aName 3) W3 (pathD p) [some (.tup (l.map cD)), a, b, x, y] = .nx [some (.tup []), a, b, x', y]
  | [], l, a, b, x, y, hl, g => by
    have g : l = [] := g
    subst g
    exact ⟨x, rfl⟩
  | b :: p, l, a, b', x, y, hl, g => by
    obtain ⟨g1, g2, g3⟩ := g
    obtain ⟨x', e⟩ := w3_loop p (sel (!b) l) a b' (some (.int (bitI b))) y (sel_le _ _ hl) g3
    refine ⟨x', ?_⟩
    rw [← e]
    show forL (aName 3) W3 (.int (bitI b) :: pathD p) _ = _
    rw [u_for]
    have e2 := step_bit l b (by omega)
    have hb := bit_b b
    unfold W3
    simp (disch := (first | omega | (simp only [List.length_map, List.length_append, List.length_cons, List.length_nil, rngC_len, rng_len, List.length_range, List.length_reverse, List.length_take, List.length_drop, List.length_set, List.length_replicate] at *; omega))) only [e_v0, e_vS, e_vC, e_s0, e_sS, e_op, e_op1, e_op2, e_opx, e_opx2, e_some, e_1, e_11, e_t, e_t1, e_tx, e_tr, e_tr1, e_trx, e_trb, e_trn, e_nt, e_nt1, e_ntx, e_and, e_andt, e_andf, e_andx, e_or, e_ort, e_orf, e_orx, e_va, e_vat, e_vaf, e_vax, e_vo, e_vot, e_vof, e_vox, e_vi, e_vit, e_vif, e_vix, e_vl, e_vl1, e_an, e_ac, e_ac1, e_acx, e_ac2, e_acx2, e_tu, e_tu1, e_tux, e_ls, e_ls1, e_cb, e_cb1, e_cbx, e_ca, e_ca_0, e_ca_1, e_ca_2, e_ca_3, e_ca_4, e_ca_5, e_ca_6, e_cax, e_ch, e_ch1, e_ch2, e_ch3, e_ch4, e_sl, e_sl1, e_slt, e_sll, e_slf, e_st, e_st1, e_os, e_os1, e_on, e_ga, e_ga1, e_gs, e_gst, e_gsl, e_gsf, e_ge, e_get, e_r1, e_r1i, e_r2i, e_r3, e_lc, e_lc1, e_wp0, e_wp1, e_gn, e_gt, e_gl, e_gc, e_gc1, e_g0, e_seq, e_seqn, e_seqr, e_seqx, e_seqc, e_seqb, e_nop, e_brk, e_cnt, e_rai, e_asg, e_asg1, e_asgx, e_asgO, e_asgO1, e_asgT, e_asgT1, e_asgTx, e_tg, e_par, e_par1, e_par2, e_parO, e_parO1, e_drop, e_drop1, e_dropx, e_ret, e_ret1, e_retx, e_retN, e_if, e_ift, e_iff, e_ifx, e_aug, e_aug1, e_aug2, e_app, e_app1, e_ext, e_ext1, e_si, e_si1, e_si2, e_si3, e_pop, e_pop1, e_for, e_for1, e_whl, e_fl0, e_ft, e_fsn, e_fsc, e_fsb, e_fsr, e_fsx, e_wtt, e_wtf, e_wsn, e_wsc, e_wsb, e_wsr, e_wsx, e_try, e_tryn, e_tryr, e_tryc, e_try1, e_try1n, e_try1r, e_run, e_endn, e_endr, e_endx, e_sta1, e_sta2, e_sta3, l_eq, l_ne, l_eqbb, l_nebb, l_lt, l_le, l_gt, l_ge, l_add, l_addt, l_addl, l_sub, l_neg, l_mod, l_fdiv, l_mul, l_mul2, l_iadd, l_not, l_len1, l_len2, l_len3, l_int, l_intb, l_tup1, l_tup2, l_lst1, l_lst2, l_max, l_min, l_ixt0, l_ixt1, l_ixt2, l_ixtl, l_ixl0, l_ixl1, l_ixl2, l_ixll, l_isn_bl, l_inn_bl, l_ty_int_bl, l_ty_bool_bl, l_ty_str_bl, l_ty_tuple_bl, l_ty_list_bl, l_isn_int, l_inn_int, l_ty_int_int, l_ty_bool_int, l_ty_str_int, l_ty_tuple_int, l_ty_list_int, l_isn_str, l_inn_str, l_ty_int_str, l_ty_bool_str, l_ty_str_str, l_ty_tuple_str, l_ty_list_str, l_isn_tup, l_inn_tup, l_ty_int_tup, l_ty_bool_tup, l_ty_str_tup, l_ty_tuple_tup, l_ty_list_tup, l_isn_lst, l_inn_lst, l_ty_int_lst, l_ty_bool_lst, l_ty_str_lst, l_ty_tuple_lst, l_ty_list_lst, l_isn_non, l_inn_non, l_ty_int_non, l_ty_bool_non, l_ty_str_non, l_ty_tuple_non, l_ty_list_non, d_t, d_f, Bool.not_true, Bool.not_false, List.length_map, List.length_append, List.length_cons, List.length_nil, List.nil_append, List.cons_append, if_true, if_false, Bool.false_eq_true, ite_true, ite_false, List.map_cons, List.map_nil, beq_self_eq_true, reduceIte, Bool.true_and, Bool.and_true, Bool.false_and, Bool.and_false, Int.reduceAdd, Int.reduceSub, Int.reduceMul, Int.reduceNeg, Int.reduceMod, Int.reduceDiv, Int.reduceToNat, Nat.reduceAdd, Nat.reduceMul, Nat.reduceSub, Bool.or_true, Bool.true_or, Bool.or_false, Bool.false_or, Int.cast_ofNat_Int, decide_true, decide_false, e2, turns_two, rngC_len]
    generalize hL : lcL _ _ _ _ _ = r
    have hlen : (sel b l).length - 1 = (l.length - 1 - (if b then 1 else 0)) / 2 := by rw [← clash_len, rngC_len]
    unfold rngC at hL
    have := lcL_of' hL (fun _ => .bl true) fun k hk => ⟨_, rfl, by
      rw [List.mem_range, ← hlen] at hk
      have h1 := List.getElem?_eq_getElem (l := sel b l) (i := k) (by omega)
      have h2 := List.getElem?_eq_getElem (l := sel b l) (i := k + 1) (by omega)
      have q := (altl_iff _).mp g2 k _ _ h1 h2
      rw [sel_at] at h1 h2
      have e1 := at_row (l := l) (j := bitI b + k * 2) (by cases b <;> simp [bitI] <;> omega) h1
      have e2 := at_row (l := l) (j := bitI b + k * 2 + 2) (by cases b <;> simp [bitI] <;> omega) h2
      have q' : ((sel b l)[k] == (sel b l)[k + 1]) = false := by simpa using q
      simp (disch := (first | omega | (simp only [List.length_map, List.length_append, List.length_cons, List.length_nil, rngC_len, rng_len, List.length_range, List.length_reverse, List.length_take, List.length_drop, List.length_set, List.length_replicate] at *; omega))) only [e_v0, e_vS, e_vC, e_s0, e_sS, e_op, e_op1, e_op2, e_opx, e_opx2, e_some, e_1, e_11, e_t, e_t1, e_tx, e_tr, e_tr1, e_trx, e_trb, e_trn, e_nt, e_nt1, e_ntx, e_and, e_andt, e_andf, e_andx, e_or, e_ort, e_orf, e_orx, e_va, e_vat, e_vaf, e_vax, e_vo, e_vot, e_vof, e_vox, e_vi, e_vit, e_vif, e_vix, e_vl, e_vl1, e_an, e_ac, e_ac1, e_acx, e_ac2, e_acx2, e_tu, e_tu1, e_tux, e_ls, e_ls1, e_cb, e_cb1, e_cbx, e_ca, e_ca_0, e_ca_1, e_ca_2, e_ca_3, e_ca_4, e_ca_5, e_ca_6, e_cax, e_ch, e_ch1, e_ch2, e_ch3, e_ch4, e_sl, e_sl1, e_slt, e_sll, e_slf, e_st, e_st1, e_os, e_os1, e_on, e_ga, e_ga1, e_gs, e_gst, e_gsl, e_gsf, e_ge, e_get, e_r1, e_r1i, e_r2i, e_r3, e_lc, e_lc1, e_wp0, e_wp1, e_gn, e_gt, e_gl, e_gc, e_gc1, e_g0, e_seq, e_seqn, e_seqr, e_seqx, e_seqc, e_seqb, e_nop, e_brk, e_cnt, e_rai, e_asg, e_asg1, e_asgx, e_asgO, e_asgO1, e_asgT, e_asgT1, e_asgTx, e_tg, e_par, e_par1, e_par2, e_parO, e_parO1, e_drop, e_drop1, e_dropx, e_ret, e_ret1, e_retx, e_retN, e_if, e_ift, e_iff, e_ifx, e_aug, e_aug1, e_aug2, e_app, e_app1, e_ext, e_ext1, e_si, e_si1, e_si2, e_si3, e_pop, e_pop1, e_for, e_for1, e_whl, e_fl0, e_ft, e_fsn, e_fsc, e_fsb, e_fsr, e_fsx, e_wtt, e_wtf, e_wsn, e_wsc, e_wsb, e_wsr, e_wsx, e_try, e_tryn, e_tryr, e_tryc, e_try1, e_try1n, e_try1r, e_run, e_endn, e_endr, e_endx, e_sta1, e_sta2, e_sta3, l_eq, l_ne, l_eqbb, l_nebb, l_lt, l_le, l_gt, l_ge, l_add, l_addt, l_addl, l_sub, l_neg, l_mod, l_fdiv, l_mul, l_mul2, l_iadd, l_not, l_len1, l_len2, l_len3, l_int, l_intb, l_tup1, l_tup2, l_lst1, l_lst2, l_max, l_min, l_ixt0, l_ixt1, l_ixt2, l_ixtl, l_ixl0, l_ixl1, l_ixl2, l_ixll, l_isn_bl, l_inn_bl, l_ty_int_bl, l_ty_bool_bl, l_ty_str_bl, l_ty_tuple_bl, l_ty_list_bl, l_isn_int, l_inn_int, l_ty_int_int, l_ty_bool_int, l_ty_str_int, l_ty_tuple_int, l_ty_list_int, l_isn_str, l_inn_str, l_ty_int_str, l_ty_bool_str, l_ty_str_str, l_ty_tuple_str, l_ty_list_str, l_isn_tup, l_inn_tup, l_ty_int_tup, l_ty_bool_tup, l_ty_str_tup, l_ty_tuple_tup, l_ty_list_tup, l_isn_lst, l_inn_lst, l_ty_int_lst, l_ty_bool_lst, l_ty_str_lst, l_ty_tuple_lst, l_ty_list_lst, l_isn_non, l_inn_non, l_ty_int_non, l_ty_bool_non, l_ty_str_non, l_ty_tuple_non, l_ty_list_non, d_t, d_f, Bool.not_true, Bool.not_false, List.length_map, List.length_append, List.length_cons, List.length_nil, List.nil_append, List.cons_append, if_true, if_false, Bool.false_eq_true, ite_true, ite_false, List.map_cons, List.map_nil, beq_self_eq_true, reduceIte, Bool.true_and, Bool.and_true, Bool.false_and, Bool.and_false, Int.reduceAdd, Int.reduceSub, Int.reduceMul, Int.reduceNeg, Int.reduceMod, Int.reduceDiv, Int.reduceToNat, Nat.reduceAdd, Nat.reduceMul, Nat.reduceSub, Bool.or_true, Bool.true_or, Bool.or_false, Bool.false_or, Int.cast_ofNat_Int, decide_true, decide_false, e1, e2, ne_cc, q']⟩
    subst this
    simp (disch := (first | omega | (simp only [List.length_map, List.length_append, List.length_cons, List.length_nil, rngC_len, rng_len, List.length_range, List.length_reverse, List.length_take, List.length_drop, List.length_set, List.length_replicate] at *; omega))) only [e_v0, e_vS, e_vC, e_s0, e_sS, e_op, e_op1, e_op2, e_opx, e_opx2, e_some, e_1, e_11, e_t, e_t1, e_tx, e_tr, e_tr1, e_trx, e_trb, e_trn, e_nt, e_nt1, e_ntx, e_and, e_andt, e_andf, e_andx, e_or, e_ort, e_orf, e_orx, e_va, e_vat, e_vaf, e_vax, e_vo, e_vot, e_vof, e_vox, e_vi, e_vit, e_vif, e_vix, e_vl, e_vl1, e_an, e_ac, e_ac1, e_acx, e_ac2, e_acx2, e_tu, e_tu1, e_tux, e_ls, e_ls1, e_cb, e_cb1, e_cbx, e_ca, e_ca_0, e_ca_1, e_ca_2, e_ca_3, e_ca_4, e_ca_5, e_ca_6, e_cax, e_ch, e_ch1, e_ch2, e_ch3, e_ch4, e_sl, e_sl1, e_slt, e_sll, e_slf, e_st, e_st1, e_os, e_os1, e_on, e_ga, e_ga1, e_gs, e_gst, e_gsl, e_gsf, e_ge, e_get, e_r1, e_r1i, e_r2i, e_r3, e_lc, e_lc1, e_wp0, e_wp1, e_gn, e_gt, e_gl, e_gc, e_gc1, e_g0, e_seq, e_seqn, e_seqr, e_seqx, e_seqc, e_seqb, e_nop, e_brk, e_cnt, e_rai, e_asg, e_asg1, e_asgx, e_asgO, e_asgO1, e_asgT, e_asgT1, e_asgTx, e_tg, e_par, e_par1, e_par2, e_parO, e_parO1, e_drop, e_drop1, e_dropx, e_ret, e_ret1, e_retx, e_retN, e_if, e_ift, e_iff, e_ifx, e_aug, e_aug1, e_aug2, e_app, e_app1, e_ext, e_ext1, e_si, e_si1, e_si2, e_si3, e_pop, e_pop1, e_for, e_for1, e_whl, e_fl0, e_ft, e_fsn, e_fsc, e_fsb, e_fsr, e_fsx, e_wtt, e_wtf, e_wsn, e_wsc, e_wsb, e_wsr, e_wsx, e_try, e_tryn, e_tryr, e_tryc, e_try1, e_try1n, e_try1r, e_run, e_endn, e_endr, e_endx, e_sta1, e_sta2, e_sta3, l_eq, l_ne, l_eqbb, l_nebb, l_lt, l_le, l_gt, l_ge, l_add, l_addt, l_addl, l_sub, l_neg, l_mod, l_fdiv, l_mul, l_mul2, l_iadd, l_not, l_len1, l_len2, l_len3, l_int, l_intb, l_tup1, l_tup2, l_lst1, l_lst2, l_max, l_min, l_ixt0, l_ixt1, l_ixt2, l_ixtl, l_ixl0, l_ixl1, l_ixl2, l_ixll, l_isn_bl, l_inn_bl, l_ty_int_bl, l_ty_bool_bl, l_ty_str_bl, l_ty_tuple_bl, l_ty_list_bl, l_isn_int, l_inn_int, l_ty_int_int, l_ty_bool_int, l_ty_str_int, l_ty_tuple_int, l_ty_list_int, l_isn_str, l_inn_str, l_ty_int_str, l_ty_bool_str, l_ty_str_str, l_ty_tuple_str, l_ty_list_str, l_isn_tup, l_inn_tup, l_ty_int_tup, l_ty_bool_tup, l_ty_str_tup, l_ty_tuple_tup, l_ty_list_tup, l_isn_lst, l_inn_lst, l_ty_int_lst, l_ty_bool_lst, l_ty_str_lst, l_ty_tuple_lst, l_ty_list_lst, l_isn_non, l_inn_non, l_ty_int_non, l_ty_bool_non, l_ty_str_non, l_ty_tuple_non, l_ty_list_non, d_t, d_f, Bool.not_true, Bool.not_false, List.length_map, List.length_append, List.length_cons, List.length_nil, List.nil_append, List.cons_append, if_true, if_false, Bool.false_eq_true, ite_true, ite_false, List.map_cons, List.map_nil, beq_self_eq_true, reduceIte, Bool.true_and, Bool.and_true, Bool.false_and, Bool.and_false, Int.reduceAdd, Int.reduceSub, Int.reduceMul, Int.reduceNeg, Int.reduceMod, Int.reduceDiv, Int.reduceToNat, Nat.reduceAdd, Nat.reduceMul, Nat.reduceSub, Bool.or_true, Bool.true_or, Bool.or_false, Bool.false_or, Int.cast_ofNat_Int, decide_true, decide_false, allT, e2]
theorem eqw : eqD (.str "window") (.str "window") = some (.bl true) := by kernel_rfl
theorem right_window (l p : List Bool) (hl : l.length ≤ 200) (hp : p.length ≤ 10) (g : Good l p) : D__law_is_right [.tup (l.map cD), .str "window", .tup (pathD p)] = .ok (.bl true) := by
  have e := window_fault_eq l p hl hp g
  obtain ⟨x1, e1⟩ := w3_loop p l (some (.str "window")) (some (.tup (pathD p))) none none (by omega) g
  unfold W3 at e1
  simp (disch := (first | omega | (simp only [List.length_map, List.length_append, List.length_cons, List.length_nil, rngC_len, rng_len, List.length_range, List.length_reverse, List.length_take, List.length_drop, List.length_set, List.length_replicate] at *; omega))) only [e_v0, e_vS, e_vC, e_s0, e_sS, e_op, e_op1, e_op2, e_opx, e_opx2, e_some, e_1, e_11, e_t, e_t1, e_tx, e_tr, e_tr1, e_trx, e_trb, e_trn, e_nt, e_nt1, e_ntx, e_and, e_andt, e_andf, e_andx, e_or, e_ort, e_orf, e_orx, e_va, e_vat, e_vaf, e_vax, e_vo, e_vot, e_vof, e_vox, e_vi, e_vit, e_vif, e_vix, e_vl, e_vl1, e_an, e_ac, e_ac1, e_acx, e_ac2, e_acx2, e_tu, e_tu1, e_tux, e_ls, e_ls1, e_cb, e_cb1, e_cbx, e_ca, e_ca_0, e_ca_1, e_ca_2, e_ca_3, e_ca_4, e_ca_5, e_ca_6, e_cax, e_ch, e_ch1, e_ch2, e_ch3, e_ch4, e_sl, e_sl1, e_slt, e_sll, e_slf, e_st, e_st1, e_os, e_os1, e_on, e_ga, e_ga1, e_gs, e_gst, e_gsl, e_gsf, e_ge, e_get, e_r1, e_r1i, e_r2i, e_r3, e_lc, e_lc1, e_wp0, e_wp1, e_gn, e_gt, e_gl, e_gc, e_gc1, e_g0, e_seq, e_seqn, e_seqr, e_seqx, e_seqc, e_seqb, e_nop, e_brk, e_cnt, e_rai, e_asg, e_asg1, e_asgx, e_asgO, e_asgO1, e_asgT, e_asgT1, e_asgTx, e_tg, e_par, e_par1, e_par2, e_parO, e_parO1, e_drop, e_drop1, e_dropx, e_ret, e_ret1, e_retx, e_retN, e_if, e_ift, e_iff, e_ifx, e_aug, e_aug1, e_aug2, e_app, e_app1, e_ext, e_ext1, e_si, e_si1, e_si2, e_si3, e_pop, e_pop1, e_for, e_for1, e_whl, e_fl0, e_ft, e_fsn, e_fsc, e_fsb, e_fsr, e_fsx, e_wtt, e_wtf, e_wsn, e_wsc, e_wsb, e_wsr, e_wsx, e_try, e_tryn, e_tryr, e_tryc, e_try1, e_try1n, e_try1r, e_run, e_endn, e_endr, e_endx, e_sta1, e_sta2, e_sta3, l_eq, l_ne, l_eqbb, l_nebb, l_lt, l_le, l_gt, l_ge, l_add, l_addt, l_addl, l_sub, l_neg, l_mod, l_fdiv, l_mul, l_mul2, l_iadd, l_not, l_len1, l_len2, l_len3, l_int, l_intb, l_tup1, l_tup2, l_lst1, l_lst2, l_max, l_min, l_ixt0, l_ixt1, l_ixt2, l_ixtl, l_ixl0, l_ixl1, l_ixl2, l_ixll, l_isn_bl, l_inn_bl, l_ty_int_bl, l_ty_bool_bl, l_ty_str_bl, l_ty_tuple_bl, l_ty_list_bl, l_isn_int, l_inn_int, l_ty_int_int, l_ty_bool_int, l_ty_str_int, l_ty_tuple_int, l_ty_list_int, l_isn_str, l_inn_str, l_ty_int_str, l_ty_bool_str, l_ty_str_str, l_ty_tuple_str, l_ty_list_str, l_isn_tup, l_inn_tup, l_ty_int_tup, l_ty_bool_tup, l_ty_str_tup, l_ty_tuple_tup, l_ty_list_tup, l_isn_lst, l_inn_lst, l_ty_int_lst, l_ty_bool_lst, l_ty_str_lst, l_ty_tuple_lst, l_ty_list_lst, l_isn_non, l_inn_non, l_ty_int_non, l_ty_bool_non, l_ty_str_non, l_ty_tuple_non, l_ty_list_non, d_t, d_f, Bool.not_true, Bool.not_false, List.length_map, List.length_append, List.length_cons, List.length_nil, List.nil_append, List.cons_append, if_true, if_false, Bool.false_eq_true, ite_true, ite_false, List.map_cons, List.map_nil, beq_self_eq_true, reduceIte, Bool.true_and, Bool.and_true, Bool.false_and, Bool.and_false, Int.reduceAdd, Int.reduceSub, Int.reduceMul, Int.reduceNeg, Int.reduceMod, Int.reduceDiv, Int.reduceToNat, Nat.reduceAdd, Nat.reduceMul, Nat.reduceSub, Bool.or_true, Bool.true_or, Bool.or_false, Bool.false_or, Int.cast_ofNat_Int, decide_true, decide_false, D__law_is_right, F__law_is_right, e, eqw, e1]
end Lw
/-! Windows: looks at papers. -/
namespace Lw
open PySem PySem.Spec PyProof.Rows L2 Dl
theorem eqcc : eqD (.str "clash") (.str "clash") = some (.bl true) := by kernel_rfl
theorem eqrc : eqD (.str "rest") (.str "clash") = some (.bl false) := by kernel_rfl
theorem eqrr : eqD (.str "rest") (.str "rest") = some (.bl true) := by kernel_rfl
theorem eqcr : eqD (.str "clash") (.str "rest") = some (.bl false) := by kernel_rfl
theorem clash_vals {l : List Bool} {b : Bool} {k : Nat} (h : Clash l b k) : (k : Int) % 2 = bitI b ∧ (k : Int) + 2 < (l.length : Int) ∧ ∃ c, ixD (.tup (l.map cD)) (.int k) = some (cD c) ∧ ixD (.tup (l.map cD)) (.int (k + 2)) = some (cD c) := by
  obtain ⟨h1, h2, c, h3, h4⟩ := h
  refine ⟨by cases b <;> simp [bitI] at h1 ⊢ <;> omega, by omega, c, at_row rfl h3, at_row rfl h4⟩
theorem is_none_eq : ∀ (n f : Nat) (l : List Bool) (its : List Dat), l.length ≤ 1000 → Bad n l its → R__law_is_none (f + n) [.tup (l.map cD), .tup its] = .ok (.bl true)
  | 0, f, l, its, _, h => h.elim
  | n + 1, f, l, its, hl, h => by
    obtain ⟨h0, i0, i1, rfl, a, b⟩ := h
    have s0 : stepK (some 1) none (some 2) (.tup (l.map cD)) = some (.tup ((sel true l).map cD)) := step_sel l true (by omega)
    have s1 : stepK (some 0) none (some 2) (.tup (l.map cD)) = some (.tup ((sel false l).map cD)) := step_sel l false (by omega)
    have ih := is_none_eq n f
    show runD 5 (F__law_is_none (R__law_is_none (f + n))) _ = _
    rcases a with ⟨k, hk, rfl⟩ | ⟨j, hj, rfl⟩ <;> rcases b with ⟨k1, hk1, rfl⟩ | ⟨j1, hj1, rfl⟩
    · obtain ⟨p1, p2, c, p3, p4⟩ := clash_vals hk
      obtain ⟨q1, q2, c', q3, q4⟩ := clash_vals hk1
      have p1 : (k : Int) % 2 = 0 := p1
      have q1 : (k1 : Int) % 2 = 1 := q1
      simp (disch := (first | omega | (simp only [List.length_map, List.length_append, List.length_cons, List.length_nil, rngC_len, rng_len, List.length_range, List.length_reverse, List.length_take, List.length_drop, List.length_set, List.length_replicate] at *; omega))) only [e_v0, e_vS, e_vC, e_s0, e_sS, e_op, e_op1, e_op2, e_opx, e_opx2, e_some, e_1, e_11, e_t, e_t1, e_tx, e_tr, e_tr1, e_trx, e_trb, e_trn, e_nt, e_nt1, e_ntx, e_and, e_andt, e_andf, e_andx, e_or, e_ort, e_orf, e_orx, e_va, e_vat, e_vaf, e_vax, e_vo, e_vot, e_vof, e_vox, e_vi, e_vit, e_vif, e_vix, e_vl, e_vl1, e_an, e_ac, e_ac1, e_acx, e_ac2, e_acx2, e_tu, e_tu1, e_tux, e_ls, e_ls1, e_cb, e_cb1, e_cbx, e_ca, e_ca_0, e_ca_1, e_ca_2, e_ca_3, e_ca_4, e_ca_5, e_ca_6, e_cax, e_ch, e_ch1, e_ch2, e_ch3, e_ch4, e_sl, e_sl1, e_slt, e_sll, e_slf, e_st, e_st1, e_os, e_os1, e_on, e_ga, e_ga1, e_gs, e_gst, e_gsl, e_gsf, e_ge, e_get, e_r1, e_r1i, e_r2i, e_r3, e_lc, e_lc1, e_wp0, e_wp1, e_gn, e_gt, e_gl, e_gc, e_gc1, e_g0, e_seq, e_seqn, e_seqr, e_seqx, e_seqc, e_seqb, e_nop, e_brk, e_cnt, e_rai, e_asg, e_asg1, e_asgx, e_asgO, e_asgO1, e_asgT, e_asgT1, e_asgTx, e_tg, e_par, e_par1, e_par2, e_parO, e_parO1, e_drop, e_drop1, e_dropx, e_ret, e_ret1, e_retx, e_retN, e_if, e_ift, e_iff, e_ifx, e_aug, e_aug1, e_aug2, e_app, e_app1, e_ext, e_ext1, e_si, e_si1, e_si2, e_si3, e_pop, e_pop1, e_for, e_for1, e_whl, e_fl0, e_ft, e_fsn, e_fsc, e_fsb, e_fsr, e_fsx, e_wtt, e_wtf, e_wsn, e_wsc, e_wsb, e_wsr, e_wsx, e_try, e_tryn, e_tryr, e_tryc, e_try1, e_try1n, e_try1r, e_run, e_endn, e_endr, e_endx, e_sta1, e_sta2, e_sta3, l_eq, l_ne, l_eqbb, l_nebb, l_lt, l_le, l_gt, l_ge, l_add, l_addt, l_addl, l_sub, l_neg, l_mod, l_fdiv, l_mul, l_mul2, l_iadd, l_not, l_len1, l_len2, l_len3, l_int, l_intb, l_tup1, l_tup2, l_lst1, l_lst2, l_max, l_min, l_ixt0, l_ixt1, l_ixt2, l_ixtl, l_ixl0, l_ixl1, l_ixl2, l_ixll, l_isn_bl, l_inn_bl, l_ty_int_bl, l_ty_bool_bl, l_ty_str_bl, l_ty_tuple_bl, l_ty_list_bl, l_isn_int, l_inn_int, l_ty_int_int, l_ty_bool_int, l_ty_str_int, l_ty_tuple_int, l_ty_list_int, l_isn_str, l_inn_str, l_ty_int_str, l_ty_bool_str, l_ty_str_str, l_ty_tuple_str, l_ty_list_str, l_isn_tup, l_inn_tup, l_ty_int_tup, l_ty_bool_tup, l_ty_str_tup, l_ty_tuple_tup, l_ty_list_tup, l_isn_lst, l_inn_lst, l_ty_int_lst, l_ty_bool_lst, l_ty_str_lst, l_ty_tuple_lst, l_ty_list_lst, l_isn_non, l_inn_non, l_ty_int_non, l_ty_bool_non, l_ty_str_non, l_ty_tuple_non, l_ty_list_non, d_t, d_f, Bool.not_true, Bool.not_false, List.length_map, List.length_append, List.length_cons, List.length_nil, List.nil_append, List.cons_append, if_true, if_false, Bool.false_eq_true, ite_true, ite_false, List.map_cons, List.map_nil, beq_self_eq_true, reduceIte, Bool.true_and, Bool.and_true, Bool.false_and, Bool.and_false, Int.reduceAdd, Int.reduceSub, Int.reduceMul, Int.reduceNeg, Int.reduceMod, Int.reduceDiv, Int.reduceToNat, Nat.reduceAdd, Nat.reduceMul, Nat.reduceSub, Bool.or_true, Bool.true_or, Bool.or_false, Bool.false_or, Int.cast_ofNat_Int, decide_true, decide_false, F__law_is_none, u_for, clD, eqcc, eqcr, p3, p4, q3, q4, ne_cc, p1, q1]
    · obtain ⟨p1, p2, c, p3, p4⟩ := clash_vals hk
      have p1 : (k : Int) % 2 = 0 := p1
      have e1 := ih (sel false l) _ (sel_le _ _ hl) hj1
      simp (disch := (first | omega | (simp only [List.length_map, List.length_append, List.length_cons, List.length_nil, rngC_len, rng_len, List.length_range, List.length_reverse, List.length_take, List.length_drop, List.length_set, List.length_replicate] at *; omega))) only [e_v0, e_vS, e_vC, e_s0, e_sS, e_op, e_op1, e_op2, e_opx, e_opx2, e_some, e_1, e_11, e_t, e_t1, e_tx, e_tr, e_tr1, e_trx, e_trb, e_trn, e_nt, e_nt1, e_ntx, e_and, e_andt, e_andf, e_andx, e_or, e_ort, e_orf, e_orx, e_va, e_vat, e_vaf, e_vax, e_vo, e_vot, e_vof, e_vox, e_vi, e_vit, e_vif, e_vix, e_vl, e_vl1, e_an, e_ac, e_ac1, e_acx, e_ac2, e_acx2, e_tu, e_tu1, e_tux, e_ls, e_ls1, e_cb, e_cb1, e_cbx, e_ca, e_ca_0, e_ca_1, e_ca_2, e_ca_3, e_ca_4, e_ca_5, e_ca_6, e_cax, e_ch, e_ch1, e_ch2, e_ch3, e_ch4, e_sl, e_sl1, e_slt, e_sll, e_slf, e_st, e_st1, e_os, e_os1, e_on, e_ga, e_ga1, e_gs, e_gst, e_gsl, e_gsf, e_ge, e_get, e_r1, e_r1i, e_r2i, e_r3, e_lc, e_lc1, e_wp0, e_wp1, e_gn, e_gt, e_gl, e_gc, e_gc1, e_g0, e_seq, e_seqn, e_seqr, e_seqx, e_seqc, e_seqb, e_nop, e_brk, e_cnt, e_rai, e_asg, e_asg1, e_asgx, e_asgO, e_asgO1, e_asgT, e_asgT1, e_asgTx, e_tg, e_par, e_par1, e_par2, e_parO, e_parO1, e_drop, e_drop1, e_dropx, e_ret, e_ret1, e_retx, e_retN, e_if, e_ift, e_iff, e_ifx, e_aug, e_aug1, e_aug2, e_app, e_app1, e_ext, e_ext1, e_si, e_si1, e_si2, e_si3, e_pop, e_pop1, e_for, e_for1, e_whl, e_fl0, e_ft, e_fsn, e_fsc, e_fsb, e_fsr, e_fsx, e_wtt, e_wtf, e_wsn, e_wsc, e_wsb, e_wsr, e_wsx, e_try, e_tryn, e_tryr, e_tryc, e_try1, e_try1n, e_try1r, e_run, e_endn, e_endr, e_endx, e_sta1, e_sta2, e_sta3, l_eq, l_ne, l_eqbb, l_nebb, l_lt, l_le, l_gt, l_ge, l_add, l_addt, l_addl, l_sub, l_neg, l_mod, l_fdiv, l_mul, l_mul2, l_iadd, l_not, l_len1, l_len2, l_len3, l_int, l_intb, l_tup1, l_tup2, l_lst1, l_lst2, l_max, l_min, l_ixt0, l_ixt1, l_ixt2, l_ixtl, l_ixl0, l_ixl1, l_ixl2, l_ixll, l_isn_bl, l_inn_bl, l_ty_int_bl, l_ty_bool_bl, l_ty_str_bl, l_ty_tuple_bl, l_ty_list_bl, l_isn_int, l_inn_int, l_ty_int_int, l_ty_bool_int, l_ty_str_int, l_ty_tuple_int, l_ty_list_int, l_isn_str, l_inn_str, l_ty_int_str, l_ty_bool_str, l_ty_str_str, l_ty_tuple_str, l_ty_list_str, l_isn_tup, l_inn_tup, l_ty_int_tup, l_ty_bool_tup, l_ty_str_tup, l_ty_tuple_tup, l_ty_list_tup, l_isn_lst, l_inn_lst, l_ty_int_lst, l_ty_bool_lst, l_ty_str_lst, l_ty_tuple_lst, l_ty_list_lst, l_isn_non, l_inn_non, l_ty_int_non, l_ty_bool_non, l_ty_str_non, l_ty_tuple_non, l_ty_list_non, d_t, d_f, Bool.not_true, Bool.not_false, List.length_map, List.length_append, List.length_cons, List.length_nil, List.nil_append, List.cons_append, if_true, if_false, Bool.false_eq_true, ite_true, ite_false, List.map_cons, List.map_nil, beq_self_eq_true, reduceIte, Bool.true_and, Bool.and_true, Bool.false_and, Bool.and_false, Int.reduceAdd, Int.reduceSub, Int.reduceMul, Int.reduceNeg, Int.reduceMod, Int.reduceDiv, Int.reduceToNat, Nat.reduceAdd, Nat.reduceMul, Nat.reduceSub, Bool.or_true, Bool.true_or, Bool.or_false, Bool.false_or, Int.cast_ofNat_Int, decide_true, decide_false, F__law_is_none, u_for, clD, rsD, eqcc, eqcr, eqrr, eqrc, p3, p4, ne_cc, p1, s0, s1, e1]
    · obtain ⟨p1, p2, c, p3, p4⟩ := clash_vals hk1
      have p1 : (k1 : Int) % 2 = 1 := p1
      have e1 := ih (sel true l) _ (sel_le _ _ hl) hj
      simp (disch := (first | omega | (simp only [List.length_map, List.length_append, List.length_cons, List.length_nil, rngC_len, rng_len, List.length_range, List.length_reverse, List.length_take, List.length_drop, List.length_set, List.length_replicate] at *; omega))) only [e_v0, e_vS, e_vC, e_s0, e_sS, e_op, e_op1, e_op2, e_opx, e_opx2, e_some, e_1, e_11, e_t, e_t1, e_tx, e_tr, e_tr1, e_trx, e_trb, e_trn, e_nt, e_nt1, e_ntx, e_and, e_andt, e_andf, e_andx, e_or, e_ort, e_orf, e_orx, e_va, e_vat, e_vaf, e_vax, e_vo, e_vot, e_vof, e_vox, e_vi, e_vit, e_vif, e_vix, e_vl, e_vl1, e_an, e_ac, e_ac1, e_acx, e_ac2, e_acx2, e_tu, e_tu1, e_tux, e_ls, e_ls1, e_cb, e_cb1, e_cbx, e_ca, e_ca_0, e_ca_1, e_ca_2, e_ca_3, e_ca_4, e_ca_5, e_ca_6, e_cax, e_ch, e_ch1, e_ch2, e_ch3, e_ch4, e_sl, e_sl1, e_slt, e_sll, e_slf, e_st, e_st1, e_os, e_os1, e_on, e_ga, e_ga1, e_gs, e_gst, e_gsl, e_gsf, e_ge, e_get, e_r1, e_r1i, e_r2i, e_r3, e_lc, e_lc1, e_wp0, e_wp1, e_gn, e_gt, e_gl, e_gc, e_gc1, e_g0, e_seq, e_seqn, e_seqr, e_seqx, e_seqc, e_seqb, e_nop, e_brk, e_cnt, e_rai, e_asg, e_asg1, e_asgx, e_asgO, e_asgO1, e_asgT, e_asgT1, e_asgTx, e_tg, e_par, e_par1, e_par2, e_parO, e_parO1, e_drop, e_drop1, e_dropx, e_ret, e_ret1, e_retx, e_retN, e_if, e_ift, e_iff, e_ifx, e_aug, e_aug1, e_aug2, e_app, e_app1, e_ext, e_ext1, e_si, e_si1, e_si2, e_si3, e_pop, e_pop1, e_for, e_for1, e_whl, e_fl0, e_ft, e_fsn, e_fsc, e_fsb, e_fsr, e_fsx, e_wtt, e_wtf, e_wsn, e_wsc, e_wsb, e_wsr, e_wsx, e_try, e_tryn, e_tryr, e_tryc, e_try1, e_try1n, e_try1r, e_run, e_endn, e_endr, e_endx, e_sta1, e_sta2, e_sta3, l_eq, l_ne, l_eqbb, l_nebb, l_lt, l_le, l_gt, l_ge, l_add, l_addt, l_addl, l_sub, l_neg, l_mod, l_fdiv, l_mul, l_mul2, l_iadd, l_not, l_len1, l_len2, l_len3, l_int, l_intb, l_tup1, l_tup2, l_lst1, l_lst2, l_max, l_min, l_ixt0, l_ixt1, l_ixt2, l_ixtl, l_ixl0, l_ixl1, l_ixl2, l_ixll, l_isn_bl, l_inn_bl, l_ty_int_bl, l_ty_bool_bl, l_ty_str_bl, l_ty_tuple_bl, l_ty_list_bl, l_isn_int, l_inn_int, l_ty_int_int, l_ty_bool_int, l_ty_str_int, l_ty_tuple_int, l_ty_list_int, l_isn_str, l_inn_str, l_ty_int_str, l_ty_bool_str, l_ty_str_str, l_ty_tuple_str, l_ty_list_str, l_isn_tup, l_inn_tup, l_ty_int_tup, l_ty_bool_tup, l_ty_str_tup, l_ty_tuple_tup, l_ty_list_tup, l_isn_lst, l_inn_lst, l_ty_int_lst, l_ty_bool_lst, l_ty_str_lst, l_ty_tuple_lst, l_ty_list_lst, l_isn_non, l_inn_non, l_ty_int_non, l_ty_bool_non, l_ty_str_non, l_ty_tuple_non, l_ty_list_non, d_t, d_f, Bool.not_true, Bool.not_false, List.length_map, List.length_append, List.length_cons, List.length_nil, List.nil_append, List.cons_append, if_true, if_false, Bool.false_eq_true, ite_true, ite_false, List.map_cons, List.map_nil, beq_self_eq_true, reduceIte, Bool.true_and, Bool.and_true, Bool.false_and, Bool.and_false, Int.reduceAdd, Int.reduceSub, Int.reduceMul, Int.reduceNeg, Int.reduceMod, Int.reduceDiv, Int.reduceToNat, Nat.reduceAdd, Nat.reduceMul, Nat.reduceSub, Bool.or_true, Bool.true_or, Bool.or_false, Bool.false_or, Int.cast_ofNat_Int, decide_true, decide_false, F__law_is_none, u_for, clD, rsD, eqcc, eqcr, eqrr, eqrc, p3, p4, ne_cc, p1, s0, s1, e1]
    · have e0 := ih (sel true l) _ (sel_le _ _ hl) hj
      have e1 := ih (sel false l) _ (sel_le _ _ hl) hj1
      simp (disch := (first | omega | (simp only [List.length_map, List.length_append, List.length_cons, List.length_nil, rngC_len, rng_len, List.length_range, List.length_reverse, List.length_take, List.length_drop, List.length_set, List.length_replicate] at *; omega))) only [e_v0, e_vS, e_vC, e_s0, e_sS, e_op, e_op1, e_op2, e_opx, e_opx2, e_some, e_1, e_11, e_t, e_t1, e_tx, e_tr, e_tr1, e_trx, e_trb, e_trn, e_nt, e_nt1, e_ntx, e_and, e_andt, e_andf, e_andx, e_or, e_ort, e_orf, e_orx, e_va, e_vat, e_vaf, e_vax, e_vo, e_vot, e_vof, e_vox, e_vi, e_vit, e_vif, e_vix, e_vl, e_vl1, e_an, e_ac, e_ac1, e_acx, e_ac2, e_acx2, e_tu, e_tu1, e_tux, e_ls, e_ls1, e_cb, e_cb1, e_cbx, e_ca, e_ca_0, e_ca_1, e_ca_2, e_ca_3, e_ca_4, e_ca_5, e_ca_6, e_cax, e_ch, e_ch1, e_ch2, e_ch3, e_ch4, e_sl, e_sl1, e_slt, e_sll, e_slf, e_st, e_st1, e_os, e_os1, e_on, e_ga, e_ga1, e_gs, e_gst, e_gsl, e_gsf, e_ge, e_get, e_r1, e_r1i, e_r2i, e_r3, e_lc, e_lc1, e_wp0, e_wp1, e_gn, e_gt, e_gl, e_gc, e_gc1, e_g0, e_seq, e_seqn, e_seqr, e_seqx, e_seqc, e_seqb, e_nop, e_brk, e_cnt, e_rai, e_asg, e_asg1, e_asgx, e_asgO, e_asgO1, e_asgT, e_asgT1, e_asgTx, e_tg, e_par, e_par1, e_par2, e_parO, e_parO1, e_drop, e_drop1, e_dropx, e_ret, e_ret1, e_retx, e_retN, e_if, e_ift, e_iff, e_ifx, e_aug, e_aug1, e_aug2, e_app, e_app1, e_ext, e_ext1, e_si, e_si1, e_si2, e_si3, e_pop, e_pop1, e_for, e_for1, e_whl, e_fl0, e_ft, e_fsn, e_fsc, e_fsb, e_fsr, e_fsx, e_wtt, e_wtf, e_wsn, e_wsc, e_wsb, e_wsr, e_wsx, e_try, e_tryn, e_tryr, e_tryc, e_try1, e_try1n, e_try1r, e_run, e_endn, e_endr, e_endx, e_sta1, e_sta2, e_sta3, l_eq, l_ne, l_eqbb, l_nebb, l_lt, l_le, l_gt, l_ge, l_add, l_addt, l_addl, l_sub, l_neg, l_mod, l_fdiv, l_mul, l_mul2, l_iadd, l_not, l_len1, l_len2, l_len3, l_int, l_intb, l_tup1, l_tup2, l_lst1, l_lst2, l_max, l_min, l_ixt0, l_ixt1, l_ixt2, l_ixtl, l_ixl0, l_ixl1, l_ixl2, l_ixll, l_isn_bl, l_inn_bl, l_ty_int_bl, l_ty_bool_bl, l_ty_str_bl, l_ty_tuple_bl, l_ty_list_bl, l_isn_int, l_inn_int, l_ty_int_int, l_ty_bool_int, l_ty_str_int, l_ty_tuple_int, l_ty_list_int, l_isn_str, l_inn_str, l_ty_int_str, l_ty_bool_str, l_ty_str_str, l_ty_tuple_str, l_ty_list_str, l_isn_tup, l_inn_tup, l_ty_int_tup, l_ty_bool_tup, l_ty_str_tup, l_ty_tuple_tup, l_ty_list_tup, l_isn_lst, l_inn_lst, l_ty_int_lst, l_ty_bool_lst, l_ty_str_lst, l_ty_tuple_lst, l_ty_list_lst, l_isn_non, l_inn_non, l_ty_int_non, l_ty_bool_non, l_ty_str_non, l_ty_tuple_non, l_ty_list_non, d_t, d_f, Bool.not_true, Bool.not_false, List.length_map, List.length_append, List.length_cons, List.length_nil, List.nil_append, List.cons_append, if_true, if_false, Bool.false_eq_true, ite_true, ite_false, List.map_cons, List.map_nil, beq_self_eq_true, reduceIte, Bool.true_and, Bool.and_true, Bool.false_and, Bool.and_false, Int.reduceAdd, Int.reduceSub, Int.reduceMul, Int.reduceNeg, Int.reduceMod, Int.reduceDiv, Int.reduceToNat, Nat.reduceAdd, Nat.reduceMul, Nat.reduceSub, Bool.or_true, Bool.true_or, Bool.or_false, Bool.false_or, Int.cast_ofNat_Int, decide_true, decide_false, F__law_is_none, u_for, clD, rsD, eqcc, eqcr, eqrr, eqrc, s0, s1, e0, e1]
def NT : DEnv → Res Bool := (vTest (vOp gtD (vCB lenD (aCons (vVar 2) (aNil))) (vC (.int 0))))
def NB : DEnv → DFlow := (sSeq (sPopT 2 (aTup (asCons (aName 3) (asCons (aName 4) (asCons (aName 5) (asNil)))))) (sSeq (sIf (vOrT (vNotT (vTru (v1 (isiD "tuple") (vVar 5)))) (vOrT (vTest (vOp neD (vCB lenD (aCons (vVar 5) (aNil))) (vC (.int 2)))) (vNotT (vTru (v1 (isiD "str") (vOp ixD (vVar 5) (vC (.int 0)))))))) (sRet (vVar 3)) (sNop)) (sSeq (sAsg 6 (vOp ixD (vVar 3) (v1 negD (vC (.int 1))))) (sIf (vTest (vOp eqD (vOp ixD (vVar 5) (vC (.int 0))) (vC (.str "clash")))) (sSeq (sIf (vOrT (vNotT (vTru (vCall 3 D_is_whole (aCons (vOp ixD (vVar 5) (vC (.int 1))) (aCons (vC (.int 0)) (aCons (vOp subD (vCB lenD (aCons (vVar 4) (aNil))) (vC (.int 3))) (aNil))))))) (vTest (vOp neD (vOp modD (vOp ixD (vVar 5) (vC (.int 1))) (vC (.int 2))) (vVar 6)))) (sRet (vVar 3)) (sNop)) (sIf (vTest (vOp neD (vOp ixD (vVar 4) (vOp ixD (vVar 5) (vC (.int 1)))) (vOp ixD (vVar 4) (vOp addD (vOp ixD (vVar 5) (vC (.int 1))) (vC (.int 2)))))) (sRet (vVar 3)) (sNop))) (sIf (vAndT (vTest (vOp eqD (vOp ixD (vVar 5) (vC (.int 0))) (vC (.str "rest")))) (vAndT (vTru (v1 (isiD "tuple") (vOp ixD (vVar 5) (vC (.int 1))))) (vAndT (vTest (vOp eqD (vCB lenD (aCons (vOp ixD (vVar 5) (vC (.int 1))) (aNil))) (vC (.int 2)))) (vTest (vOp gtD (vCB lenD (aCons (vVar 4) (aNil))) (vC (.int 0))))))) (sSeq (sAsg 7 (vStep (vVar 4) (oSome (vOp subD (vC (.int 1)) (vVar 6))) (oNone) (oSome (vC (.int 2))))) (sSeq (sApp 2 (vTup (aCons (vOp addD (vVar 3) (vTup (aCons (vC (.int 1)) (aNil)))) (aCons (vVar 7) (aCons (vOp ixD (vOp ixD (vVar 5) (vC (.int 1))) (vC (.int 1))) (aNil)))))) (sApp 2 (vTup (aCons (vOp addD (vVar 3) (vTup (aCons (vC (.int 0)) (aNil)))) (aCons (vVar 7) (aCons (vOp ixD (vOp ixD (vVar 5) (vC (.int 1))) (vC (.int 0))) (aNil)))))))) (sRet (vVar 3)))))))
def trip (path : List Dat) (l : List Bool) (i : Dat) : Dat := .tup [.tup path, .tup (l.map cD), i]
theorem ty_str (z : Str) : isiD "str" (.str z) = some (.bl true) := rfl
theorem nf_item : ∀ (n : Nat) (l : List Bool) (b : Bool) (i : Dat), l.length ≤ 1000 → It (Bad n) l b i → ∀ (path W : List Dat), path.length + n ≤ 500 → W.length + n ≤ 500 → ∃ c, c + 1 ≤ 2 ^ (n + 1) ∧ ∀ (m : Nat) (r p u3 u4 u5 u6 u7 : Option Dat),
    ∃ v3 v4 v5 v6 v7, whileL NT NB (c + m) [r, p, some (.lst (W ++ [trip (path ++ [.int (bitI b)]) l i])), u3, u4, u5, u6, u7] = whileL NT NB m [r, p, some (.lst W), v3, v4, v5, v6, v7] := by
  intro n
  induction n with
  | zero =>
    intro l b i hl h path W hp hW
    rcases h with ⟨k, hk, rfl⟩ | ⟨its, h, _⟩
    · refine ⟨1, by decide, fun m r p u3 u4 u5 u6 u7 => ?_⟩
      obtain ⟨p1, p2, c, p3, p4⟩ := clash_vals hk
      rw [Nat.add_comm 1 m]
      refine ⟨some (.tup (path ++ [.int (bitI b)])), some (.tup (l.map cD)), some (clD k), some (.int (bitI b)), u7, ?_⟩
      unfold trip clD NT NB
      simp (disch := (first | omega | (simp only [List.length_map, List.length_append, List.length_cons, List.length_nil, rngC_len, rng_len, List.length_range, List.length_reverse, List.length_take, List.length_drop, List.length_set, List.length_replicate] at *; omega))) only [e_v0, e_vS, e_vC, e_s0, e_sS, e_op, e_op1, e_op2, e_opx, e_opx2, e_some, e_1, e_11, e_t, e_t1, e_tx, e_tr, e_tr1, e_trx, e_trb, e_trn, e_nt, e_nt1, e_ntx, e_and, e_andt, e_andf, e_andx, e_or, e_ort, e_orf, e_orx, e_va, e_vat, e_vaf, e_vax, e_vo, e_vot, e_vof, e_vox, e_vi, e_vit, e_vif, e_vix, e_vl, e_vl1, e_an, e_ac, e_ac1, e_acx, e_ac2, e_acx2, e_tu, e_tu1, e_tux, e_ls, e_ls1, e_cb, e_cb1, e_cbx, e_ca, e_ca_0, e_ca_1, e_ca_2, e_ca_3, e_ca_4, e_ca_5, e_ca_6, e_cax, e_ch, e_ch1, e_ch2, e_ch3, e_ch4, e_sl, e_sl1, e_slt, e_sll, e_slf, e_st, e_st1, e_os, e_os1, e_on, e_ga, e_ga1, e_gs, e_gst, e_gsl, e_gsf, e_ge, e_get, e_r1, e_r1i, e_r2i, e_r3, e_lc, e_lc1, e_wp0, e_wp1, e_gn, e_gt, e_gl, e_gc, e_gc1, e_g0, e_seq, e_seqn, e_seqr, e_seqx, e_seqc, e_seqb, e_nop, e_brk, e_cnt, e_rai, e_asg, e_asg1, e_asgx, e_asgO, e_asgO1, e_asgT, e_asgT1, e_asgTx, e_tg, e_par, e_par1, e_par2, e_parO, e_parO1, e_drop, e_drop1, e_dropx, e_ret, e_ret1, e_retx, e_retN, e_if, e_ift, e_iff, e_ifx, e_aug, e_aug1, e_aug2, e_app, e_app1, e_ext, e_ext1, e_si, e_si1, e_si2, e_si3, e_pop, e_pop1, e_for, e_for1, e_whl, e_fl0, e_ft, e_fsn, e_fsc, e_fsb, e_fsr, e_fsx, e_wtt, e_wtf, e_wsn, e_wsc, e_wsb, e_wsr, e_wsx, e_try, e_tryn, e_tryr, e_tryc, e_try1, e_try1n, e_try1r, e_run, e_endn, e_endr, e_endx, e_sta1, e_sta2, e_sta3, l_eq, l_ne, l_eqbb, l_nebb, l_lt, l_le, l_gt, l_ge, l_add, l_addt, l_addl, l_sub, l_neg, l_mod, l_fdiv, l_mul, l_mul2, l_iadd, l_not, l_len1, l_len2, l_len3, l_int, l_intb, l_tup1, l_tup2, l_lst1, l_lst2, l_max, l_min, l_ixt0, l_ixt1, l_ixt2, l_ixtl, l_ixl0, l_ixl1, l_ixl2, l_ixll, l_isn_bl, l_inn_bl, l_ty_int_bl, l_ty_bool_bl, l_ty_str_bl, l_ty_tuple_bl, l_ty_list_bl, l_isn_int, l_inn_int, l_ty_int_int, l_ty_bool_int, l_ty_str_int, l_ty_tuple_int, l_ty_list_int, l_isn_str, l_inn_str, l_ty_int_str, l_ty_bool_str, l_ty_str_str, l_ty_tuple_str, l_ty_list_str, l_isn_tup, l_inn_tup, l_ty_int_tup, l_ty_bool_tup, l_ty_str_tup, l_ty_tuple_tup, l_ty_list_tup, l_isn_lst, l_inn_lst, l_ty_int_lst, l_ty_bool_lst, l_ty_str_lst, l_ty_tuple_lst, l_ty_list_lst, l_isn_non, l_inn_non, l_ty_int_non, l_ty_bool_non, l_ty_str_non, l_ty_tuple_non, l_ty_list_non, d_t, d_f, Bool.not_true, Bool.not_false, List.length_map, List.length_append, List.length_cons, List.length_nil, List.nil_append, List.cons_append, if_true, if_false, Bool.false_eq_true, ite_true, ite_false, List.map_cons, List.map_nil, beq_self_eq_true, reduceIte, Bool.true_and, Bool.and_true, Bool.false_and, Bool.and_false, Int.reduceAdd, Int.reduceSub, Int.reduceMul, Int.reduceNeg, Int.reduceMod, Int.reduceDiv, Int.reduceToNat, Nat.reduceAdd, Nat.reduceMul, Nat.reduceSub, Bool.or_true, Bool.true_or, Bool.or_false, Bool.false_or, Int.cast_ofNat_Int, decide_true, decide_false, u_whl, ty_str, eqcc, whole_eq, p1, p3, p4, ne_cc]
    · exact h.elim
  | succ n ih =>
    intro l b i hl h path W hp hW
    rcases h with ⟨k, hk, rfl⟩ | ⟨its, ⟨h0, i0, i1, rfl, ha, hb⟩, rfl⟩
    · refine ⟨1, by have := Nat.pow_le_pow_right (n := 2) (by decide) (show 1 ≤ n + 1 + 1 by omega); omega, fun m r p u3 u4 u5 u6 u7 => ?_⟩
      obtain ⟨p1, p2, c, p3, p4⟩ := clash_vals hk
      rw [Nat.add_comm 1 m]
      refine ⟨some (.tup (path ++ [.int (bitI b)])), some (.tup (l.map cD)), some (clD k), some (.int (bitI b)), u7, ?_⟩
      unfold trip clD NT NB
      simp (disch := (first | omega | (simp only [List.length_map, List.length_append, List.length_cons, List.length_nil, rngC_len, rng_len, List.length_range, List.length_reverse, List.length_take, List.length_drop, List.length_set, List.length_replicate] at *; omega))) only [e_v0, e_vS, e_vC, e_s0, e_sS, e_op, e_op1, e_op2, e_opx, e_opx2, e_some, e_1, e_11, e_t, e_t1, e_tx, e_tr, e_tr1, e_trx, e_trb, e_trn, e_nt, e_nt1, e_ntx, e_and, e_andt, e_andf, e_andx, e_or, e_ort, e_orf, e_orx, e_va, e_vat, e_vaf, e_vax, e_vo, e_vot, e_vof, e_vox, e_vi, e_vit, e_vif, e_vix, e_vl, e_vl1, e_an, e_ac, e_ac1, e_acx, e_ac2, e_acx2, e_tu, e_tu1, e_tux, e_ls, e_ls1, e_cb, e_cb1, e_cbx, e_ca, e_ca_0, e_ca_1, e_ca_2, e_ca_3, e_ca_4, e_ca_5, e_ca_6, e_cax, e_ch, e_ch1, e_ch2, e_ch3, e_ch4, e_sl, e_sl1, e_slt, e_sll, e_slf, e_st, e_st1, e_os, e_os1, e_on, e_ga, e_ga1, e_gs, e_gst, e_gsl, e_gsf, e_ge, e_get, e_r1, e_r1i, e_r2i, e_r3, e_lc, e_lc1, e_wp0, e_wp1, e_gn, e_gt, e_gl, e_gc, e_gc1, e_g0, e_seq, e_seqn, e_seqr, e_seqx, e_seqc, e_seqb, e_nop, e_brk, e_cnt, e_rai, e_asg, e_asg1, e_asgx, e_asgO, e_asgO1, e_asgT, e_asgT1, e_asgTx, e_tg, e_par, e_par1, e_par2, e_parO, e_parO1, e_drop, e_drop1, e_dropx, e_ret, e_ret1, e_retx, e_retN, e_if, e_ift, e_iff, e_ifx, e_aug, e_aug1, e_aug2, e_app, e_app1, e_ext, e_ext1, e_si, e_si1, e_si2, e_si3, e_pop, e_pop1, e_for, e_for1, e_whl, e_fl0, e_ft, e_fsn, e_fsc, e_fsb, e_fsr, e_fsx, e_wtt, e_wtf, e_wsn, e_wsc, e_wsb, e_wsr, e_wsx, e_try, e_tryn, e_tryr, e_tryc, e_try1, e_try1n, e_try1r, e_run, e_endn, e_endr, e_endx, e_sta1, e_sta2, e_sta3, l_eq, l_ne, l_eqbb, l_nebb, l_lt, l_le, l_gt, l_ge, l_add, l_addt, l_addl, l_sub, l_neg, l_mod, l_fdiv, l_mul, l_mul2, l_iadd, l_not, l_len1, l_len2, l_len3, l_int, l_intb, l_tup1, l_tup2, l_lst1, l_lst2, l_max, l_min, l_ixt0, l_ixt1, l_ixt2, l_ixtl, l_ixl0, l_ixl1, l_ixl2, l_ixll, l_isn_bl, l_inn_bl, l_ty_int_bl, l_ty_bool_bl, l_ty_str_bl, l_ty_tuple_bl, l_ty_list_bl, l_isn_int, l_inn_int, l_ty_int_int, l_ty_bool_int, l_ty_str_int, l_ty_tuple_int, l_ty_list_int, l_isn_str, l_inn_str, l_ty_int_str, l_ty_bool_str, l_ty_str_str, l_ty_tuple_str, l_ty_list_str, l_isn_tup, l_inn_tup, l_ty_int_tup, l_ty_bool_tup, l_ty_str_tup, l_ty_tuple_tup, l_ty_list_tup, l_isn_lst, l_inn_lst, l_ty_int_lst, l_ty_bool_lst, l_ty_str_lst, l_ty_tuple_lst, l_ty_list_lst, l_isn_non, l_inn_non, l_ty_int_non, l_ty_bool_non, l_ty_str_non, l_ty_tuple_non, l_ty_list_non, d_t, d_f, Bool.not_true, Bool.not_false, List.length_map, List.length_append, List.length_cons, List.length_nil, List.nil_append, List.cons_append, if_true, if_false, Bool.false_eq_true, ite_true, ite_false, List.map_cons, List.map_nil, beq_self_eq_true, reduceIte, Bool.true_and, Bool.and_true, Bool.false_and, Bool.and_false, Int.reduceAdd, Int.reduceSub, Int.reduceMul, Int.reduceNeg, Int.reduceMod, Int.reduceDiv, Int.reduceToNat, Nat.reduceAdd, Nat.reduceMul, Nat.reduceSub, Bool.or_true, Bool.true_or, Bool.or_false, Bool.false_or, Int.cast_ofNat_Int, decide_true, decide_false, u_whl, ty_str, eqcc, whole_eq, p1, p3, p4, ne_cc]
    · have hs := sel_le l (!b) hl
      have hl0 : 0 < l.length := by
        refine List.length_pos_iff.mpr fun z => h0 ?_
        rw [z, sel_nil]
      obtain ⟨c0, hc0, f0⟩ := ih (sel (!b) l) false i0 hs ha (path ++ [.int (bitI b)]) (W ++ [trip (path ++ [.int (bitI b)] ++ [.int 1]) (sel (!b) l) i1]) (by rw [List.length_append]; show path.length + 1 + n ≤ 500; omega) (by rw [List.length_append]; show W.length + 1 + n ≤ 500; omega)
      obtain ⟨c1, hc1, f1⟩ := ih (sel (!b) l) true i1 hs hb (path ++ [.int (bitI b)]) W (by rw [List.length_append]; show path.length + 1 + n ≤ 500; omega) (by omega)
      refine ⟨c0 + c1 + 1, by rw [Nat.pow_succ]; omega, fun m r p u3 u4 u5 u6 u7 => ?_⟩
      have s0 := step_bit l b (by omega)
      have hg : decide ((0 : Int) < (l.length : Int)) = true := decide_eq_true (by omega)
      rw [show c0 + c1 + 1 + m = (c0 + (c1 + m)) + 1 by omega]
      have key : ∃ v3 v4 v5 v6 v7, whileL NT NB ((c0 + (c1 + m)) + 1) [r, p, some (.lst (W ++ [trip (path ++ [.int (bitI b)]) l (rsD [i0, i1])])), u3, u4, u5, u6, u7] = whileL NT NB (c0 + (c1 + m)) [r, p, some (.lst (W ++ [trip (path ++ [.int (bitI b)] ++ [.int 1]) (sel (!b) l) i1] ++ [trip (path ++ [.int (bitI b)] ++ [.int (bitI false)]) (sel (!b) l) i0])), v3, v4, v5, v6, v7] := by
        refine ⟨some (.tup (path ++ [.int (bitI b)])), some (.tup (l.map cD)), some (rsD [i0, i1]), some (.int (bitI b)), some (.tup ((sel (!b) l).map cD)), ?_⟩
        unfold trip rsD NT NB
        simp (disch := (first | omega | (simp only [List.length_map, List.length_append, List.length_cons, List.length_nil, rngC_len, rng_len, List.length_range, List.length_reverse, List.length_take, List.length_drop, List.length_set, List.length_replicate] at *; omega))) only [e_v0, e_vS, e_vC, e_s0, e_sS, e_op, e_op1, e_op2, e_opx, e_opx2, e_some, e_1, e_11, e_t, e_t1, e_tx, e_tr, e_tr1, e_trx, e_trb, e_trn, e_nt, e_nt1, e_ntx, e_and, e_andt, e_andf, e_andx, e_or, e_ort, e_orf, e_orx, e_va, e_vat, e_vaf, e_vax, e_vo, e_vot, e_vof, e_vox, e_vi, e_vit, e_vif, e_vix, e_vl, e_vl1, e_an, e_ac, e_ac1, e_acx, e_ac2, e_acx2, e_tu, e_tu1, e_tux, e_ls, e_ls1, e_cb, e_cb1, e_cbx, e_ca, e_ca_0, e_ca_1, e_ca_2, e_ca_3, e_ca_4, e_ca_5, e_ca_6, e_cax, e_ch, e_ch1, e_ch2, e_ch3, e_ch4, e_sl, e_sl1, e_slt, e_sll, e_slf, e_st, e_st1, e_os, e_os1, e_on, e_ga, e_ga1, e_gs, e_gst, e_gsl, e_gsf, e_ge, e_get, e_r1, e_r1i, e_r2i, e_r3, e_lc, e_lc1, e_wp0, e_wp1, e_gn, e_gt, e_gl, e_gc, e_gc1, e_g0, e_seq, e_seqn, e_seqr, e_seqx, e_seqc, e_seqb, e_nop, e_brk, e_cnt, e_rai, e_asg, e_asg1, e_asgx, e_asgO, e_asgO1, e_asgT, e_asgT1, e_asgTx, e_tg, e_par, e_par1, e_par2, e_parO, e_parO1, e_drop, e_drop1, e_dropx, e_ret, e_ret1, e_retx, e_retN, e_if, e_ift, e_iff, e_ifx, e_aug, e_aug1, e_aug2, e_app, e_app1, e_ext, e_ext1, e_si, e_si1, e_si2, e_si3, e_pop, e_pop1, e_for, e_for1, e_whl, e_fl0, e_ft, e_fsn, e_fsc, e_fsb, e_fsr, e_fsx, e_wtt, e_wtf, e_wsn, e_wsc, e_wsb, e_wsr, e_wsx, e_try, e_tryn, e_tryr, e_tryc, e_try1, e_try1n, e_try1r, e_run, e_endn, e_endr, e_endx, e_sta1, e_sta2, e_sta3, l_eq, l_ne, l_eqbb, l_nebb, l_lt, l_le, l_gt, l_ge, l_add, l_addt, l_addl, l_sub, l_neg, l_mod, l_fdiv, l_mul, l_mul2, l_iadd, l_not, l_len1, l_len2, l_len3, l_int, l_intb, l_tup1, l_tup2, l_lst1, l_lst2, l_max, l_min, l_ixt0, l_ixt1, l_ixt2, l_ixtl, l_ixl0, l_ixl1, l_ixl2, l_ixll, l_isn_bl, l_inn_bl, l_ty_int_bl, l_ty_bool_bl, l_ty_str_bl, l_ty_tuple_bl, l_ty_list_bl, l_isn_int, l_inn_int, l_ty_int_int, l_ty_bool_int, l_ty_str_int, l_ty_tuple_int, l_ty_list_int, l_isn_str, l_inn_str, l_ty_int_str, l_ty_bool_str, l_ty_str_str, l_ty_tuple_str, l_ty_list_str, l_isn_tup, l_inn_tup, l_ty_int_tup, l_ty_bool_tup, l_ty_str_tup, l_ty_tuple_tup, l_ty_list_tup, l_isn_lst, l_inn_lst, l_ty_int_lst, l_ty_bool_lst, l_ty_str_lst, l_ty_tuple_lst, l_ty_list_lst, l_isn_non, l_inn_non, l_ty_int_non, l_ty_bool_non, l_ty_str_non, l_ty_tuple_non, l_ty_list_non, d_t, d_f, Bool.not_true, Bool.not_false, List.length_map, List.length_append, List.length_cons, List.length_nil, List.nil_append, List.cons_append, if_true, if_false, Bool.false_eq_true, ite_true, ite_false, List.map_cons, List.map_nil, beq_self_eq_true, reduceIte, Bool.true_and, Bool.and_true, Bool.false_and, Bool.and_false, Int.reduceAdd, Int.reduceSub, Int.reduceMul, Int.reduceNeg, Int.reduceMod, Int.reduceDiv, Int.reduceToNat, Nat.reduceAdd, Nat.reduceMul, Nat.reduceSub, Bool.or_true, Bool.true_or, Bool.or_false, Bool.false_or, Int.cast_ofNat_Int, decide_true, decide_false, u_whl, ty_str, eqrc, eqrr, s0, hg]
        rfl
      obtain ⟨v3, v4, v5, v6, v7, e1⟩ := key
      obtain ⟨w3, w4, w5, w6, w7, e2⟩ := f0 (c1 + m) r p v3 v4 v5 v6 v7
      obtain ⟨x3, x4, x5, x6, x7, e3⟩ := f1 m r p w3 w4 w5 w6 w7
      exact ⟨x3, x4, x5, x6, x7, e1.trans (e2.trans e3)⟩
theorem none_fault_eq (l : List Bool) (its : List Dat) (hl : l.length ≤ 200) (h : Bad 8 l its) : D_none_fault [.tup (l.map cD), .tup its] = .ok .non := by
  obtain ⟨h0, i0, i1, rfl, ha, hb⟩ := h
  have e := checkrow_eq l hl
  obtain ⟨c0, hc0, f0⟩ := nf_item 7 l false i0 (by omega) ha [] [trip [.int 1] l i1] (by decide) (by show 1 + 7 ≤ 500; decide)
  obtain ⟨c1, hc1, f1⟩ := nf_item 7 l true i1 (by omega) hb [] [] (by decide) (by decide)
  obtain ⟨v3, v4, v5, v6, v7, e0⟩ := f0 (c1 + (999999 - c0 - c1 + 1)) (some (.tup (l.map cD))) (some (.tup [i0, i1])) none none none none none
  obtain ⟨w3, w4, w5, w6, w7, e1⟩ := f1 (999999 - c0 - c1 + 1) (some (.tup (l.map cD))) (some (.tup [i0, i1])) v3 v4 v5 v6 v7
  have e2 : whileL NT NB (999999 - c0 - c1 + 1) [some (.tup (l.map cD)), some (.tup [i0, i1]), some (.lst []), w3, w4, w5, w6, w7] = .nx [some (.tup (l.map cD)), some (.tup [i0, i1]), some (.lst []), w3, w4, w5, w6, w7] := by
    unfold NT NB
    simp (disch := (first | omega | (simp only [List.length_map, List.length_append, List.length_cons, List.length_nil, rngC_len, rng_len, List.length_range, List.length_reverse, List.length_take, List.length_drop, List.length_set, List.length_replicate] at *; omega))) only [e_v0, e_vS, e_vC, e_s0, e_sS, e_op, e_op1, e_op2, e_opx, e_opx2, e_some, e_1, e_11, e_t, e_t1, e_tx, e_tr, e_tr1, e_trx, e_trb, e_trn, e_nt, e_nt1, e_ntx, e_and, e_andt, e_andf, e_andx, e_or, e_ort, e_orf, e_orx, e_va, e_vat, e_vaf, e_vax, e_vo, e_vot, e_vof, e_vox, e_vi, e_vit, e_vif, e_vix, e_vl, e_vl1, e_an, e_ac, e_ac1, e_acx, e_ac2, e_acx2, e_tu, e_tu1, e_tux, e_ls, e_ls1, e_cb, e_cb1, e_cbx, e_ca, e_ca_0, e_ca_1, e_ca_2, e_ca_3, e_ca_4, e_ca_5, e_ca_6, e_cax, e_ch, e_ch1, e_ch2, e_ch3, e_ch4, e_sl, e_sl1, e_slt, e_sll, e_slf, e_st, e_st1, e_os, e_os1, e_on, e_ga, e_ga1, e_gs, e_gst, e_gsl, e_gsf, e_ge, e_get, e_r1, e_r1i, e_r2i, e_r3, e_lc, e_lc1, e_wp0, e_wp1, e_gn, e_gt, e_gl, e_gc, e_gc1, e_g0, e_seq, e_seqn, e_seqr, e_seqx, e_seqc, e_seqb, e_nop, e_brk, e_cnt, e_rai, e_asg, e_asg1, e_asgx, e_asgO, e_asgO1, e_asgT, e_asgT1, e_asgTx, e_tg, e_par, e_par1, e_par2, e_parO, e_parO1, e_drop, e_drop1, e_dropx, e_ret, e_ret1, e_retx, e_retN, e_if, e_ift, e_iff, e_ifx, e_aug, e_aug1, e_aug2, e_app, e_app1, e_ext, e_ext1, e_si, e_si1, e_si2, e_si3, e_pop, e_pop1, e_for, e_for1, e_whl, e_fl0, e_ft, e_fsn, e_fsc, e_fsb, e_fsr, e_fsx, e_wtt, e_wtf, e_wsn, e_wsc, e_wsb, e_wsr, e_wsx, e_try, e_tryn, e_tryr, e_tryc, e_try1, e_try1n, e_try1r, e_run, e_endn, e_endr, e_endx, e_sta1, e_sta2, e_sta3, l_eq, l_ne, l_eqbb, l_nebb, l_lt, l_le, l_gt, l_ge, l_add, l_addt, l_addl, l_sub, l_neg, l_mod, l_fdiv, l_mul, l_mul2, l_iadd, l_not, l_len1, l_len2, l_len3, l_int, l_intb, l_tup1, l_tup2, l_lst1, l_lst2, l_max, l_min, l_ixt0, l_ixt1, l_ixt2, l_ixtl, l_ixl0, l_ixl1, l_ixl2, l_ixll, l_isn_bl, l_inn_bl, l_ty_int_bl, l_ty_bool_bl, l_ty_str_bl, l_ty_tuple_bl, l_ty_list_bl, l_isn_int, l_inn_int, l_ty_int_int, l_ty_bool_int, l_ty_str_int, l_ty_tuple_int, l_ty_list_int, l_isn_str, l_inn_str, l_ty_int_str, l_ty_bool_str, l_ty_str_str, l_ty_tuple_str, l_ty_list_str, l_isn_tup, l_inn_tup, l_ty_int_tup, l_ty_bool_tup, l_ty_str_tup, l_ty_tuple_tup, l_ty_list_tup, l_isn_lst, l_inn_lst, l_ty_int_lst, l_ty_bool_lst, l_ty_str_lst, l_ty_tuple_lst, l_ty_list_lst, l_isn_non, l_inn_non, l_ty_int_non, l_ty_bool_non, l_ty_str_non, l_ty_tuple_non, l_ty_list_non, d_t, d_f, Bool.not_true, Bool.not_false, List.length_map, List.length_append, List.length_cons, List.length_nil, List.nil_append, List.cons_append, if_true, if_false, Bool.false_eq_true, ite_true, ite_false, List.map_cons, List.map_nil, beq_self_eq_true, reduceIte, Bool.true_and, Bool.and_true, Bool.false_and, Bool.and_false, Int.reduceAdd, Int.reduceSub, Int.reduceMul, Int.reduceNeg, Int.reduceMod, Int.reduceDiv, Int.reduceToNat, Nat.reduceAdd, Nat.reduceMul, Nat.reduceSub, Bool.or_true, Bool.true_or, Bool.or_false, Bool.false_or, Int.cast_ofNat_Int, decide_true, decide_false, u_whl]
  have e3 := (e0.trans e1).trans e2
  rw [show c0 + (c1 + (999999 - c0 - c1 + 1)) = 1000000 by omega] at e3
  unfold trip NT NB at e3
  simp only [List.nil_append, List.cons_append] at e3
  simp (disch := (first | omega | (simp only [List.length_map, List.length_append, List.length_cons, List.length_nil, rngC_len, rng_len, List.length_range, List.length_reverse, List.length_take, List.length_drop, List.length_set, List.length_replicate] at *; omega))) only [e_v0, e_vS, e_vC, e_s0, e_sS, e_op, e_op1, e_op2, e_opx, e_opx2, e_some, e_1, e_11, e_t, e_t1, e_tx, e_tr, e_tr1, e_trx, e_trb, e_trn, e_nt, e_nt1, e_ntx, e_and, e_andt, e_andf, e_andx, e_or, e_ort, e_orf, e_orx, e_va, e_vat, e_vaf, e_vax, e_vo, e_vot, e_vof, e_vox, e_vi, e_vit, e_vif, e_vix, e_vl, e_vl1, e_an, e_ac, e_ac1, e_acx, e_ac2, e_acx2, e_tu, e_tu1, e_tux, e_ls, e_ls1, e_cb, e_cb1, e_cbx, e_ca, e_ca_0, e_ca_1, e_ca_2, e_ca_3, e_ca_4, e_ca_5, e_ca_6, e_cax, e_ch, e_ch1, e_ch2, e_ch3, e_ch4, e_sl, e_sl1, e_slt, e_sll, e_slf, e_st, e_st1, e_os, e_os1, e_on, e_ga, e_ga1, e_gs, e_gst, e_gsl, e_gsf, e_ge, e_get, e_r1, e_r1i, e_r2i, e_r3, e_lc, e_lc1, e_wp0, e_wp1, e_gn, e_gt, e_gl, e_gc, e_gc1, e_g0, e_seq, e_seqn, e_seqr, e_seqx, e_seqc, e_seqb, e_nop, e_brk, e_cnt, e_rai, e_asg, e_asg1, e_asgx, e_asgO, e_asgO1, e_asgT, e_asgT1, e_asgTx, e_tg, e_par, e_par1, e_par2, e_parO, e_parO1, e_drop, e_drop1, e_dropx, e_ret, e_ret1, e_retx, e_retN, e_if, e_ift, e_iff, e_ifx, e_aug, e_aug1, e_aug2, e_app, e_app1, e_ext, e_ext1, e_si, e_si1, e_si2, e_si3, e_pop, e_pop1, e_for, e_for1, e_whl, e_fl0, e_ft, e_fsn, e_fsc, e_fsb, e_fsr, e_fsx, e_wtt, e_wtf, e_wsn, e_wsc, e_wsb, e_wsr, e_wsx, e_try, e_tryn, e_tryr, e_tryc, e_try1, e_try1n, e_try1r, e_run, e_endn, e_endr, e_endx, e_sta1, e_sta2, e_sta3, l_eq, l_ne, l_eqbb, l_nebb, l_lt, l_le, l_gt, l_ge, l_add, l_addt, l_addl, l_sub, l_neg, l_mod, l_fdiv, l_mul, l_mul2, l_iadd, l_not, l_len1, l_len2, l_len3, l_int, l_intb, l_tup1, l_tup2, l_lst1, l_lst2, l_max, l_min, l_ixt0, l_ixt1, l_ixt2, l_ixtl, l_ixl0, l_ixl1, l_ixl2, l_ixll, l_isn_bl, l_inn_bl, l_ty_int_bl, l_ty_bool_bl, l_ty_str_bl, l_ty_tuple_bl, l_ty_list_bl, l_isn_int, l_inn_int, l_ty_int_int, l_ty_bool_int, l_ty_str_int, l_ty_tuple_int, l_ty_list_int, l_isn_str, l_inn_str, l_ty_int_str, l_ty_bool_str, l_ty_str_str, l_ty_tuple_str, l_ty_list_str, l_isn_tup, l_inn_tup, l_ty_int_tup, l_ty_bool_tup, l_ty_str_tup, l_ty_tuple_tup, l_ty_list_tup, l_isn_lst, l_inn_lst, l_ty_int_lst, l_ty_bool_lst, l_ty_str_lst, l_ty_tuple_lst, l_ty_list_lst, l_isn_non, l_inn_non, l_ty_int_non, l_ty_bool_non, l_ty_str_non, l_ty_tuple_non, l_ty_list_non, d_t, d_f, Bool.not_true, Bool.not_false, List.length_map, List.length_append, List.length_cons, List.length_nil, List.nil_append, List.cons_append, if_true, if_false, Bool.false_eq_true, ite_true, ite_false, List.map_cons, List.map_nil, beq_self_eq_true, reduceIte, Bool.true_and, Bool.and_true, Bool.false_and, Bool.and_false, Int.reduceAdd, Int.reduceSub, Int.reduceMul, Int.reduceNeg, Int.reduceMod, Int.reduceDiv, Int.reduceToNat, Nat.reduceAdd, Nat.reduceMul, Nat.reduceSub, Bool.or_true, Bool.true_or, Bool.or_false, Bool.false_or, Int.cast_ofNat_Int, decide_true, decide_false, D_none_fault, F_none_fault, e]
  rw [show [some (Dat.tup (l.map cD)), some (.tup [i0, i1]), some (.lst [.tup [.tup [.int 1], .tup (l.map cD), i1], .tup [.tup [.int 0], .tup (l.map cD), i0]]), none, none, none, none, none] = [some (Dat.tup (l.map cD)), some (.tup [i0, i1]), some (.lst [.tup [.tup [.int 1], .tup (l.map cD), i1], .tup [.tup [.int (bitI false)], .tup (l.map cD), i0]]), none, none, none, none, none] from rfl]
  rw [e3]
  simp (disch := (first | omega | (simp only [List.length_map, List.length_append, List.length_cons, List.length_nil, rngC_len, rng_len, List.length_range, List.length_reverse, List.length_take, List.length_drop, List.length_set, List.length_replicate] at *; omega))) only [e_v0, e_vS, e_vC, e_s0, e_sS, e_op, e_op1, e_op2, e_opx, e_opx2, e_some, e_1, e_11, e_t, e_t1, e_tx, e_tr, e_tr1, e_trx, e_trb, e_trn, e_nt, e_nt1, e_ntx, e_and, e_andt, e_andf, e_andx, e_or, e_ort, e_orf, e_orx, e_va, e_vat, e_vaf, e_vax, e_vo, e_vot, e_vof, e_vox, e_vi, e_vit, e_vif, e_vix, e_vl, e_vl1, e_an, e_ac, e_ac1, e_acx, e_ac2, e_acx2, e_tu, e_tu1, e_tux, e_ls, e_ls1, e_cb, e_cb1, e_cbx, e_ca, e_ca_0, e_ca_1, e_ca_2, e_ca_3, e_ca_4, e_ca_5, e_ca_6, e_cax, e_ch, e_ch1, e_ch2, e_ch3, e_ch4, e_sl, e_sl1, e_slt, e_sll, e_slf, e_st, e_st1, e_os, e_os1, e_on, e_ga, e_ga1, e_gs, e_gst, e_gsl, e_gsf, e_ge, e_get, e_r1, e_r1i, e_r2i, e_r3, e_lc, e_lc1, e_wp0, e_wp1, e_gn, e_gt, e_gl, e_gc, e_gc1, e_g0, e_seq, e_seqn, e_seqr, e_seqx, e_seqc, e_seqb, e_nop, e_brk, e_cnt, e_rai, e_asg, e_asg1, e_asgx, e_asgO, e_asgO1, e_asgT, e_asgT1, e_asgTx, e_tg, e_par, e_par1, e_par2, e_parO, e_parO1, e_drop, e_drop1, e_dropx, e_ret, e_ret1, e_retx, e_retN, e_if, e_ift, e_iff, e_ifx, e_aug, e_aug1, e_aug2, e_app, e_app1, e_ext, e_ext1, e_si, e_si1, e_si2, e_si3, e_pop, e_pop1, e_for, e_for1, e_whl, e_fl0, e_ft, e_fsn, e_fsc, e_fsb, e_fsr, e_fsx, e_wtt, e_wtf, e_wsn, e_wsc, e_wsb, e_wsr, e_wsx, e_try, e_tryn, e_tryr, e_tryc, e_try1, e_try1n, e_try1r, e_run, e_endn, e_endr, e_endx, e_sta1, e_sta2, e_sta3, l_eq, l_ne, l_eqbb, l_nebb, l_lt, l_le, l_gt, l_ge, l_add, l_addt, l_addl, l_sub, l_neg, l_mod, l_fdiv, l_mul, l_mul2, l_iadd, l_not, l_len1, l_len2, l_len3, l_int, l_intb, l_tup1, l_tup2, l_lst1, l_lst2, l_max, l_min, l_ixt0, l_ixt1, l_ixt2, l_ixtl, l_ixl0, l_ixl1, l_ixl2, l_ixll, l_isn_bl, l_inn_bl, l_ty_int_bl, l_ty_bool_bl, l_ty_str_bl, l_ty_tuple_bl, l_ty_list_bl, l_isn_int, l_inn_int, l_ty_int_int, l_ty_bool_int, l_ty_str_int, l_ty_tuple_int, l_ty_list_int, l_isn_str, l_inn_str, l_ty_int_str, l_ty_bool_str, l_ty_str_str, l_ty_tuple_str, l_ty_list_str, l_isn_tup, l_inn_tup, l_ty_int_tup, l_ty_bool_tup, l_ty_str_tup, l_ty_tuple_tup, l_ty_list_tup, l_isn_lst, l_inn_lst, l_ty_int_lst, l_ty_bool_lst, l_ty_str_lst, l_ty_tuple_lst, l_ty_list_lst, l_isn_non, l_inn_non, l_ty_int_non, l_ty_bool_non, l_ty_str_non, l_ty_tuple_non, l_ty_list_non, d_t, d_f, Bool.not_true, Bool.not_false, List.length_map, List.length_append, List.length_cons, List.length_nil, List.nil_append, List.cons_append, if_true, if_false, Bool.false_eq_true, ite_true, ite_false, List.map_cons, List.map_nil, beq_self_eq_true, reduceIte, Bool.true_and, Bool.and_true, Bool.false_and, Bool.and_false, Int.reduceAdd, Int.reduceSub, Int.reduceMul, Int.reduceNeg, Int.reduceMod, Int.reduceDiv, Int.reduceToNat, Nat.reduceAdd, Nat.reduceMul, Nat.reduceSub, Bool.or_true, Bool.true_or, Bool.or_false, Bool.false_or, Int.cast_ofNat_Int, decide_true, decide_false]
theorem eqnw : eqD (.str "none") (.str "window") = some (.bl false) := by kernel_rfl
theorem eqnn : eqD (.str "none") (.str "none") = some (.bl true) := by kernel_rfl
theorem right_none (l : List Bool) (its : List Dat) (hl : l.length ≤ 200) (h : Bad 8 l its) : D__law_is_right [.tup (l.map cD), .str "none", .tup its] = .ok (.bl true) := by
  have e := none_fault_eq l its hl h
  have e1 : D__law_is_none [.tup (l.map cD), .tup its] = .ok (.bl true) := is_none_eq 8 32 l its (by omega) h
  simp (disch := (first | omega | (simp only [List.length_map, List.length_append, List.length_cons, List.length_nil, rngC_len, rng_len, List.length_range, List.length_reverse, List.length_take, List.length_drop, List.length_set, List.length_replicate] at *; omega))) only [e_v0, e_vS, e_vC, e_s0, e_sS, e_op, e_op1, e_op2, e_opx, e_opx2, e_some, e_1, e_11, e_t, e_t1, e_tx, e_tr, e_tr1, e_trx, e_trb, e_trn, e_nt, e_nt1, e_ntx, e_and, e_andt, e_andf, e_andx, e_or, e_ort, e_orf, e_orx, e_va, e_vat, e_vaf, e_vax, e_vo, e_vot, e_vof, e_vox, e_vi, e_vit, e_vif, e_vix, e_vl, e_vl1, e_an, e_ac, e_ac1, e_acx, e_ac2, e_acx2, e_tu, e_tu1, e_tux, e_ls, e_ls1, e_cb, e_cb1, e_cbx, e_ca, e_ca_0, e_ca_1, e_ca_2, e_ca_3, e_ca_4, e_ca_5, e_ca_6, e_cax, e_ch, e_ch1, e_ch2, e_ch3, e_ch4, e_sl, e_sl1, e_slt, e_sll, e_slf, e_st, e_st1, e_os, e_os1, e_on, e_ga, e_ga1, e_gs, e_gst, e_gsl, e_gsf, e_ge, e_get, e_r1, e_r1i, e_r2i, e_r3, e_lc, e_lc1, e_wp0, e_wp1, e_gn, e_gt, e_gl, e_gc, e_gc1, e_g0, e_seq, e_seqn, e_seqr, e_seqx, e_seqc, e_seqb, e_nop, e_brk, e_cnt, e_rai, e_asg, e_asg1, e_asgx, e_asgO, e_asgO1, e_asgT, e_asgT1, e_asgTx, e_tg, e_par, e_par1, e_par2, e_parO, e_parO1, e_drop, e_drop1, e_dropx, e_ret, e_ret1, e_retx, e_retN, e_if, e_ift, e_iff, e_ifx, e_aug, e_aug1, e_aug2, e_app, e_app1, e_ext, e_ext1, e_si, e_si1, e_si2, e_si3, e_pop, e_pop1, e_for, e_for1, e_whl, e_fl0, e_ft, e_fsn, e_fsc, e_fsb, e_fsr, e_fsx, e_wtt, e_wtf, e_wsn, e_wsc, e_wsb, e_wsr, e_wsx, e_try, e_tryn, e_tryr, e_tryc, e_try1, e_try1n, e_try1r, e_run, e_endn, e_endr, e_endx, e_sta1, e_sta2, e_sta3, l_eq, l_ne, l_eqbb, l_nebb, l_lt, l_le, l_gt, l_ge, l_add, l_addt, l_addl, l_sub, l_neg, l_mod, l_fdiv, l_mul, l_mul2, l_iadd, l_not, l_len1, l_len2, l_len3, l_int, l_intb, l_tup1, l_tup2, l_lst1, l_lst2, l_max, l_min, l_ixt0, l_ixt1, l_ixt2, l_ixtl, l_ixl0, l_ixl1, l_ixl2, l_ixll, l_isn_bl, l_inn_bl, l_ty_int_bl, l_ty_bool_bl, l_ty_str_bl, l_ty_tuple_bl, l_ty_list_bl, l_isn_int, l_inn_int, l_ty_int_int, l_ty_bool_int, l_ty_str_int, l_ty_tuple_int, l_ty_list_int, l_isn_str, l_inn_str, l_ty_int_str, l_ty_bool_str, l_ty_str_str, l_ty_tuple_str, l_ty_list_str, l_isn_tup, l_inn_tup, l_ty_int_tup, l_ty_bool_tup, l_ty_str_tup, l_ty_tuple_tup, l_ty_list_tup, l_isn_lst, l_inn_lst, l_ty_int_lst, l_ty_bool_lst, l_ty_str_lst, l_ty_tuple_lst, l_ty_list_lst, l_isn_non, l_inn_non, l_ty_int_non, l_ty_bool_non, l_ty_str_non, l_ty_tuple_non, l_ty_list_non, d_t, d_f, Bool.not_true, Bool.not_false, List.length_map, List.length_append, List.length_cons, List.length_nil, List.nil_append, List.cons_append, if_true, if_false, Bool.false_eq_true, ite_true, ite_false, List.map_cons, List.map_nil, beq_self_eq_true, reduceIte, Bool.true_and, Bool.and_true, Bool.false_and, Bool.and_false, Int.reduceAdd, Int.reduceSub, Int.reduceMul, Int.reduceNeg, Int.reduceMod, Int.reduceDiv, Int.reduceToNat, Nat.reduceAdd, Nat.reduceMul, Nat.reduceSub, Bool.or_true, Bool.true_or, Bool.or_false, Bool.false_or, Int.cast_ofNat_Int, decide_true, decide_false, D__law_is_right, F__law_is_right, e, eqnw, eqnn, e1]
end Lw
namespace Lw
open PySem PySem.Spec PyProof.Rows L2 Dl
theorem ext_ok {i : Nat} {f : DEnv → Res Dat} {ρ : DEnv} {l m : List Dat} (hi : ρ[i]? = some (some (.lst l))) (h : f ρ = .ok (.lst m)) (hl : l.length + m.length ≤ 10000000) : sExt i f ρ = .nx (ρ.set i (some (.lst (l ++ m)))) := by
  unfold sExt
  rw [hi]
  show rBind (f ρ) ρ _ = _
  rw [h]
  show (if l.length + m.length ≤ 10000000 then _ else _) = _
  rw [if_pos hl]
theorem cut_nn {α : Type} (l : List α) {i j : Nat} (hi : i ≤ l.length) (hj : j ≤ l.length) : Dl.cutD l (some (i : Int)) (some (j : Int)) = (l.drop i).take (j - i) := by
  unfold Dl.cutD
  rw [HT.sIx_nat, HT.sIx_nat, Nat.min_eq_left hi, Nat.min_eq_left hj]
theorem cut_from {α : Type} (l : List α) {i : Nat} (hi : i ≤ l.length) : Dl.cutD l (some (i : Int)) none = l.drop i := by
  unfold Dl.cutD
  rw [HT.sIx_nat, Nat.min_eq_left hi]
  show (l.drop i).take (l.length - i) = _
  rw [List.take_of_length_le (by rw [List.length_drop]; exact Nat.le_refl _)]
theorem sign_of (b : Bool) : ixD (.lst [.str "V", .str "M"]) (.int (if b then 1 else 0)) = some (cD !b) := by cases b <;> rfl
def rowC (g : List Bool) (N : Nat) : List Dat := (List.range N).map fun i => cD (cr g (i + 1))
theorem rowC_len (g : List Bool) (N : Nat) : (rowC g N).length = N := by unfold rowC; rw [List.length_map, List.length_range]
theorem rowC_succ (g : List Bool) (N : Nat) : rowC g N ++ [cD (cr g (N + 1))] = rowC g (N + 1) := by unfold rowC; rw [List.range_succ, List.map_append]; rfl
theorem rowC_rowN (g : List Bool) : rowC g (2 ^ g.length - 1) = (rowN g).map cD := by unfold rowC rowN; rw [List.map_map]; rfl
theorem rowC_get (g : List Bool) {N i : Nat} (h : i < N) : (rowC g N)[i]? = some (cD (cr g (i + 1))) := by unfold rowC; rw [List.getElem?_map, List.getElem?_range h]; rfl
theorem take1 {α : Type} {l : List α} {i : Nat} {a : α} (h : l[i]? = some a) : (l.drop i).take 1 = [a] := by
  obtain ⟨h1, h2⟩ := List.getElem?_eq_some_iff.mp h
  rw [List.drop_eq_getElem_cons h1, h2]
  rfl
def B1 : DEnv → DFlow := sSeq (sApp 3 (vVar 4)) (sSeq (sAsg 4 (vOp ixD (vL (fLst (aCons (vC (.str "V")) (aCons (vC (.str "M")) (aNil))))) (vCB intD (aCons (vOp eqD (vVar 4) (vC (.str "V"))) (aNil))))) (sExt 3 (vSl (vVar 1) (oSome (vVar 5)) (oSome (vOp addD (vVar 5) (vC (.int 1)))))))
def B2 : DEnv → DFlow := sSeq (sParO 3 4 (fLst (aNil)) (vOp ixD (vL (fLst (aCons (vC (.str "V")) (aCons (vC (.str "M")) (aNil))))) (vCB intD (aCons (vOp eqD (vVar 2) (vC (.str "under"))) (aNil))))) (sSeq (sFor (gA range1D (aCons (vOp addD (vCB lenD (aCons (vVar 1) (aNil))) (vC (.int 1))) (aNil))) (aName 5) B1) (sAsg 1 (vVar 3)))
theorem b1_turn {a c : Option Dat} {fr : List Bool} {f : Bool} {j m : Nat} (hm : m = 2 ^ fr.length - 1) (hj : j ≤ m) (h2 : m < 100000) :
    B1 [a, some (.lst (rowC fr m)), c, some (.lst (rowC (f :: fr) (2 * j))), some (cD (xor f (j % 2 == 1))), some (.int (j : Int))] = .nx [a, some (.lst (rowC fr m)), c, some (.lst (rowC (f :: fr) (min (2 * (j + 1)) (2 * m + 1)))), some (cD (xor f ((j + 1) % 2 == 1))), some (.int (j : Int))] := by
  refine (seq_nx (ρ' := [a, some (.lst (rowC fr m)), c, some (.lst (rowC (f :: fr) (2 * j + 1))), some (cD (xor f (j % 2 == 1))), some (.int (j : Int))]) ?_).trans ?_
  · refine (app_ok (d := cD (xor f (j % 2 == 1))) (l := rowC (f :: fr) (2 * j)) rfl rfl (by rw [rowC_len]; omega)).trans ?_
    rw [← cr_odd, rowC_succ]
    rfl
  refine (seq_nx (ρ' := [a, some (.lst (rowC fr m)), c, some (.lst (rowC (f :: fr) (2 * j + 1))), some (cD (xor f ((j + 1) % 2 == 1))), some (.int (j : Int))]) ?_).trans ?_
  · refine (asg_ok (d := cD (xor f ((j + 1) % 2 == 1))) ?_).trans rfl
    refine op_ok (x := .lst [.str "V", .str "M"]) (y := .int (if (xor f (j % 2 == 1)) then 1 else 0)) rfl (cb_ok (ac_ok (x := .bl (xor f (j % 2 == 1))) (op_ok (x := cD (xor f (j % 2 == 1))) (y := .str "V") rfl rfl (fD_V _)) an_ok) rfl) ?_
    rw [sign_of]
    congr 2
    rcases Nat.mod_two_eq_zero_or_one j with z | z
    · rw [z, show (j + 1) % 2 = 1 by omega]; cases f <;> rfl
    · rw [z, show (j + 1) % 2 = 0 by omega]; cases f <;> rfl
  have hs : vSl (vVar 1) (oSome (vVar 5)) (oSome (vOp addD (vVar 5) (vC (.int 1)))) [a, some (.lst (rowC fr m)), c, some (.lst (rowC (f :: fr) (2 * j + 1))), some (cD (xor f ((j + 1) % 2 == 1))), some (.int (j : Int))] = .ok (.lst (Dl.cutD (rowC fr m) (some (j : Int)) (some ((j + 1 : Nat) : Int)))) :=
    sl_ok (x := .lst (rowC fr m)) rfl (os_ok rfl) (os_ok rfl) rfl
  by_cases z : j < m
  · have e : Dl.cutD (rowC fr m) (some (j : Int)) (some ((j + 1 : Nat) : Int)) = [cD (cr (f :: fr) (2 * j + 1 + 1))] := by
      rw [cut_nn _ (by rw [rowC_len]; omega) (by rw [rowC_len]; omega), show j + 1 - j = 1 by omega, take1 (rowC_get fr z), show 2 * j + 1 + 1 = 2 * (j + 1) by omega, cr_even]
    rw [e] at hs
    refine (ext_ok (l := rowC (f :: fr) (2 * j + 1)) rfl hs (by rw [rowC_len]; show 2 * j + 1 + 1 ≤ _; omega)).trans ?_
    rw [rowC_succ, show min (2 * (j + 1)) (2 * m + 1) = 2 * j + 1 + 1 by omega]
    rfl
  · have e : Dl.cutD (rowC fr m) (some (j : Int)) (some ((j + 1 : Nat) : Int)) = [] := by
      unfold Dl.cutD
      rw [HT.sIx_nat, HT.sIx_nat, rowC_len, show min (j + 1) m - min j m = 0 by omega, List.take_zero]
    rw [e] at hs
    refine (ext_ok (l := rowC (f :: fr) (2 * j + 1)) rfl hs (by rw [rowC_len]; show 2 * j + 1 + 0 ≤ _; omega)).trans ?_
    rw [List.append_nil, show min (2 * (j + 1)) (2 * m + 1) = 2 * j + 1 by omega]
    rfl
theorem range1_nat {b : Nat} (hb : b < 2 ^ 40) : range1D [.int (b : Int)] = .ok (rng 0 b) := by
  show (if big62 (b : Int) = true then Res.ok (rng 0 (b : Int).toNat) else .stuck) = _
  rw [if_pos, Int.toNat_natCast]
  unfold big62
  rw [decide_eq_true, decide_eq_true] <;> first | rfl | omega
theorem parO_ok {i j : Nat} {f : DEnv → Res (List Dat)} {g : DEnv → Res Dat} {ρ : DEnv} {l : List Dat} {d : Dat} (h1 : f ρ = .ok l) (h2 : g ρ = .ok d) : sParO i j f g ρ = .nx ((ρ.set i (some (.lst l))).set j (some d)) := by
  unfold sParO
  rw [h1]
  show rBind (g ρ) ρ _ = _
  rw [h2]
  rfl
theorem b2_turn {a x y z : Option Dat} {fr : List Bool} {f : Bool} (hl : fr.length ≤ 12) : ∃ x' y' z', B2 [a, some (.lst ((rowN fr).map cD)), some (fD f), x, y, z] = .nx [a, some (.lst ((rowN (f :: fr)).map cD)), some (fD f), x', y', z'] := by
  have hp : 2 ^ fr.length ≤ 4096 := Nat.pow_le_pow_right (n := 2) (by decide) hl
  have hp1 : 1 ≤ 2 ^ fr.length := Nat.pow_pos (by decide)
  obtain ⟨m, hm⟩ : ∃ m, m = 2 ^ fr.length - 1 := ⟨_, rfl⟩
  rw [← rowC_rowN, ← rowC_rowN, ← hm]
  obtain ⟨ρ', e, y', z', rfl, -⟩ := forL_inv (asg := aName 5) (F := B1) (l := rng 0 (m + 1)) (ρ := [a, some (.lst (rowC fr m)), some (fD f), some (.lst []), some (cD f), z])
    (fun k ρ => ∃ y' z', ρ = [a, some (.lst (rowC fr m)), some (fD f), some (.lst (rowC (f :: fr) (min (2 * k) (2 * m + 1)))), some y', z'] ∧ (k ≤ m → y' = cD (xor f (k % 2 == 1)))) ⟨cD f, z, rfl, fun _ => by rw [show (0 % 2 == 1) = false from rfl, Bool.xor_false]⟩ fun k d ρ hk hp => by
      obtain ⟨y', z', rfl, h⟩ := hp
      obtain ⟨hk', rfl⟩ := rng_get hk
      rw [h (by omega), show min (2 * k) (2 * m + 1) = 2 * k by omega]
      refine ⟨_, _, rfl, .inl ?_, cD (xor f ((k + 1) % 2 == 1)), some (.int ((k : Nat) : Int)), rfl, fun _ => rfl⟩
      have := b1_turn (a := a) (c := some (fD f)) (f := f) (j := k) hm (by omega) (by omega)
      rw [show ((0 : Int) + (k : Nat)) = ((k : Nat) : Int) by omega]
      exact this
  rw [rng_len] at e
  refine ⟨some (.lst (rowC (f :: fr) (2 * m + 1))), some y', z', ?_⟩
  refine (seq_nx (ρ' := [a, some (.lst (rowC fr m)), some (fD f), some (.lst []), some (cD f), z]) ?_).trans ?_
  · refine (parO_ok (l := []) (d := cD f) rfl ?_).trans rfl
    refine op_ok (x := .lst [.str "V", .str "M"]) (y := .int (if (!f) then 1 else 0)) rfl (cb_ok (ac_ok (x := .bl !f) (op_ok (x := fD f) (y := .str "under") rfl rfl (fD_u _)) an_ok) rfl) ?_
    rw [sign_of, Bool.not_not]
  refine (seq_nx (ρ' := [a, some (.lst (rowC fr m)), some (fD f), some (.lst (rowC (f :: fr) (min (2 * (m + 1)) (2 * m + 1)))), some y', z']) ?_).trans ?_
  · rw [for_ok (l := rng 0 (m + 1))]
    · exact e
    · refine ga_ok (l := [.int ((m + 1 : Nat) : Int)]) (ac_ok (op_ok (x := .int ((rowC fr m).length : Nat)) (y := .int 1) rfl rfl ?_) an_ok) (range1_nat (by omega))
      rw [rowC_len]
      rfl
  · rw [show min (2 * (m + 1)) (2 * m + 1) = 2 * m + 1 by omega, show 2 ^ (f :: fr).length - 1 = 2 * m + 1 by rw [List.length_cons, Nat.pow_succ, hm]; omega]
    exact asg_ok rfl
theorem lawrow_eq (fr : List Bool) (hl : fr.length ≤ 12) : D__law_row [.tup ((fr.reverse).map fD)] = .ok (.tup ((rowN fr).map cD)) := by
  refine run_rt ?_
  obtain ⟨ρ', e, x2, x3, x4, x5, rfl⟩ := forL_inv (asg := aName 2) (F := B2) (l := (fr.reverse).map fD) (ρ := [some (.tup ((fr.reverse).map fD)), some (.lst []), none, none, none, none])
    (fun k ρ => ∃ x2 x3 x4 x5, ρ = [some (.tup ((fr.reverse).map fD)), some (.lst ((rowN ((fr.reverse).take k).reverse).map cD)), x2, x3, x4, x5]) ⟨none, none, none, none, rfl⟩ fun k d ρ hk hp => by
      obtain ⟨x2, x3, x4, x5, rfl⟩ := hp
      rw [List.getElem?_map] at hk
      cases q : (fr.reverse)[k]? with
      | none => rw [q] at hk; cases hk
      | some f =>
        rw [q] at hk
        cases hk
        obtain ⟨x', y', z', e⟩ := b2_turn (a := some (.tup ((fr.reverse).map fD))) (x := x3) (y := x4) (z := x5) (fr := ((fr.reverse).take k).reverse) (f := f) (by rw [List.length_reverse, List.length_take, List.length_reverse]; omega)
        refine ⟨_, _, rfl, .inl e, some (fD f), x', y', z', ?_⟩
        rw [List.take_succ, q, List.reverse_append]
        rfl
  refine (seq_nx (ρ' := [some (.tup ((fr.reverse).map fD)), some (.lst []), none, none, none, none]) rfl).trans ?_
  rw [List.length_map, List.take_length, List.reverse_reverse] at e
  refine (seq_nx (ρ' := [some (.tup ((fr.reverse).map fD)), some (.lst ((rowN fr).map cD)), x2, x3, x4, x5]) ?_).trans ?_
  · rw [for_ok (l := (fr.reverse).map fD)]
    · exact e
    · rfl
  · exact ret_ok rfl
end Lw
/-! Windows: the law. -/
namespace Lw
open PySem PySem.Spec PyProof.Rows L2 Dl
theorem pick2 (d : Int) : ixD (.lst [.str "over", .str "under"]) (.int (d % 2)) = some (fD (d % 2 == 0)) := by
  have : d % 2 = 0 ∨ d % 2 = 1 := by omega
  rcases this with h | h <;> rw [h] <;> rfl
theorem others_eq (l : List Bool) (hl : l.length ≤ 10000) : D__law_others [.tup (l.map cD)] = .ok (.tup ((l.map not).map cD)) := by
  simp (disch := (first | omega | (simp only [List.length_map, List.length_append, List.length_cons, List.length_nil, rngC_len, rng_len, List.length_range, List.length_reverse, List.length_take, List.length_drop, List.length_set, List.length_replicate] at *; omega))) only [e_v0, e_vS, e_vC, e_s0, e_sS, e_op, e_op1, e_op2, e_opx, e_opx2, e_some, e_1, e_11, e_t, e_t1, e_tx, e_tr, e_tr1, e_trx, e_trb, e_trn, e_nt, e_nt1, e_ntx, e_and, e_andt, e_andf, e_andx, e_or, e_ort, e_orf, e_orx, e_va, e_vat, e_vaf, e_vax, e_vo, e_vot, e_vof, e_vox, e_vi, e_vit, e_vif, e_vix, e_vl, e_vl1, e_an, e_ac, e_ac1, e_acx, e_ac2, e_acx2, e_tu, e_tu1, e_tux, e_ls, e_ls1, e_cb, e_cb1, e_cbx, e_ca, e_ca_0, e_ca_1, e_ca_2, e_ca_3, e_ca_4, e_ca_5, e_ca_6, e_cax, e_ch, e_ch1, e_ch2, e_ch3, e_ch4, e_sl, e_sl1, e_slt, e_sll, e_slf, e_st, e_st1, e_os, e_os1, e_on, e_ga, e_ga1, e_gs, e_gst, e_gsl, e_gsf, e_ge, e_get, e_r1, e_r1i, e_r2i, e_r3, e_lc, e_lc1, e_wp0, e_wp1, e_gn, e_gt, e_gl, e_gc, e_gc1, e_g0, e_seq, e_seqn, e_seqr, e_seqx, e_seqc, e_seqb, e_nop, e_brk, e_cnt, e_rai, e_asg, e_asg1, e_asgx, e_asgO, e_asgO1, e_asgT, e_asgT1, e_asgTx, e_tg, e_par, e_par1, e_par2, e_parO, e_parO1, e_drop, e_drop1, e_dropx, e_ret, e_ret1, e_retx, e_retN, e_if, e_ift, e_iff, e_ifx, e_aug, e_aug1, e_aug2, e_app, e_app1, e_ext, e_ext1, e_si, e_si1, e_si2, e_si3, e_pop, e_pop1, e_for, e_for1, e_whl, e_fl0, e_ft, e_fsn, e_fsc, e_fsb, e_fsr, e_fsx, e_wtt, e_wtf, e_wsn, e_wsc, e_wsb, e_wsr, e_wsx, e_try, e_tryn, e_tryr, e_tryc, e_try1, e_try1n, e_try1r, e_run, e_endn, e_endr, e_endx, e_sta1, e_sta2, e_sta3, l_eq, l_ne, l_eqbb, l_nebb, l_lt, l_le, l_gt, l_ge, l_add, l_addt, l_addl, l_sub, l_neg, l_mod, l_fdiv, l_mul, l_mul2, l_iadd, l_not, l_len1, l_len2, l_len3, l_int, l_intb, l_tup1, l_tup2, l_lst1, l_lst2, l_max, l_min, l_ixt0, l_ixt1, l_ixt2, l_ixtl, l_ixl0, l_ixl1, l_ixl2, l_ixll, l_isn_bl, l_inn_bl, l_ty_int_bl, l_ty_bool_bl, l_ty_str_bl, l_ty_tuple_bl, l_ty_list_bl, l_isn_int, l_inn_int, l_ty_int_int, l_ty_bool_int, l_ty_str_int, l_ty_tuple_int, l_ty_list_int, l_isn_str, l_inn_str, l_ty_int_str, l_ty_bool_str, l_ty_str_str, l_ty_tuple_str, l_ty_list_str, l_isn_tup, l_inn_tup, l_ty_int_tup, l_ty_bool_tup, l_ty_str_tup, l_ty_tuple_tup, l_ty_list_tup, l_isn_lst, l_inn_lst, l_ty_int_lst, l_ty_bool_lst, l_ty_str_lst, l_ty_tuple_lst, l_ty_list_lst, l_isn_non, l_inn_non, l_ty_int_non, l_ty_bool_non, l_ty_str_non, l_ty_tuple_non, l_ty_list_non, d_t, d_f, Bool.not_true, Bool.not_false, List.length_map, List.length_append, List.length_cons, List.length_nil, List.nil_append, List.cons_append, if_true, if_false, Bool.false_eq_true, ite_true, ite_false, List.map_cons, List.map_nil, beq_self_eq_true, reduceIte, Bool.true_and, Bool.and_true, Bool.false_and, Bool.and_false, Int.reduceAdd, Int.reduceSub, Int.reduceMul, Int.reduceNeg, Int.reduceMod, Int.reduceDiv, Int.reduceToNat, Nat.reduceAdd, Nat.reduceMul, Nat.reduceSub, Bool.or_true, Bool.true_or, Bool.or_false, Bool.false_or, Int.cast_ofNat_Int, decide_true, decide_false, D__law_others, F__law_others]
  generalize hL : lcL _ _ _ _ _ = r
  have := lcL_of' hL (fun b => cD !b) fun b _ => ⟨_, rfl, by simp (disch := (first | omega | (simp only [List.length_map, List.length_append, List.length_cons, List.length_nil, rngC_len, rng_len, List.length_range, List.length_reverse, List.length_take, List.length_drop, List.length_set, List.length_replicate] at *; omega))) only [e_v0, e_vS, e_vC, e_s0, e_sS, e_op, e_op1, e_op2, e_opx, e_opx2, e_some, e_1, e_11, e_t, e_t1, e_tx, e_tr, e_tr1, e_trx, e_trb, e_trn, e_nt, e_nt1, e_ntx, e_and, e_andt, e_andf, e_andx, e_or, e_ort, e_orf, e_orx, e_va, e_vat, e_vaf, e_vax, e_vo, e_vot, e_vof, e_vox, e_vi, e_vit, e_vif, e_vix, e_vl, e_vl1, e_an, e_ac, e_ac1, e_acx, e_ac2, e_acx2, e_tu, e_tu1, e_tux, e_ls, e_ls1, e_cb, e_cb1, e_cbx, e_ca, e_ca_0, e_ca_1, e_ca_2, e_ca_3, e_ca_4, e_ca_5, e_ca_6, e_cax, e_ch, e_ch1, e_ch2, e_ch3, e_ch4, e_sl, e_sl1, e_slt, e_sll, e_slf, e_st, e_st1, e_os, e_os1, e_on, e_ga, e_ga1, e_gs, e_gst, e_gsl, e_gsf, e_ge, e_get, e_r1, e_r1i, e_r2i, e_r3, e_lc, e_lc1, e_wp0, e_wp1, e_gn, e_gt, e_gl, e_gc, e_gc1, e_g0, e_seq, e_seqn, e_seqr, e_seqx, e_seqc, e_seqb, e_nop, e_brk, e_cnt, e_rai, e_asg, e_asg1, e_asgx, e_asgO, e_asgO1, e_asgT, e_asgT1, e_asgTx, e_tg, e_par, e_par1, e_par2, e_parO, e_parO1, e_drop, e_drop1, e_dropx, e_ret, e_ret1, e_retx, e_retN, e_if, e_ift, e_iff, e_ifx, e_aug, e_aug1, e_aug2, e_app, e_app1, e_ext, e_ext1, e_si, e_si1, e_si2, e_si3, e_pop, e_pop1, e_for, e_for1, e_whl, e_fl0, e_ft, e_fsn, e_fsc, e_fsb, e_fsr, e_fsx, e_wtt, e_wtf, e_wsn, e_wsc, e_wsb, e_wsr, e_wsx, e_try, e_tryn, e_tryr, e_tryc, e_try1, e_try1n, e_try1r, e_run, e_endn, e_endr, e_endx, e_sta1, e_sta2, e_sta3, l_eq, l_ne, l_eqbb, l_nebb, l_lt, l_le, l_gt, l_ge, l_add, l_addt, l_addl, l_sub, l_neg, l_mod, l_fdiv, l_mul, l_mul2, l_iadd, l_not, l_len1, l_len2, l_len3, l_int, l_intb, l_tup1, l_tup2, l_lst1, l_lst2, l_max, l_min, l_ixt0, l_ixt1, l_ixt2, l_ixtl, l_ixl0, l_ixl1, l_ixl2, l_ixll, l_isn_bl, l_inn_bl, l_ty_int_bl, l_ty_bool_bl, l_ty_str_bl, l_ty_tuple_bl, l_ty_list_bl, l_isn_int, l_inn_int, l_ty_int_int, l_ty_bool_int, l_ty_str_int, l_ty_tuple_int, l_ty_list_int, l_isn_str, l_inn_str, l_ty_int_str, l_ty_bool_str, l_ty_str_str, l_ty_tuple_str, l_ty_list_str, l_isn_tup, l_inn_tup, l_ty_int_tup, l_ty_bool_tup, l_ty_str_tup, l_ty_tuple_tup, l_ty_list_tup, l_isn_lst, l_inn_lst, l_ty_int_lst, l_ty_bool_lst, l_ty_str_lst, l_ty_tuple_lst, l_ty_list_lst, l_isn_non, l_inn_non, l_ty_int_non, l_ty_bool_non, l_ty_str_non, l_ty_tuple_non, l_ty_list_non, d_t, d_f, Bool.not_true, Bool.not_false, List.length_map, List.length_append, List.length_cons, List.length_nil, List.nil_append, List.cons_append, if_true, if_false, Bool.false_eq_true, ite_true, ite_false, List.map_cons, List.map_nil, beq_self_eq_true, reduceIte, Bool.true_and, Bool.and_true, Bool.false_and, Bool.and_false, Int.reduceAdd, Int.reduceSub, Int.reduceMul, Int.reduceNeg, Int.reduceMod, Int.reduceDiv, Int.reduceToNat, Nat.reduceAdd, Nat.reduceMul, Nat.reduceSub, Bool.or_true, Bool.true_or, Bool.or_false, Bool.false_or, Int.cast_ofNat_Int, decide_true, decide_false, fD_V, sign_of]⟩
  subst this
  simp (disch := (first | omega | (simp only [List.length_map, List.length_append, List.length_cons, List.length_nil, rngC_len, rng_len, List.length_range, List.length_reverse, List.length_take, List.length_drop, List.length_set, List.length_replicate] at *; omega))) only [e_v0, e_vS, e_vC, e_s0, e_sS, e_op, e_op1, e_op2, e_opx, e_opx2, e_some, e_1, e_11, e_t, e_t1, e_tx, e_tr, e_tr1, e_trx, e_trb, e_trn, e_nt, e_nt1, e_ntx, e_and, e_andt, e_andf, e_andx, e_or, e_ort, e_orf, e_orx, e_va, e_vat, e_vaf, e_vax, e_vo, e_vot, e_vof, e_vox, e_vi, e_vit, e_vif, e_vix, e_vl, e_vl1, e_an, e_ac, e_ac1, e_acx, e_ac2, e_acx2, e_tu, e_tu1, e_tux, e_ls, e_ls1, e_cb, e_cb1, e_cbx, e_ca, e_ca_0, e_ca_1, e_ca_2, e_ca_3, e_ca_4, e_ca_5, e_ca_6, e_cax, e_ch, e_ch1, e_ch2, e_ch3, e_ch4, e_sl, e_sl1, e_slt, e_sll, e_slf, e_st, e_st1, e_os, e_os1, e_on, e_ga, e_ga1, e_gs, e_gst, e_gsl, e_gsf, e_ge, e_get, e_r1, e_r1i, e_r2i, e_r3, e_lc, e_lc1, e_wp0, e_wp1, e_gn, e_gt, e_gl, e_gc, e_gc1, e_g0, e_seq, e_seqn, e_seqr, e_seqx, e_seqc, e_seqb, e_nop, e_brk, e_cnt, e_rai, e_asg, e_asg1, e_asgx, e_asgO, e_asgO1, e_asgT, e_asgT1, e_asgTx, e_tg, e_par, e_par1, e_par2, e_parO, e_parO1, e_drop, e_drop1, e_dropx, e_ret, e_ret1, e_retx, e_retN, e_if, e_ift, e_iff, e_ifx, e_aug, e_aug1, e_aug2, e_app, e_app1, e_ext, e_ext1, e_si, e_si1, e_si2, e_si3, e_pop, e_pop1, e_for, e_for1, e_whl, e_fl0, e_ft, e_fsn, e_fsc, e_fsb, e_fsr, e_fsx, e_wtt, e_wtf, e_wsn, e_wsc, e_wsb, e_wsr, e_wsx, e_try, e_tryn, e_tryr, e_tryc, e_try1, e_try1n, e_try1r, e_run, e_endn, e_endr, e_endx, e_sta1, e_sta2, e_sta3, l_eq, l_ne, l_eqbb, l_nebb, l_lt, l_le, l_gt, l_ge, l_add, l_addt, l_addl, l_sub, l_neg, l_mod, l_fdiv, l_mul, l_mul2, l_iadd, l_not, l_len1, l_len2, l_len3, l_int, l_intb, l_tup1, l_tup2, l_lst1, l_lst2, l_max, l_min, l_ixt0, l_ixt1, l_ixt2, l_ixtl, l_ixl0, l_ixl1, l_ixl2, l_ixll, l_isn_bl, l_inn_bl, l_ty_int_bl, l_ty_bool_bl, l_ty_str_bl, l_ty_tuple_bl, l_ty_list_bl, l_isn_int, l_inn_int, l_ty_int_int, l_ty_bool_int, l_ty_str_int, l_ty_tuple_int, l_ty_list_int, l_isn_str, l_inn_str, l_ty_int_str, l_ty_bool_str, l_ty_str_str, l_ty_tuple_str, l_ty_list_str, l_isn_tup, l_inn_tup, l_ty_int_tup, l_ty_bool_tup, l_ty_str_tup, l_ty_tuple_tup, l_ty_list_tup, l_isn_lst, l_inn_lst, l_ty_int_lst, l_ty_bool_lst, l_ty_str_lst, l_ty_tuple_lst, l_ty_list_lst, l_isn_non, l_inn_non, l_ty_int_non, l_ty_bool_non, l_ty_str_non, l_ty_tuple_non, l_ty_list_non, d_t, d_f, Bool.not_true, Bool.not_false, List.length_map, List.length_append, List.length_cons, List.length_nil, List.nil_append, List.cons_append, if_true, if_false, Bool.false_eq_true, ite_true, ite_false, List.map_cons, List.map_nil, beq_self_eq_true, reduceIte, Bool.true_and, Bool.and_true, Bool.false_and, Bool.and_false, Int.reduceAdd, Int.reduceSub, Int.reduceMul, Int.reduceNeg, Int.reduceMod, Int.reduceDiv, Int.reduceToNat, Nat.reduceAdd, Nat.reduceMul, Nat.reduceSub, Bool.or_true, Bool.true_or, Bool.or_false, Bool.false_or, Int.cast_ofNat_Int, decide_true, decide_false]
  rw [List.map_map]
  rfl
theorem cut_map {α β : Type} (f : α → β) (l : List α) (a b : Option Int) : Dl.cutD (l.map f) a b = (Dl.cutD l a b).map f := by
  unfold Dl.cutD
  rw [List.length_map, List.map_take, List.map_drop]
theorem cut_nn' {α : Type} (l : List α) {i j : Int} (h0 : 0 ≤ i) (hi : i ≤ l.length) (h1 : 0 ≤ j) (hj : j ≤ l.length) : Dl.cutD l (some i) (some j) = (l.drop i.toNat).take (j.toNat - i.toNat) := by
  have := cut_nn l (i := i.toNat) (j := j.toNat) (by omega) (by omega)
  rwa [Int.toNat_of_nonneg h0, Int.toNat_of_nonneg h1] at this
theorem cut_to' {α : Type} (l : List α) {j : Int} (h1 : 0 ≤ j) (hj : j ≤ l.length) : Dl.cutD l none (some j) = l.take j.toNat := by
  have := cut_nn' l (i := 0) (j := j) (by omega) (by omega) h1 hj
  exact this
theorem cut_from' {α : Type} (l : List α) {i : Int} (h0 : 0 ≤ i) (hi : i ≤ l.length) : Dl.cutD l (some i) none = l.drop i.toNat := by
  have := cut_from l (i := i.toNat) (by omega)
  rwa [Int.toNat_of_nonneg h0] at this
theorem rev_step (l : List Bool) (h : l.length ≤ 100000) : stepK none none (some (-1)) (.tup (l.map cD)) = some (.tup (l.reverse.map cD)) := by
  show (if (-1 : Int) ≠ 0 ∧ (-1 : Int) ≠ 1 ∧ (pickD (l.map cD) none none (-1)).length ≤ 10000000 then some (Dat.tup (pickD (l.map cD) none none (-1))) else none) = _
  rw [pick_rev, if_pos, List.map_reverse]
  exact ⟨by decide, by decide, by rw [List.length_reverse, List.length_map]; omega⟩
/-- the word of a row -/
def wordD (w : Bool) : Dat := .str (if w then "window" else "none")
theorem ne_word (a b : Bool) : neD (wordD a) (wordD b) = some (.bl (!(a == b))) := by cases a <;> cases b <;> kernel_rfl
theorem eq_wn (a : Bool) : eqD (wordD a) (.str "none") = some (.bl (!a)) := by cases a <;> kernel_rfl
theorem eq_ww (a : Bool) : eqD (wordD a) (.str "window") = some (.bl a) := by cases a <;> kernel_rfl
theorem ne_ww (a : Bool) : neD (wordD a) (.str "window") = some (.bl (!a)) := by cases a <;> kernel_rfl
theorem row_word (l : List Bool) (hl : l.length ≤ 200) : ∃ (w : Bool) (p : List Dat), (w = true ↔ Win l) ∧ D_window_of [.tup (l.map cD)] = .ok (.tup [wordD w, .tup p]) ∧ D__law_is_right [.tup (l.map cD), wordD w, .tup p] = .ok (.bl true) := by
  rcases window_of_eq l hl with ⟨w, p, h1, h2, h3⟩ | ⟨w, its, h1, h2⟩
  · exact ⟨true, pathD p, ⟨fun _ => w, fun _ => rfl⟩, h1, right_window l p hl h3 h2⟩
  · exact ⟨false, its, ⟨fun h => (by cases h), fun h => absurd h w⟩, h1, right_none l its hl h2⟩
def BT : DEnv → DFlow := (sSeq (sAsg 9 (vOp modD (vCB intD (aCons (vOp ixD (vVar 1) (vOp addD (vC (.int 11)) (vVar 8))) (aNil))) (vVar 3))) (sAsg 5 (vOp addD (vOp addD (vSl (vVar 5) (oNone) (oSome (vVar 9))) (vCall 1 D__law_others (aCons (vSl (vVar 5) (oSome (vVar 9)) (oSome (vOp addD (vVar 9) (vC (.int 1))))) (aNil)))) (vSl (vVar 5) (oSome (vOp addD (vVar 9) (vC (.int 1)))) (oNone)))))
theorem bt_turn (l : List Bool) {n : Nat} (hl : l.length = n) (hn : 1 ≤ n) (hn2 : n ≤ 200) {ds : List Int} (hd : ds.length = 30) (hb : Drawn ds) {k : Nat} (hk : k < 3) {a w at' wo pa x : Option Dat} :
    ∃ l' : List Bool, l'.length = n ∧ ∃ x', BT [a, some (.lst (ds.map .int)), w, some (.int n), at', some (.tup (l.map cD)), wo, pa, some (.int (0 + (k : Int))), x] = .nx [a, some (.lst (ds.map .int)), w, some (.int n), at', some (.tup (l'.map cD)), wo, pa, some (.int (0 + (k : Int))), x'] := by
  have hb' := drw_bd hb (11 + (0 + (k : Int))).toNat
  generalize hj : drw ds (11 + (0 + (k : Int))).toNat % (n : Int) = j
  have hj0 : 0 ≤ j := by rw [← hj]; exact Int.emod_nonneg _ (by omega)
  have hj1 : j < n := by rw [← hj]; exact Int.emod_lt_of_pos _ (by omega)
  refine ⟨l.take j.toNat ++ ((l.drop j.toNat).take ((j + 1).toNat - j.toNat)).map not ++ l.drop (j + 1).toNat, ?_, some (.int j), ?_⟩
  · rw [List.length_append, List.length_append, List.length_map, List.length_take, List.length_take, List.length_drop, List.length_drop]
    omega
  · have e1 := cut_to' l hj0 (by omega)
    have e2 := cut_nn' l (i := j) (j := j + 1) hj0 (by omega) (by omega) (by omega)
    have e3 := cut_from' l (i := j + 1) (by omega) (by omega)
    have e4 := others_eq ((l.drop j.toNat).take ((j + 1).toNat - j.toNat)) (by rw [List.length_take]; omega)
    unfold BT
    simp (disch := (first | omega | (simp only [List.length_map, List.length_append, List.length_cons, List.length_nil, rngC_len, rng_len, List.length_range, List.length_reverse, List.length_take, List.length_drop, List.length_set, List.length_replicate] at *; omega))) only [e_v0, e_vS, e_vC, e_s0, e_sS, e_op, e_op1, e_op2, e_opx, e_opx2, e_some, e_1, e_11, e_t, e_t1, e_tx, e_tr, e_tr1, e_trx, e_trb, e_trn, e_nt, e_nt1, e_ntx, e_and, e_andt, e_andf, e_andx, e_or, e_ort, e_orf, e_orx, e_va, e_vat, e_vaf, e_vax, e_vo, e_vot, e_vof, e_vox, e_vi, e_vit, e_vif, e_vix, e_vl, e_vl1, e_an, e_ac, e_ac1, e_acx, e_ac2, e_acx2, e_tu, e_tu1, e_tux, e_ls, e_ls1, e_cb, e_cb1, e_cbx, e_ca, e_ca_0, e_ca_1, e_ca_2, e_ca_3, e_ca_4, e_ca_5, e_ca_6, e_cax, e_ch, e_ch1, e_ch2, e_ch3, e_ch4, e_sl, e_sl1, e_slt, e_sll, e_slf, e_st, e_st1, e_os, e_os1, e_on, e_ga, e_ga1, e_gs, e_gst, e_gsl, e_gsf, e_ge, e_get, e_r1, e_r1i, e_r2i, e_r3, e_lc, e_lc1, e_wp0, e_wp1, e_gn, e_gt, e_gl, e_gc, e_gc1, e_g0, e_seq, e_seqn, e_seqr, e_seqx, e_seqc, e_seqb, e_nop, e_brk, e_cnt, e_rai, e_asg, e_asg1, e_asgx, e_asgO, e_asgO1, e_asgT, e_asgT1, e_asgTx, e_tg, e_par, e_par1, e_par2, e_parO, e_parO1, e_drop, e_drop1, e_dropx, e_ret, e_ret1, e_retx, e_retN, e_if, e_ift, e_iff, e_ifx, e_aug, e_aug1, e_aug2, e_app, e_app1, e_ext, e_ext1, e_si, e_si1, e_si2, e_si3, e_pop, e_pop1, e_for, e_for1, e_whl, e_fl0, e_ft, e_fsn, e_fsc, e_fsb, e_fsr, e_fsx, e_wtt, e_wtf, e_wsn, e_wsc, e_wsb, e_wsr, e_wsx, e_try, e_tryn, e_tryr, e_tryc, e_try1, e_try1n, e_try1r, e_run, e_endn, e_endr, e_endx, e_sta1, e_sta2, e_sta3, l_eq, l_ne, l_eqbb, l_nebb, l_lt, l_le, l_gt, l_ge, l_add, l_addt, l_addl, l_sub, l_neg, l_mod, l_fdiv, l_mul, l_mul2, l_iadd, l_not, l_len1, l_len2, l_len3, l_int, l_intb, l_tup1, l_tup2, l_lst1, l_lst2, l_max, l_min, l_ixt0, l_ixt1, l_ixt2, l_ixtl, l_ixl0, l_ixl1, l_ixl2, l_ixll, l_isn_bl, l_inn_bl, l_ty_int_bl, l_ty_bool_bl, l_ty_str_bl, l_ty_tuple_bl, l_ty_list_bl, l_isn_int, l_inn_int, l_ty_int_int, l_ty_bool_int, l_ty_str_int, l_ty_tuple_int, l_ty_list_int, l_isn_str, l_inn_str, l_ty_int_str, l_ty_bool_str, l_ty_str_str, l_ty_tuple_str, l_ty_list_str, l_isn_tup, l_inn_tup, l_ty_int_tup, l_ty_bool_tup, l_ty_str_tup, l_ty_tuple_tup, l_ty_list_tup, l_isn_lst, l_inn_lst, l_ty_int_lst, l_ty_bool_lst, l_ty_str_lst, l_ty_tuple_lst, l_ty_list_lst, l_isn_non, l_inn_non, l_ty_int_non, l_ty_bool_non, l_ty_str_non, l_ty_tuple_non, l_ty_list_non, d_t, d_f, Bool.not_true, Bool.not_false, List.length_map, List.length_append, List.length_cons, List.length_nil, List.nil_append, List.cons_append, if_true, if_false, Bool.false_eq_true, ite_true, ite_false, List.map_cons, List.map_nil, beq_self_eq_true, reduceIte, Bool.true_and, Bool.and_true, Bool.false_and, Bool.and_false, Int.reduceAdd, Int.reduceSub, Int.reduceMul, Int.reduceNeg, Int.reduceMod, Int.reduceDiv, Int.reduceToNat, Nat.reduceAdd, Nat.reduceMul, Nat.reduceSub, Bool.or_true, Bool.true_or, Bool.or_false, Bool.false_or, Int.cast_ofNat_Int, decide_true, decide_false, l_at, hj, cut_map, e1, e2, e3, e4]
    rw [List.map_append, List.map_append]
theorem cut_row (l : List Bool) {i j : Int} (h0 : 0 ≤ i) (h1 : i ≤ j) (h2 : j ≤ l.length) : Dl.cutD l (some i) (some j) = (l.drop i.toNat).take (j.toNat - i.toNat) := cut_nn' l h0 (by omega) (by omega) h2
theorem law_true : ∀ ns : List Int, ns.length ≤ 63 → D_law [.frz (ns.map .int)] = .ok (.bl true) := fun ns _ => by
  obtain ⟨ds, h1, hd, hb⟩ := draws_eq (m := 30) (by decide) ns
  have h1 : D__law_draws [.frz (ns.map .int), .int 30] = .ok (.lst (ds.map .int)) := h1
  simp (disch := (first | omega | (simp only [List.length_map, List.length_append, List.length_cons, List.length_nil, rngC_len, rng_len, List.length_range, List.length_reverse, List.length_take, List.length_drop, List.length_set, List.length_replicate] at *; omega))) only [e_v0, e_vS, e_vC, e_s0, e_sS, e_op, e_op1, e_op2, e_opx, e_opx2, e_some, e_1, e_11, e_t, e_t1, e_tx, e_tr, e_tr1, e_trx, e_trb, e_trn, e_nt, e_nt1, e_ntx, e_and, e_andt, e_andf, e_andx, e_or, e_ort, e_orf, e_orx, e_va, e_vat, e_vaf, e_vax, e_vo, e_vot, e_vof, e_vox, e_vi, e_vit, e_vif, e_vix, e_vl, e_vl1, e_an, e_ac, e_ac1, e_acx, e_ac2, e_acx2, e_tu, e_tu1, e_tux, e_ls, e_ls1, e_cb, e_cb1, e_cbx, e_ca, e_ca_0, e_ca_1, e_ca_2, e_ca_3, e_ca_4, e_ca_5, e_ca_6, e_cax, e_ch, e_ch1, e_ch2, e_ch3, e_ch4, e_sl, e_sl1, e_slt, e_sll, e_slf, e_st, e_st1, e_os, e_os1, e_on, e_ga, e_ga1, e_gs, e_gst, e_gsl, e_gsf, e_ge, e_get, e_r1, e_r1i, e_r2i, e_r3, e_lc, e_lc1, e_wp0, e_wp1, e_gn, e_gt, e_gl, e_gc, e_gc1, e_g0, e_seq, e_seqn, e_seqr, e_seqx, e_seqc, e_seqb, e_nop, e_brk, e_cnt, e_rai, e_asg, e_asg1, e_asgx, e_asgO, e_asgO1, e_asgT, e_asgT1, e_asgTx, e_tg, e_par, e_par1, e_par2, e_parO, e_parO1, e_drop, e_drop1, e_dropx, e_ret, e_ret1, e_retx, e_retN, e_if, e_ift, e_iff, e_ifx, e_aug, e_aug1, e_aug2, e_app, e_app1, e_ext, e_ext1, e_si, e_si1, e_si2, e_si3, e_pop, e_pop1, e_for, e_for1, e_whl, e_fl0, e_ft, e_fsn, e_fsc, e_fsb, e_fsr, e_fsx, e_wtt, e_wtf, e_wsn, e_wsc, e_wsb, e_wsr, e_wsx, e_try, e_tryn, e_tryr, e_tryc, e_try1, e_try1n, e_try1r, e_run, e_endn, e_endr, e_endx, e_sta1, e_sta2, e_sta3, l_eq, l_ne, l_eqbb, l_nebb, l_lt, l_le, l_gt, l_ge, l_add, l_addt, l_addl, l_sub, l_neg, l_mod, l_fdiv, l_mul, l_mul2, l_iadd, l_not, l_len1, l_len2, l_len3, l_int, l_intb, l_tup1, l_tup2, l_lst1, l_lst2, l_max, l_min, l_ixt0, l_ixt1, l_ixt2, l_ixtl, l_ixl0, l_ixl1, l_ixl2, l_ixll, l_isn_bl, l_inn_bl, l_ty_int_bl, l_ty_bool_bl, l_ty_str_bl, l_ty_tuple_bl, l_ty_list_bl, l_isn_int, l_inn_int, l_ty_int_int, l_ty_bool_int, l_ty_str_int, l_ty_tuple_int, l_ty_list_int, l_isn_str, l_inn_str, l_ty_int_str, l_ty_bool_str, l_ty_str_str, l_ty_tuple_str, l_ty_list_str, l_isn_tup, l_inn_tup, l_ty_int_tup, l_ty_bool_tup, l_ty_str_tup, l_ty_tuple_tup, l_ty_list_tup, l_isn_lst, l_inn_lst, l_ty_int_lst, l_ty_bool_lst, l_ty_str_lst, l_ty_tuple_lst, l_ty_list_lst, l_isn_non, l_inn_non, l_ty_int_non, l_ty_bool_non, l_ty_str_non, l_ty_tuple_non, l_ty_list_non, d_t, d_f, Bool.not_true, Bool.not_false, List.length_map, List.length_append, List.length_cons, List.length_nil, List.nil_append, List.cons_append, if_true, if_false, Bool.false_eq_true, ite_true, ite_false, List.map_cons, List.map_nil, beq_self_eq_true, reduceIte, Bool.true_and, Bool.and_true, Bool.false_and, Bool.and_false, Int.reduceAdd, Int.reduceSub, Int.reduceMul, Int.reduceNeg, Int.reduceMod, Int.reduceDiv, Int.reduceToNat, Nat.reduceAdd, Nat.reduceMul, Nat.reduceSub, Bool.or_true, Bool.true_or, Bool.or_false, Bool.false_or, Int.cast_ofNat_Int, decide_true, decide_false, D_law, F_law, h1]
  generalize hL : lcL _ _ _ _ _ = r
  have := lcL_of' hL (fun k => fD (drw ds (0 + (k : Int)).toNat / 3 % 2 == 0)) fun k hk => ⟨_, rfl, by
    rw [List.mem_range] at hk
    have := drw_bd hb (0 + (k : Int)).toNat
    simp (disch := (first | omega | (simp only [List.length_map, List.length_append, List.length_cons, List.length_nil, rngC_len, rng_len, List.length_range, List.length_reverse, List.length_take, List.length_drop, List.length_set, List.length_replicate] at *; omega))) only [e_v0, e_vS, e_vC, e_s0, e_sS, e_op, e_op1, e_op2, e_opx, e_opx2, e_some, e_1, e_11, e_t, e_t1, e_tx, e_tr, e_tr1, e_trx, e_trb, e_trn, e_nt, e_nt1, e_ntx, e_and, e_andt, e_andf, e_andx, e_or, e_ort, e_orf, e_orx, e_va, e_vat, e_vaf, e_vax, e_vo, e_vot, e_vof, e_vox, e_vi, e_vit, e_vif, e_vix, e_vl, e_vl1, e_an, e_ac, e_ac1, e_acx, e_ac2, e_acx2, e_tu, e_tu1, e_tux, e_ls, e_ls1, e_cb, e_cb1, e_cbx, e_ca, e_ca_0, e_ca_1, e_ca_2, e_ca_3, e_ca_4, e_ca_5, e_ca_6, e_cax, e_ch, e_ch1, e_ch2, e_ch3, e_ch4, e_sl, e_sl1, e_slt, e_sll, e_slf, e_st, e_st1, e_os, e_os1, e_on, e_ga, e_ga1, e_gs, e_gst, e_gsl, e_gsf, e_ge, e_get, e_r1, e_r1i, e_r2i, e_r3, e_lc, e_lc1, e_wp0, e_wp1, e_gn, e_gt, e_gl, e_gc, e_gc1, e_g0, e_seq, e_seqn, e_seqr, e_seqx, e_seqc, e_seqb, e_nop, e_brk, e_cnt, e_rai, e_asg, e_asg1, e_asgx, e_asgO, e_asgO1, e_asgT, e_asgT1, e_asgTx, e_tg, e_par, e_par1, e_par2, e_parO, e_parO1, e_drop, e_drop1, e_dropx, e_ret, e_ret1, e_retx, e_retN, e_if, e_ift, e_iff, e_ifx, e_aug, e_aug1, e_aug2, e_app, e_app1, e_ext, e_ext1, e_si, e_si1, e_si2, e_si3, e_pop, e_pop1, e_for, e_for1, e_whl, e_fl0, e_ft, e_fsn, e_fsc, e_fsb, e_fsr, e_fsx, e_wtt, e_wtf, e_wsn, e_wsc, e_wsb, e_wsr, e_wsx, e_try, e_tryn, e_tryr, e_tryc, e_try1, e_try1n, e_try1r, e_run, e_endn, e_endr, e_endx, e_sta1, e_sta2, e_sta3, l_eq, l_ne, l_eqbb, l_nebb, l_lt, l_le, l_gt, l_ge, l_add, l_addt, l_addl, l_sub, l_neg, l_mod, l_fdiv, l_mul, l_mul2, l_iadd, l_not, l_len1, l_len2, l_len3, l_int, l_intb, l_tup1, l_tup2, l_lst1, l_lst2, l_max, l_min, l_ixt0, l_ixt1, l_ixt2, l_ixtl, l_ixl0, l_ixl1, l_ixl2, l_ixll, l_isn_bl, l_inn_bl, l_ty_int_bl, l_ty_bool_bl, l_ty_str_bl, l_ty_tuple_bl, l_ty_list_bl, l_isn_int, l_inn_int, l_ty_int_int, l_ty_bool_int, l_ty_str_int, l_ty_tuple_int, l_ty_list_int, l_isn_str, l_inn_str, l_ty_int_str, l_ty_bool_str, l_ty_str_str, l_ty_tuple_str, l_ty_list_str, l_isn_tup, l_inn_tup, l_ty_int_tup, l_ty_bool_tup, l_ty_str_tup, l_ty_tuple_tup, l_ty_list_tup, l_isn_lst, l_inn_lst, l_ty_int_lst, l_ty_bool_lst, l_ty_str_lst, l_ty_tuple_lst, l_ty_list_lst, l_isn_non, l_inn_non, l_ty_int_non, l_ty_bool_non, l_ty_str_non, l_ty_tuple_non, l_ty_list_non, d_t, d_f, Bool.not_true, Bool.not_false, List.length_map, List.length_append, List.length_cons, List.length_nil, List.nil_append, List.cons_append, if_true, if_false, Bool.false_eq_true, ite_true, ite_false, List.map_cons, List.map_nil, beq_self_eq_true, reduceIte, Bool.true_and, Bool.and_true, Bool.false_and, Bool.and_false, Int.reduceAdd, Int.reduceSub, Int.reduceMul, Int.reduceNeg, Int.reduceMod, Int.reduceDiv, Int.reduceToNat, Nat.reduceAdd, Nat.reduceMul, Nat.reduceSub, Bool.or_true, Bool.true_or, Bool.or_false, Bool.false_or, Int.cast_ofNat_Int, decide_true, decide_false, l_at, pick2]⟩
  subst this
  have e8 := drw_bd hb 8
  have e9 := drw_bd hb 9
  have e10 := drw_bd hb 10
  generalize hfr : ((List.range 8).map fun k => drw ds (0 + ((k : Nat) : Int)).toNat / 3 % 2 == 0).reverse = fr
  have hfl : fr.length = 8 := by rw [← hfr, List.length_reverse, List.length_map, List.length_range]
  have hf : (List.range 8).map (fun k => fD (drw ds (0 + ((k : Nat) : Int)).toNat / 3 % 2 == 0)) = fr.reverse.map fD := by
    rw [← hfr, List.reverse_reverse, List.map_map]
    rfl
  have hrow := lawrow_eq fr (by omega)
  have hlen : (rowN fr).length = 255 := by rw [rowN_len, hfl]
  obtain ⟨n, hn⟩ : ∃ n : Nat, 20 + drw ds 8 % 181 = n := ⟨(20 + drw ds 8 % 181).toNat, by omega⟩
  have hn1 : 20 ≤ n := by omega
  have hn2 : n ≤ 200 := by omega
  simp (disch := (first | omega | (simp only [List.length_map, List.length_append, List.length_cons, List.length_nil, rngC_len, rng_len, List.length_range, List.length_reverse, List.length_take, List.length_drop, List.length_set, List.length_replicate] at *; omega))) only [e_v0, e_vS, e_vC, e_s0, e_sS, e_op, e_op1, e_op2, e_opx, e_opx2, e_some, e_1, e_11, e_t, e_t1, e_tx, e_tr, e_tr1, e_trx, e_trb, e_trn, e_nt, e_nt1, e_ntx, e_and, e_andt, e_andf, e_andx, e_or, e_ort, e_orf, e_orx, e_va, e_vat, e_vaf, e_vax, e_vo, e_vot, e_vof, e_vox, e_vi, e_vit, e_vif, e_vix, e_vl, e_vl1, e_an, e_ac, e_ac1, e_acx, e_ac2, e_acx2, e_tu, e_tu1, e_tux, e_ls, e_ls1, e_cb, e_cb1, e_cbx, e_ca, e_ca_0, e_ca_1, e_ca_2, e_ca_3, e_ca_4, e_ca_5, e_ca_6, e_cax, e_ch, e_ch1, e_ch2, e_ch3, e_ch4, e_sl, e_sl1, e_slt, e_sll, e_slf, e_st, e_st1, e_os, e_os1, e_on, e_ga, e_ga1, e_gs, e_gst, e_gsl, e_gsf, e_ge, e_get, e_r1, e_r1i, e_r2i, e_r3, e_lc, e_lc1, e_wp0, e_wp1, e_gn, e_gt, e_gl, e_gc, e_gc1, e_g0, e_seq, e_seqn, e_seqr, e_seqx, e_seqc, e_seqb, e_nop, e_brk, e_cnt, e_rai, e_asg, e_asg1, e_asgx, e_asgO, e_asgO1, e_asgT, e_asgT1, e_asgTx, e_tg, e_par, e_par1, e_par2, e_parO, e_parO1, e_drop, e_drop1, e_dropx, e_ret, e_ret1, e_retx, e_retN, e_if, e_ift, e_iff, e_ifx, e_aug, e_aug1, e_aug2, e_app, e_app1, e_ext, e_ext1, e_si, e_si1, e_si2, e_si3, e_pop, e_pop1, e_for, e_for1, e_whl, e_fl0, e_ft, e_fsn, e_fsc, e_fsb, e_fsr, e_fsx, e_wtt, e_wtf, e_wsn, e_wsc, e_wsb, e_wsr, e_wsx, e_try, e_tryn, e_tryr, e_tryc, e_try1, e_try1n, e_try1r, e_run, e_endn, e_endr, e_endx, e_sta1, e_sta2, e_sta3, l_eq, l_ne, l_eqbb, l_nebb, l_lt, l_le, l_gt, l_ge, l_add, l_addt, l_addl, l_sub, l_neg, l_mod, l_fdiv, l_mul, l_mul2, l_iadd, l_not, l_len1, l_len2, l_len3, l_int, l_intb, l_tup1, l_tup2, l_lst1, l_lst2, l_max, l_min, l_ixt0, l_ixt1, l_ixt2, l_ixtl, l_ixl0, l_ixl1, l_ixl2, l_ixll, l_isn_bl, l_inn_bl, l_ty_int_bl, l_ty_bool_bl, l_ty_str_bl, l_ty_tuple_bl, l_ty_list_bl, l_isn_int, l_inn_int, l_ty_int_int, l_ty_bool_int, l_ty_str_int, l_ty_tuple_int, l_ty_list_int, l_isn_str, l_inn_str, l_ty_int_str, l_ty_bool_str, l_ty_str_str, l_ty_tuple_str, l_ty_list_str, l_isn_tup, l_inn_tup, l_ty_int_tup, l_ty_bool_tup, l_ty_str_tup, l_ty_tuple_tup, l_ty_list_tup, l_isn_lst, l_inn_lst, l_ty_int_lst, l_ty_bool_lst, l_ty_str_lst, l_ty_tuple_lst, l_ty_list_lst, l_isn_non, l_inn_non, l_ty_int_non, l_ty_bool_non, l_ty_str_non, l_ty_tuple_non, l_ty_list_non, d_t, d_f, Bool.not_true, Bool.not_false, List.length_map, List.length_append, List.length_cons, List.length_nil, List.nil_append, List.cons_append, if_true, if_false, Bool.false_eq_true, ite_true, ite_false, List.map_cons, List.map_nil, beq_self_eq_true, reduceIte, Bool.true_and, Bool.and_true, Bool.false_and, Bool.and_false, Int.reduceAdd, Int.reduceSub, Int.reduceMul, Int.reduceNeg, Int.reduceMod, Int.reduceDiv, Int.reduceToNat, Nat.reduceAdd, Nat.reduceMul, Nat.reduceSub, Bool.or_true, Bool.true_or, Bool.or_false, Bool.false_or, Int.cast_ofNat_Int, decide_true, decide_false, hf, hrow, l_at, hn, hlen, cut_map]
  generalize hat : drw ds 9 % (255 - (n : Int) + 1) = at'
  have ha0 : 0 ≤ at' := by rw [← hat]; exact Int.emod_nonneg _ (by omega)
  have ha1 : at' < 255 - (n : Int) + 1 := by rw [← hat]; exact Int.emod_lt_of_pos _ (by omega)
  have hcut := cut_row (rowN fr) (i := at') (j := at' + n) ha0 (by omega) (by rw [hlen]; omega)
  generalize hl0 : ((rowN fr).drop at'.toNat).take ((at' + n).toNat - at'.toNat) = l0 at hcut
  have hl0n : l0.length = n := by rw [← hl0, List.length_take, List.length_drop, hlen]; omega
  have hwin : Win l0 := by rw [← hl0]; exact ((row_win fr).drop _).take _
  obtain ⟨w0, p0, a1, a2, a3⟩ := row_word l0 (by omega)
  have hw0 : w0 = true := a1.mpr hwin
  subst hw0
  simp (disch := (first | omega | (simp only [List.length_map, List.length_append, List.length_cons, List.length_nil, rngC_len, rng_len, List.length_range, List.length_reverse, List.length_take, List.length_drop, List.length_set, List.length_replicate] at *; omega))) only [e_v0, e_vS, e_vC, e_s0, e_sS, e_op, e_op1, e_op2, e_opx, e_opx2, e_some, e_1, e_11, e_t, e_t1, e_tx, e_tr, e_tr1, e_trx, e_trb, e_trn, e_nt, e_nt1, e_ntx, e_and, e_andt, e_andf, e_andx, e_or, e_ort, e_orf, e_orx, e_va, e_vat, e_vaf, e_vax, e_vo, e_vot, e_vof, e_vox, e_vi, e_vit, e_vif, e_vix, e_vl, e_vl1, e_an, e_ac, e_ac1, e_acx, e_ac2, e_acx2, e_tu, e_tu1, e_tux, e_ls, e_ls1, e_cb, e_cb1, e_cbx, e_ca, e_ca_0, e_ca_1, e_ca_2, e_ca_3, e_ca_4, e_ca_5, e_ca_6, e_cax, e_ch, e_ch1, e_ch2, e_ch3, e_ch4, e_sl, e_sl1, e_slt, e_sll, e_slf, e_st, e_st1, e_os, e_os1, e_on, e_ga, e_ga1, e_gs, e_gst, e_gsl, e_gsf, e_ge, e_get, e_r1, e_r1i, e_r2i, e_r3, e_lc, e_lc1, e_wp0, e_wp1, e_gn, e_gt, e_gl, e_gc, e_gc1, e_g0, e_seq, e_seqn, e_seqr, e_seqx, e_seqc, e_seqb, e_nop, e_brk, e_cnt, e_rai, e_asg, e_asg1, e_asgx, e_asgO, e_asgO1, e_asgT, e_asgT1, e_asgTx, e_tg, e_par, e_par1, e_par2, e_parO, e_parO1, e_drop, e_drop1, e_dropx, e_ret, e_ret1, e_retx, e_retN, e_if, e_ift, e_iff, e_ifx, e_aug, e_aug1, e_aug2, e_app, e_app1, e_ext, e_ext1, e_si, e_si1, e_si2, e_si3, e_pop, e_pop1, e_for, e_for1, e_whl, e_fl0, e_ft, e_fsn, e_fsc, e_fsb, e_fsr, e_fsx, e_wtt, e_wtf, e_wsn, e_wsc, e_wsb, e_wsr, e_wsx, e_try, e_tryn, e_tryr, e_tryc, e_try1, e_try1n, e_try1r, e_run, e_endn, e_endr, e_endx, e_sta1, e_sta2, e_sta3, l_eq, l_ne, l_eqbb, l_nebb, l_lt, l_le, l_gt, l_ge, l_add, l_addt, l_addl, l_sub, l_neg, l_mod, l_fdiv, l_mul, l_mul2, l_iadd, l_not, l_len1, l_len2, l_len3, l_int, l_intb, l_tup1, l_tup2, l_lst1, l_lst2, l_max, l_min, l_ixt0, l_ixt1, l_ixt2, l_ixtl, l_ixl0, l_ixl1, l_ixl2, l_ixll, l_isn_bl, l_inn_bl, l_ty_int_bl, l_ty_bool_bl, l_ty_str_bl, l_ty_tuple_bl, l_ty_list_bl, l_isn_int, l_inn_int, l_ty_int_int, l_ty_bool_int, l_ty_str_int, l_ty_tuple_int, l_ty_list_int, l_isn_str, l_inn_str, l_ty_int_str, l_ty_bool_str, l_ty_str_str, l_ty_tuple_str, l_ty_list_str, l_isn_tup, l_inn_tup, l_ty_int_tup, l_ty_bool_tup, l_ty_str_tup, l_ty_tuple_tup, l_ty_list_tup, l_isn_lst, l_inn_lst, l_ty_int_lst, l_ty_bool_lst, l_ty_str_lst, l_ty_tuple_lst, l_ty_list_lst, l_isn_non, l_inn_non, l_ty_int_non, l_ty_bool_non, l_ty_str_non, l_ty_tuple_non, l_ty_list_non, d_t, d_f, Bool.not_true, Bool.not_false, List.length_map, List.length_append, List.length_cons, List.length_nil, List.nil_append, List.cons_append, if_true, if_false, Bool.false_eq_true, ite_true, ite_false, List.map_cons, List.map_nil, beq_self_eq_true, reduceIte, Bool.true_and, Bool.and_true, Bool.false_and, Bool.and_false, Int.reduceAdd, Int.reduceSub, Int.reduceMul, Int.reduceNeg, Int.reduceMod, Int.reduceDiv, Int.reduceToNat, Nat.reduceAdd, Nat.reduceMul, Nat.reduceSub, Bool.or_true, Bool.true_or, Bool.or_false, Bool.false_or, Int.cast_ofNat_Int, decide_true, decide_false, hcut, a2, a3, ne_ww, l_at]
  generalize hF : forL _ _ _ _ = r
  obtain ⟨ρ', rfl, l1, x, y, hl1, rfl⟩ := forL_inv' hF (fun _ ρ => ∃ (l1 : List Bool) (x y : Option Dat), l1.length = n ∧ ρ = [some (.frz (ns.map .int)), some (.lst (ds.map .int)), some (.tup ((rowN fr).map cD)), some (.int n), some (.int at'), some (.tup (l1.map cD)), some (wordD true), some (.tup p0), x, y]) ⟨l0, none, none, hl0n, rfl⟩ fun k d ρ hk hp => by
    obtain ⟨l1, x, y, hl1, rfl⟩ := hp
    obtain ⟨hk', rfl⟩ := rng_get hk
    obtain ⟨l', hl', x', e⟩ := bt_turn l1 hl1 (by omega) hn2 hd hb (k := k) (by omega) (a := some (.frz (ns.map .int))) (w := some (.tup ((rowN fr).map cD))) (at' := some (.int at')) (wo := some (wordD true)) (pa := some (.tup p0)) (x := y)
    exact ⟨_, _, rfl, .inl e, l', _, x', hl', rfl⟩
  obtain ⟨w1, p1, b1, b2, b3⟩ := row_word l1 (by omega)
  obtain ⟨w2, p2, c1, c2, c3⟩ := row_word (l1.map not) (by rw [List.length_map]; omega)
  obtain ⟨w3, p3, d1, d2, d3⟩ := row_word (l1.reverse.map not) (by rw [List.length_map, List.length_reverse]; omega)
  obtain ⟨w4, p4, f1, f2, f3⟩ := row_word (l1.take (n / 2)) (by rw [List.length_take]; omega)
  have g2 : w2 = w1 := by rw [Bool.eq_iff_iff, c1, b1, win_not]
  have g3 : w3 = w1 := by rw [Bool.eq_iff_iff, d1, b1, win_not, win_rev]
  subst g2
  subst g3
  have o1 := others_eq l1 (by omega)
  have o2 := others_eq l1.reverse (by rw [List.length_reverse]; omega)
  have o3 := rev_step l1 (by omega)
  have o4 := cut_to' l1 (j := (n : Int) / 2) (by omega) (by omega)
  rw [show ((n : Int) / 2).toNat = n / 2 by omega] at o4
  cases w3 with
  | false => simp (disch := (first | omega | (simp only [List.length_map, List.length_append, List.length_cons, List.length_nil, rngC_len, rng_len, List.length_range, List.length_reverse, List.length_take, List.length_drop, List.length_set, List.length_replicate] at *; omega))) only [e_v0, e_vS, e_vC, e_s0, e_sS, e_op, e_op1, e_op2, e_opx, e_opx2, e_some, e_1, e_11, e_t, e_t1, e_tx, e_tr, e_tr1, e_trx, e_trb, e_trn, e_nt, e_nt1, e_ntx, e_and, e_andt, e_andf, e_andx, e_or, e_ort, e_orf, e_orx, e_va, e_vat, e_vaf, e_vax, e_vo, e_vot, e_vof, e_vox, e_vi, e_vit, e_vif, e_vix, e_vl, e_vl1, e_an, e_ac, e_ac1, e_acx, e_ac2, e_acx2, e_tu, e_tu1, e_tux, e_ls, e_ls1, e_cb, e_cb1, e_cbx, e_ca, e_ca_0, e_ca_1, e_ca_2, e_ca_3, e_ca_4, e_ca_5, e_ca_6, e_cax, e_ch, e_ch1, e_ch2, e_ch3, e_ch4, e_sl, e_sl1, e_slt, e_sll, e_slf, e_st, e_st1, e_os, e_os1, e_on, e_ga, e_ga1, e_gs, e_gst, e_gsl, e_gsf, e_ge, e_get, e_r1, e_r1i, e_r2i, e_r3, e_lc, e_lc1, e_wp0, e_wp1, e_gn, e_gt, e_gl, e_gc, e_gc1, e_g0, e_seq, e_seqn, e_seqr, e_seqx, e_seqc, e_seqb, e_nop, e_brk, e_cnt, e_rai, e_asg, e_asg1, e_asgx, e_asgO, e_asgO1, e_asgT, e_asgT1, e_asgTx, e_tg, e_par, e_par1, e_par2, e_parO, e_parO1, e_drop, e_drop1, e_dropx, e_ret, e_ret1, e_retx, e_retN, e_if, e_ift, e_iff, e_ifx, e_aug, e_aug1, e_aug2, e_app, e_app1, e_ext, e_ext1, e_si, e_si1, e_si2, e_si3, e_pop, e_pop1, e_for, e_for1, e_whl, e_fl0, e_ft, e_fsn, e_fsc, e_fsb, e_fsr, e_fsx, e_wtt, e_wtf, e_wsn, e_wsc, e_wsb, e_wsr, e_wsx, e_try, e_tryn, e_tryr, e_tryc, e_try1, e_try1n, e_try1r, e_run, e_endn, e_endr, e_endx, e_sta1, e_sta2, e_sta3, l_eq, l_ne, l_eqbb, l_nebb, l_lt, l_le, l_gt, l_ge, l_add, l_addt, l_addl, l_sub, l_neg, l_mod, l_fdiv, l_mul, l_mul2, l_iadd, l_not, l_len1, l_len2, l_len3, l_int, l_intb, l_tup1, l_tup2, l_lst1, l_lst2, l_max, l_min, l_ixt0, l_ixt1, l_ixt2, l_ixtl, l_ixl0, l_ixl1, l_ixl2, l_ixll, l_isn_bl, l_inn_bl, l_ty_int_bl, l_ty_bool_bl, l_ty_str_bl, l_ty_tuple_bl, l_ty_list_bl, l_isn_int, l_inn_int, l_ty_int_int, l_ty_bool_int, l_ty_str_int, l_ty_tuple_int, l_ty_list_int, l_isn_str, l_inn_str, l_ty_int_str, l_ty_bool_str, l_ty_str_str, l_ty_tuple_str, l_ty_list_str, l_isn_tup, l_inn_tup, l_ty_int_tup, l_ty_bool_tup, l_ty_str_tup, l_ty_tuple_tup, l_ty_list_tup, l_isn_lst, l_inn_lst, l_ty_int_lst, l_ty_bool_lst, l_ty_str_lst, l_ty_tuple_lst, l_ty_list_lst, l_isn_non, l_inn_non, l_ty_int_non, l_ty_bool_non, l_ty_str_non, l_ty_tuple_non, l_ty_list_non, d_t, d_f, Bool.not_true, Bool.not_false, List.length_map, List.length_append, List.length_cons, List.length_nil, List.nil_append, List.cons_append, if_true, if_false, Bool.false_eq_true, ite_true, ite_false, List.map_cons, List.map_nil, beq_self_eq_true, reduceIte, Bool.true_and, Bool.and_true, Bool.false_and, Bool.and_false, Int.reduceAdd, Int.reduceSub, Int.reduceMul, Int.reduceNeg, Int.reduceMod, Int.reduceDiv, Int.reduceToNat, Nat.reduceAdd, Nat.reduceMul, Nat.reduceSub, Bool.or_true, Bool.true_or, Bool.or_false, Bool.false_or, Int.cast_ofNat_Int, decide_true, decide_false, b2, b3, o1, o2, o3, c2, d2, ne_word, eq_wn]
  | true =>
    have g4 : w4 = true := f1.mpr ((b1.mp rfl).take _)
    subst g4
    simp (disch := (first | omega | (simp only [List.length_map, List.length_append, List.length_cons, List.length_nil, rngC_len, rng_len, List.length_range, List.length_reverse, List.length_take, List.length_drop, List.length_set, List.length_replicate] at *; omega))) only [e_v0, e_vS, e_vC, e_s0, e_sS, e_op, e_op1, e_op2, e_opx, e_opx2, e_some, e_1, e_11, e_t, e_t1, e_tx, e_tr, e_tr1, e_trx, e_trb, e_trn, e_nt, e_nt1, e_ntx, e_and, e_andt, e_andf, e_andx, e_or, e_ort, e_orf, e_orx, e_va, e_vat, e_vaf, e_vax, e_vo, e_vot, e_vof, e_vox, e_vi, e_vit, e_vif, e_vix, e_vl, e_vl1, e_an, e_ac, e_ac1, e_acx, e_ac2, e_acx2, e_tu, e_tu1, e_tux, e_ls, e_ls1, e_cb, e_cb1, e_cbx, e_ca, e_ca_0, e_ca_1, e_ca_2, e_ca_3, e_ca_4, e_ca_5, e_ca_6, e_cax, e_ch, e_ch1, e_ch2, e_ch3, e_ch4, e_sl, e_sl1, e_slt, e_sll, e_slf, e_st, e_st1, e_os, e_os1, e_on, e_ga, e_ga1, e_gs, e_gst, e_gsl, e_gsf, e_ge, e_get, e_r1, e_r1i, e_r2i, e_r3, e_lc, e_lc1, e_wp0, e_wp1, e_gn, e_gt, e_gl, e_gc, e_gc1, e_g0, e_seq, e_seqn, e_seqr, e_seqx, e_seqc, e_seqb, e_nop, e_brk, e_cnt, e_rai, e_asg, e_asg1, e_asgx, e_asgO, e_asgO1, e_asgT, e_asgT1, e_asgTx, e_tg, e_par, e_par1, e_par2, e_parO, e_parO1, e_drop, e_drop1, e_dropx, e_ret, e_ret1, e_retx, e_retN, e_if, e_ift, e_iff, e_ifx, e_aug, e_aug1, e_aug2, e_app, e_app1, e_ext, e_ext1, e_si, e_si1, e_si2, e_si3, e_pop, e_pop1, e_for, e_for1, e_whl, e_fl0, e_ft, e_fsn, e_fsc, e_fsb, e_fsr, e_fsx, e_wtt, e_wtf, e_wsn, e_wsc, e_wsb, e_wsr, e_wsx, e_try, e_tryn, e_tryr, e_tryc, e_try1, e_try1n, e_try1r, e_run, e_endn, e_endr, e_endx, e_sta1, e_sta2, e_sta3, l_eq, l_ne, l_eqbb, l_nebb, l_lt, l_le, l_gt, l_ge, l_add, l_addt, l_addl, l_sub, l_neg, l_mod, l_fdiv, l_mul, l_mul2, l_iadd, l_not, l_len1, l_len2, l_len3, l_int, l_intb, l_tup1, l_tup2, l_lst1, l_lst2, l_max, l_min, l_ixt0, l_ixt1, l_ixt2, l_ixtl, l_ixl0, l_ixl1, l_ixl2, l_ixll, l_isn_bl, l_inn_bl, l_ty_int_bl, l_ty_bool_bl, l_ty_str_bl, l_ty_tuple_bl, l_ty_list_bl, l_isn_int, l_inn_int, l_ty_int_int, l_ty_bool_int, l_ty_str_int, l_ty_tuple_int, l_ty_list_int, l_isn_str, l_inn_str, l_ty_int_str, l_ty_bool_str, l_ty_str_str, l_ty_tuple_str, l_ty_list_str, l_isn_tup, l_inn_tup, l_ty_int_tup, l_ty_bool_tup, l_ty_str_tup, l_ty_tuple_tup, l_ty_list_tup, l_isn_lst, l_inn_lst, l_ty_int_lst, l_ty_bool_lst, l_ty_str_lst, l_ty_tuple_lst, l_ty_list_lst, l_isn_non, l_inn_non, l_ty_int_non, l_ty_bool_non, l_ty_str_non, l_ty_tuple_non, l_ty_list_non, d_t, d_f, Bool.not_true, Bool.not_false, List.length_map, List.length_append, List.length_cons, List.length_nil, List.nil_append, List.cons_append, if_true, if_false, Bool.false_eq_true, ite_true, ite_false, List.map_cons, List.map_nil, beq_self_eq_true, reduceIte, Bool.true_and, Bool.and_true, Bool.false_and, Bool.and_false, Int.reduceAdd, Int.reduceSub, Int.reduceMul, Int.reduceNeg, Int.reduceMod, Int.reduceDiv, Int.reduceToNat, Nat.reduceAdd, Nat.reduceMul, Nat.reduceSub, Bool.or_true, Bool.true_or, Bool.or_false, Bool.false_or, Int.cast_ofNat_Int, decide_true, decide_false, b2, b3, o1, o2, o3, o4, c2, d2, f2, ne_word, eq_wn, eq_ww, cut_map]
end Lw
namespace Lw
open PySem PySem.Spec PyProof.Rows L2 Dl
theorem all_mk {l : PySem.W.OpenLaw} {w : World} {K : PySem.W.Frag} {h : Heap} {mg : Str → Option Value} {fa : Addr} (law_true : ∀ ns : List Int, ns.length ≤ 63 → D_law [.frz (ns.map .int)] = .ok (.bl true)) (X : K.In h) (G : h.Ns mainGlobals mg) (hfa : mg "law" = some (.ref fa))
    {f0 f1 f2 f3 f4 f5 f6 f7 f8 f9 f10 f11 f12 f13 f14 C_BadRow : Addr} {od0 an0 od1 an1 od2 an2 od3 an3 od4 an4 od5 an5 od6 an6 od7 an7 od8 an8 od9 an9 od10 an10 od11 an11 od12 an12 od13 an13 od14 an14 : Option Addr} {sl0 sl1 sl2 sl3 sl4 sl5 sl6 sl7 sl8 sl9 sl10 sl11 sl12 sl13 sl14 : Array (Option Value)} {oc0 kV0 dc0 pm0 cd0 ct0 oc1 kV1 dc1 pm1 cd1 ct1 oc2 kV2 dc2 pm2 cd2 ct2 oc3 kV3 dc3 pm3 cd3 ct3 oc4 kV4 dc4 pm4 cd4 ct4 oc5 kV5 dc5 pm5 cd5 ct5 oc6 kV6 dc6 pm6 cd6 ct6 oc7 kV7 dc7 pm7 cd7 ct7 oc8 kV8 dc8 pm8 cd8 ct8 oc9 kV9 dc9 pm9 cd9 ct9 oc10 kV10 dc10 pm10 cd10 ct10 oc11 kV11 dc11 pm11 cd11 ct11 oc12 kV12 dc12 pm12 cd12 ct12 oc13 kV13 dc13 pm13 cd13 ct13 oc14 kV14 dc14 pm14 cd14 ct14 : Value}
    {tk_MOUNTAIN tk_VALLEY tk_MOST_ROW : Tok}
    (a0 : PySem.W.nsIn K mainGlobals "is_whole" = some (some (.ref f0)))
    (l0 : K.lookup f0 = some ⟨oc0, od0, .func (PySem.W.fnOf "is_whole" "is_whole" (defArgs s_is_whole) (defBody s_is_whole) (defScope s_is_whole) .none kV0 dc0 pm0 an0 cd0 ct0), sl0⟩)
    (c0 : PySem.W.codeIn K cd0 "is_whole" = true)
    (k0 : PySem.W.keepIn K (.ref f0) = true)
    (a1 : PySem.W.nsIn K mainGlobals "are_creases" = some (some (.ref f1)))
    (l1 : K.lookup f1 = some ⟨oc1, od1, .func (PySem.W.fnOf "are_creases" "are_creases" (defArgs s_are_creases) (defBody s_are_creases) (defScope s_are_creases) .none kV1 dc1 pm1 an1 cd1 ct1), sl1⟩)
    (c1 : PySem.W.codeIn K cd1 "are_creases" = true)
    (k1 : PySem.W.keepIn K (.ref f1) = true)
    (a2 : PySem.W.nsIn K mainGlobals "_check_row" = some (some (.ref f2)))
    (l2 : K.lookup f2 = some ⟨oc2, od2, .func (PySem.W.fnOf "_check_row" "_check_row" (defArgs s__check_row) (defBody s__check_row) (defScope s__check_row) .none kV2 dc2 pm2 an2 cd2 ct2), sl2⟩)
    (c2 : PySem.W.codeIn K cd2 "_check_row" = true)
    (k2 : PySem.W.keepIn K (.ref f2) = true)
    (a3 : PySem.W.nsIn K mainGlobals "_clash" = some (some (.ref f3)))
    (l3 : K.lookup f3 = some ⟨oc3, od3, .func (PySem.W.fnOf "_clash" "_clash" (defArgs s__clash) (defBody s__clash) (defScope s__clash) .none kV3 dc3 pm3 an3 cd3 ct3), sl3⟩)
    (c3 : PySem.W.codeIn K cd3 "_clash" = true)
    (k3 : PySem.W.keepIn K (.ref f3) = true)
    (a4 : PySem.W.nsIn K mainGlobals "_searched" = some (some (.ref f4)))
    (l4 : K.lookup f4 = some ⟨oc4, od4, .func (PySem.W.fnOf "_searched" "_searched" (defArgs s__searched) (defBody s__searched) (defScope s__searched) .none kV4 dc4 pm4 an4 cd4 ct4), sl4⟩)
    (c4 : PySem.W.codeIn K cd4 "_searched" = true)
    (k4 : PySem.W.keepIn K (.ref f4) = true)
    (a5 : PySem.W.nsIn K mainGlobals "window_of" = some (some (.ref f5)))
    (l5 : K.lookup f5 = some ⟨oc5, od5, .func (PySem.W.fnOf "window_of" "window_of" (defArgs s_window_of) (defBody s_window_of) (defScope s_window_of) .none kV5 dc5 pm5 an5 cd5 ct5), sl5⟩)
    (c5 : PySem.W.codeIn K cd5 "window_of" = true)
    (k5 : PySem.W.keepIn K (.ref f5) = true)
    (a6 : PySem.W.nsIn K mainGlobals "window_fault" = some (some (.ref f6)))
    (l6 : K.lookup f6 = some ⟨oc6, od6, .func (PySem.W.fnOf "window_fault" "window_fault" (defArgs s_window_fault) (defBody s_window_fault) (defScope s_window_fault) .none kV6 dc6 pm6 an6 cd6 ct6), sl6⟩)
    (c6 : PySem.W.codeIn K cd6 "window_fault" = true)
    (k6 : PySem.W.keepIn K (.ref f6) = true)
    (a7 : PySem.W.nsIn K mainGlobals "none_fault" = some (some (.ref f7)))
    (l7 : K.lookup f7 = some ⟨oc7, od7, .func (PySem.W.fnOf "none_fault" "none_fault" (defArgs s_none_fault) (defBody s_none_fault) (defScope s_none_fault) .none kV7 dc7 pm7 an7 cd7 ct7), sl7⟩)
    (c7 : PySem.W.codeIn K cd7 "none_fault" = true)
    (k7 : PySem.W.keepIn K (.ref f7) = true)
    (a8 : PySem.W.nsIn K mainGlobals "_law_draws" = some (some (.ref f8)))
    (l8 : K.lookup f8 = some ⟨oc8, od8, .func (PySem.W.fnOf "_law_draws" "_law_draws" (defArgs s__law_draws) (defBody s__law_draws) (defScope s__law_draws) .none kV8 dc8 pm8 an8 cd8 ct8), sl8⟩)
    (c8 : PySem.W.codeIn K cd8 "_law_draws" = true)
    (k8 : PySem.W.keepIn K (.ref f8) = true)
    (a9 : PySem.W.nsIn K mainGlobals "_law_folds" = some (some (.ref f9)))
    (l9 : K.lookup f9 = some ⟨oc9, od9, .func (PySem.W.fnOf "_law_folds" "_law_folds" (defArgs s__law_folds) (defBody s__law_folds) (defScope s__law_folds) .none kV9 dc9 pm9 an9 cd9 ct9), sl9⟩)
    (c9 : PySem.W.codeIn K cd9 "_law_folds" = true)
    (k9 : PySem.W.keepIn K (.ref f9) = true)
    (a10 : PySem.W.nsIn K mainGlobals "_law_row" = some (some (.ref f10)))
    (l10 : K.lookup f10 = some ⟨oc10, od10, .func (PySem.W.fnOf "_law_row" "_law_row" (defArgs s__law_row) (defBody s__law_row) (defScope s__law_row) .none kV10 dc10 pm10 an10 cd10 ct10), sl10⟩)
    (c10 : PySem.W.codeIn K cd10 "_law_row" = true)
    (k10 : PySem.W.keepIn K (.ref f10) = true)
    (a11 : PySem.W.nsIn K mainGlobals "_law_is_none" = some (some (.ref f11)))
    (l11 : K.lookup f11 = some ⟨oc11, od11, .func (PySem.W.fnOf "_law_is_none" "_law_is_none" (defArgs s__law_is_none) (defBody s__law_is_none) (defScope s__law_is_none) .none kV11 dc11 pm11 an11 cd11 ct11), sl11⟩)
    (c11 : PySem.W.codeIn K cd11 "_law_is_none" = true)
    (k11 : PySem.W.keepIn K (.ref f11) = true)
    (a12 : PySem.W.nsIn K mainGlobals "_law_is_right" = some (some (.ref f12)))
    (l12 : K.lookup f12 = some ⟨oc12, od12, .func (PySem.W.fnOf "_law_is_right" "_law_is_right" (defArgs s__law_is_right) (defBody s__law_is_right) (defScope s__law_is_right) .none kV12 dc12 pm12 an12 cd12 ct12), sl12⟩)
    (c12 : PySem.W.codeIn K cd12 "_law_is_right" = true)
    (k12 : PySem.W.keepIn K (.ref f12) = true)
    (a13 : PySem.W.nsIn K mainGlobals "_law_others" = some (some (.ref f13)))
    (l13 : K.lookup f13 = some ⟨oc13, od13, .func (PySem.W.fnOf "_law_others" "_law_others" (defArgs s__law_others) (defBody s__law_others) (defScope s__law_others) .none kV13 dc13 pm13 an13 cd13 ct13), sl13⟩)
    (c13 : PySem.W.codeIn K cd13 "_law_others" = true)
    (k13 : PySem.W.keepIn K (.ref f13) = true)
    (a14 : PySem.W.nsIn K mainGlobals "law" = some (some (.ref f14)))
    (l14 : K.lookup f14 = some ⟨oc14, od14, .func (PySem.W.fnOf "law" "law" (defArgs s_law) (defBody s_law) (defScope s_law) .none kV14 dc14 pm14 an14 cd14 ct14), sl14⟩)
    (c14 : PySem.W.codeIn K cd14 "law" = true)
    (k14 : PySem.W.keepIn K (.ref f14) = true)
    (ea_BadRow : PySem.W.nsIn K mainGlobals "BadRow" = some (some (.ref C_BadRow)))
    (ek_BadRow : PySem.W.keepIn K (.ref C_BadRow) = true)
    (ex_BadRow : PySem.W.excIn K C_BadRow [.type "ValueError", .type "Exception", .type "BaseException", .type "object"] "ValueError.__new__" = true)
    (eb_BadRow : PySem.W.subIn K (.ref C_BadRow) (.type "BaseException") = some true)
    (et_BadRow : PySem.W.typeIn K (.ref C_BadRow) = some (.type "type"))
    (z_abs : PySem.W.nsIn K mainGlobals "abs" = some none)
    (z_all : PySem.W.nsIn K mainGlobals "all" = some none)
    (z_bool : PySem.W.nsIn K mainGlobals "bool" = some none)
    (z_enumerate : PySem.W.nsIn K mainGlobals "enumerate" = some none)
    (z_int : PySem.W.nsIn K mainGlobals "int" = some none)
    (z_isinstance : PySem.W.nsIn K mainGlobals "isinstance" = some none)
    (z_len : PySem.W.nsIn K mainGlobals "len" = some none)
    (z_range : PySem.W.nsIn K mainGlobals "range" = some none)
    (z_str : PySem.W.nsIn K mainGlobals "str" = some none)
    (z_tuple : PySem.W.nsIn K mainGlobals "tuple" = some none)
    (g_MOUNTAIN : PySem.W.nsIn K mainGlobals "MOUNTAIN" = some (some (.str "M" tk_MOUNTAIN)))
    (g_VALLEY : PySem.W.nsIn K mainGlobals "VALLEY" = some (some (.str "V" tk_VALLEY)))
    (g_MOST_ROW : PySem.W.nsIn K mainGlobals "MOST_ROW" = some (some (.int 200 tk_MOST_ROW)))
    : ∃ fd : FuncData, (∀ (s : Shared) (u : Value), BindsTo s fd ⟨[u], []⟩ [("script", u)]) ∧ ∀ base : Heap, K.In base → base.Ns mainGlobals mg → FnOk l.prog w K mg base (L2.CX l.prog w) 44 fa fd ["script"] (spLaw K) := by
  have e := hfa.symm.trans (PySem.W.mg_of X G a14)
  cases e
  let T : CT := ⟨fun c => 0, fun c => [], fun c => [Value.ref C_BadRow, Value.ref C_BadRow].getD c (.ref C_BadRow)⟩
  have tx : Txt K mg T w :=
    { b_abs := PySem.W.mg_none_of X G z_abs,
      b_all := PySem.W.mg_none_of X G z_all,
      b_bool := PySem.W.mg_none_of X G z_bool,
      b_enumerate := PySem.W.mg_none_of X G z_enumerate,
      b_int := PySem.W.mg_none_of X G z_int,
      b_isinstance := PySem.W.mg_none_of X G z_isinstance,
      b_len := PySem.W.mg_none_of X G z_len,
      b_range := PySem.W.mg_none_of X G z_range,
      b_str := PySem.W.mg_none_of X G z_str,
      b_tuple := PySem.W.mg_none_of X G z_tuple,
      g_MOUNTAIN := GC.str (PySem.W.mg_of X G g_MOUNTAIN),
      g_VALLEY := GC.str (PySem.W.mg_of X G g_VALLEY),
      g_MOST_ROW := GC.int (PySem.W.mg_of X G g_MOST_ROW),
      e_BadRow := ⟨C_BadRow, rfl, PySem.W.mg_of X G ea_BadRow, ek_BadRow, ex_BadRow, eb_BadRow, et_BadRow⟩ }
  have F0 := fun_mk (st := s_is_whole) l0 c0 k0
  have F1 := fun_mk (st := s_are_creases) l1 c1 k1
  have F2 := fun_mk (st := s__check_row) l2 c2 k2
  have F3 := fun_mk (st := s__clash) l3 c3 k3
  have F4 := fun_mk (st := s__searched) l4 c4 k4
  have F5 := fun_mk (st := s_window_of) l5 c5 k5
  have F6 := fun_mk (st := s_window_fault) l6 c6 k6
  have F7 := fun_mk (st := s_none_fault) l7 c7 k7
  have F8 := fun_mk (st := s__law_draws) l8 c8 k8
  have F9 := fun_mk (st := s__law_folds) l9 c9 k9
  have F10 := fun_mk (st := s__law_row) l10 c10 k10
  have F11 := fun_mk (st := s__law_is_none) l11 c11 k11
  have F12 := fun_mk (st := s__law_is_right) l12 c12 k12
  have F13 := fun_mk (st := s__law_others) l13 c13 k13
  have F14 := fun_mk (st := s_law) l14 c14 k14
  have b0 := F0.binds (ps := ["value", "least", "most"]) fun _ _ _ _ _ _ us hl => match us, hl with | [_, _, _], _ => rfl
  have b1 := F1.binds (ps := ["row"]) fun _ _ _ _ _ _ us hl => match us, hl with | [_], _ => rfl
  have b2 := F2.binds (ps := ["row"]) fun _ _ _ _ _ _ us hl => match us, hl with | [_], _ => rfl
  have b3 := F3.binds (ps := ["row", "beginning"]) fun _ _ _ _ _ _ us hl => match us, hl with | [_, _], _ => rfl
  have b4 := F4.binds (ps := ["row"]) fun _ _ _ _ _ _ us hl => match us, hl with | [_], _ => rfl
  have b5 := F5.binds (ps := ["row"]) fun _ _ _ _ _ _ us hl => match us, hl with | [_], _ => rfl
  have b6 := F6.binds (ps := ["row", "beginnings"]) fun _ _ _ _ _ _ us hl => match us, hl with | [_, _], _ => rfl
  have b7 := F7.binds (ps := ["row", "paper"]) fun _ _ _ _ _ _ us hl => match us, hl with | [_, _], _ => rfl
  have b8 := F8.binds (ps := ["script", "many"]) fun _ _ _ _ _ _ us hl => match us, hl with | [_, _], _ => rfl
  have b9 := F9.binds (ps := ["draws", "most"]) fun _ _ _ _ _ _ us hl => match us, hl with | [_, _], _ => rfl
  have b10 := F10.binds (ps := ["folds"]) fun _ _ _ _ _ _ us hl => match us, hl with | [_], _ => rfl
  have b11 := F11.binds (ps := ["row", "paper"]) fun _ _ _ _ _ _ us hl => match us, hl with | [_, _], _ => rfl
  have b12 := F12.binds (ps := ["row", "word", "paper"]) fun _ _ _ _ _ _ us hl => match us, hl with | [_, _, _], _ => rfl
  have b13 := F13.binds (ps := ["row"]) fun _ _ _ _ _ _ us hl => match us, hl with | [_], _ => rfl
  have b14 := F14.binds (ps := ["script"]) fun _ _ _ _ _ _ us hl => match us, hl with | [_], _ => rfl
  refine ⟨PySem.W.fnOf "law" "law" (defArgs s_law) (defBody s_law) (defScope s_law) .none kV14 dc14 pm14 an14 cd14 ct14, fun s v => .of_eq rfl, fun base _ _ => ?_⟩
  have h_is_whole : FnD l.prog w K mg base T 1 "is_whole" 3 D_is_whole := FnD.mk' (PySem.W.mg_of X G a0) F0 b0 (ok_is_whole tx F0)
  have h_are_creases : FnD l.prog w K mg base T 1 "are_creases" 1 D_are_creases := FnD.mk' (PySem.W.mg_of X G a1) F1 b1 (ok_are_creases tx F1)
  have h__check_row : FnD l.prog w K mg base T 2 "_check_row" 1 D__check_row := FnD.mk' (PySem.W.mg_of X G a2) F2 b2 (ok__check_row tx h_are_creases F2)
  have h__clash : FnD l.prog w K mg base T 1 "_clash" 2 D__clash := FnD.mk' (PySem.W.mg_of X G a3) F3 b3 (ok__clash tx F3)
  have h__searched : FnD l.prog w K mg base T 42 "_searched" 1 D__searched := rec_D (L := 2) (PySem.W.mg_of X G a4) F4 b4 rfl rfl (fun m c => ok__searched tx h__clash m c F4) 40
  have h_window_of : FnD l.prog w K mg base T 43 "window_of" 1 D_window_of := FnD.mk' (PySem.W.mg_of X G a5) F5 b5 (ok_window_of tx h__check_row h__searched F5)
  have h_window_fault : FnD l.prog w K mg base T 3 "window_fault" 2 D_window_fault := FnD.mk' (PySem.W.mg_of X G a6) F6 b6 (ok_window_fault tx h__check_row h__clash h_is_whole F6)
  have h_none_fault : FnD l.prog w K mg base T 3 "none_fault" 2 D_none_fault := FnD.mk' (PySem.W.mg_of X G a7) F7 b7 (ok_none_fault tx h__check_row h_is_whole F7)
  have h__law_draws : FnD l.prog w K mg base T 1 "_law_draws" 2 D__law_draws := FnD.mk' (PySem.W.mg_of X G a8) F8 b8 (ok__law_draws tx F8)
  have h__law_folds : FnD l.prog w K mg base T 1 "_law_folds" 2 D__law_folds := FnD.mk' (PySem.W.mg_of X G a9) F9 b9 (ok__law_folds tx F9)
  have h__law_row : FnD l.prog w K mg base T 1 "_law_row" 1 D__law_row := FnD.mk' (PySem.W.mg_of X G a10) F10 b10 (ok__law_row tx F10)
  have h__law_is_none : FnD l.prog w K mg base T 41 "_law_is_none" 2 D__law_is_none := rec_D (L := 1) (PySem.W.mg_of X G a11) F11 b11 rfl rfl (fun m c => ok__law_is_none tx m c F11) 40
  have h__law_is_right : FnD l.prog w K mg base T 42 "_law_is_right" 3 D__law_is_right := FnD.mk' (PySem.W.mg_of X G a12) F12 b12 (ok__law_is_right tx h__law_is_none h_none_fault h_window_fault F12)
  have h__law_others : FnD l.prog w K mg base T 1 "_law_others" 1 D__law_others := FnD.mk' (PySem.W.mg_of X G a13) F13 b13 (ok__law_others tx F13)
  exact law_imp (ok_law tx h__law_draws h__law_is_right h__law_others h__law_row h_window_of F14) law_true
end Lw
open PySem PySem.W PyProof.Rows
set_option maxRecDepth 100000 in
set_option maxHeartbeats 0 in
theorem PySem.Challenge.cw_creasewrit_k57_whole_long_windows_holds : PySem.Challenge.rw_creasewrit_k57_whole_long_windows.Holds := by
  w_on; o_law; k_head; (case hw => w_witness2)
  k_fill
  refine Dl.walk_law (l := PySem.Challenge.rw_creasewrit_k57_whole_long_windows) (k := 44) rfl rfl ⟨rfl, by decide, by decide⟩ (fun w h Y => PySem.W.kIn_of Y) ?F
  case F =>
    intro w mg fa h KX G hmg
    refine' Lw.all_mk Lw.law_true KX G hmg ?a0 ?l0 ?c0 ?k0 ?a1 ?l1 ?c1 ?k1 ?a2 ?l2 ?c2 ?k2 ?a3 ?l3 ?c3 ?k3 ?a4 ?l4 ?c4 ?k4 ?a5 ?l5 ?c5 ?k5 ?a6 ?l6 ?c6 ?k6 ?a7 ?l7 ?c7 ?k7 ?a8 ?l8 ?c8 ?k8 ?a9 ?l9 ?c9 ?k9 ?a10 ?l10 ?c10 ?k10 ?a11 ?l11 ?c11 ?k11 ?a12 ?l12 ?c12 ?k12 ?a13 ?l13 ?c13 ?k13 ?a14 ?l14 ?c14 ?k14 ?ea_BadRow ?ek_BadRow ?ex_BadRow ?eb_BadRow ?et_BadRow ?z_abs ?z_all ?z_bool ?z_enumerate ?z_int ?z_isinstance ?z_len ?z_range ?z_str ?z_tuple ?g_MOUNTAIN ?g_VALLEY ?g_MOST_ROW
    (case a0 => k_is)
    (case l0 => k_is)
    (case c0 => k_is)
    (case k0 => k_is)
    (case a1 => k_is)
    (case l1 => k_is)
    (case c1 => k_is)
    (case k1 => k_is)
    (case a2 => k_is)
    (case l2 => k_is)
    (case c2 => k_is)
    (case k2 => k_is)
    (case a3 => k_is)
    (case l3 => k_is)
    (case c3 => k_is)
    (case k3 => k_is)
    (case a4 => k_is)
    (case l4 => k_is)
    (case c4 => k_is)
    (case k4 => k_is)
    (case a5 => k_is)
    (case l5 => k_is)
    (case c5 => k_is)
    (case k5 => k_is)
    (case a6 => k_is)
    (case l6 => k_is)
    (case c6 => k_is)
    (case k6 => k_is)
    (case a7 => k_is)
    (case l7 => k_is)
    (case c7 => k_is)
    (case k7 => k_is)
    (case a8 => k_is)
    (case l8 => k_is)
    (case c8 => k_is)
    (case k8 => k_is)
    (case a9 => k_is)
    (case l9 => k_is)
    (case c9 => k_is)
    (case k9 => k_is)
    (case a10 => k_is)
    (case l10 => k_is)
    (case c10 => k_is)
    (case k10 => k_is)
    (case a11 => k_is)
    (case l11 => k_is)
    (case c11 => k_is)
    (case k11 => k_is)
    (case a12 => k_is)
    (case l12 => k_is)
    (case c12 => k_is)
    (case k12 => k_is)
    (case a13 => k_is)
    (case l13 => k_is)
    (case c13 => k_is)
    (case k13 => k_is)
    (case a14 => k_is)
    (case l14 => k_is)
    (case c14 => k_is)
    (case k14 => k_is)
    (case ea_BadRow => k_is)
    (case ek_BadRow => k_is)
    (case ex_BadRow => k_exc)
    (case eb_BadRow => k_is)
    (case et_BadRow => k_is)
    (case z_abs => k_is)
    (case z_all => k_is)
    (case z_bool => k_is)
    (case z_enumerate => k_is)
    (case z_int => k_is)
    (case z_isinstance => k_is)
    (case z_len => k_is)
    (case z_range => k_is)
    (case z_str => k_is)
    (case z_tuple => k_is)
    (case g_MOUNTAIN => k_is)
    (case g_VALLEY => k_is)
    (case g_MOST_ROW => k_is)
#print axioms PySem.Challenge.cw_creasewrit_k57_whole_long_windows_holds
