import PyProof.Rows.All
import Wide.All
import OpenK.AllK
import Wide.FinOn
import HandS.ForMost
import HandS.Exc
import HandS.TryOnly
import HandS.ExcOwn
import HandS.WordsExc
import HandS.Walk
import HandS.Wide
import HandS.TupAny
import HandS.TupMul
import HandS.TupLe
import HandS.Flow
import HandS.Deep
import HandS.IsInst
import HandS.Style
import HandS.Conv
import HandS.SortInts
import HandS.CallSlots
import HandS.Codes
import HandS.WideMore
import HandS.More
import HandS.TryMany
import HandS.Replace
import HandS.Text
import HandS.ExcIs
import PySem.Challenge.RW_creasewrit_k54_rows_of_halves
set_option Elab.async false
set_option linter.all false
set_option maxRecDepth 100000
set_option maxHeartbeats 4000000
/-! The D layer, part 1: pure data, how values bear it, environments, judgements. -/
namespace Dl
open PySem PySem.Spec PyProof.Rows L2

/-! ### data -/
inductive Dat where
  | non | bl (b : Bool) | int (i : Int) | str (s : Str)
  | tup (l : List Dat) | lst (l : List Dat) | frz (l : List Dat) | obj (c : Nat) (l : List Dat)
inductive Res (α : Type) where
  | ok (a : α) | exc (c : Nat) | stuck
def Res.bind {α β : Type} : Res α → (α → Res β) → Res β
  | .ok a, k => k a
  | .exc c, _ => .exc c
  | .stuck, _ => .stuck
def ofO {α : Type} : Option α → Res α
  | some a => .ok a
  | none => .stuck
abbrev Sg := L2.St
abbrev DEnv := List (Option Dat)
/-- classes of objects, their attributes in order; classes of exceptions -/
structure CT where
  addr : Nat → Addr
  names : Nat → List Str
  exc : Nat → Value

/-! ### heaps -/
def Ex (H H' : Hp) : Prop := ∀ a o, H a = some o → H' a = some o
theorem Ex.refl (H : Hp) : Ex H H := fun _ _ h => h
theorem Ex.trans {H H1 H2 : Hp} (a : Ex H H1) (b : Ex H1 H2) : Ex H H2 := fun x o h => b x o (a x o h)
theorem Ex.new {H : Hp} {p : Addr} {o : HO} (h : H p = none) : Ex H (upd H p o) := fun a u e => by
  rw [upd_ne (ne_of_none e h)]
  exact e
theorem Ex.fresh {H H' : Hp} {p : Addr} (e : Ex H H') (h : H' p = none) : H p = none := by
  cases h1 : H p with
  | none => rfl
  | some o =>
    rw [e p o h1] at h
    cases h
def hide (H : Hp) (S : List Addr) : Hp := fun a => if a ∈ S then none else H a
theorem hide_ex {H : Hp} {S : List Addr} : Ex (hide H S) H := fun a o h => by
  unfold hide at h
  split at h
  · cases h
  · exact h
theorem hide_get {H : Hp} {S : List Addr} {a : Addr} {o : HO} (h : H a = some o) (n : a ∉ S) : hide H S a = some o := by
  unfold hide
  rw [if_neg n]
  exact h
theorem hide_mono {H H' : Hp} {S : List Addr} (e : Ex H H') : Ex (hide H S) (hide H' S) := fun a o h => by
  unfold hide at h ⊢
  split at h
  · cases h
  · rename_i n
    rw [if_neg n]
    exact e a o h
theorem hide_sub {H : Hp} {S S' : List Addr} (h : ∀ p ∈ S, p ∈ S') : Ex (hide H S') (hide H S) := fun a o e => by
  unfold hide at e ⊢
  split at e
  · cases e
  · rename_i n
    rw [if_neg fun z => n (h a z)]
    exact e
theorem hide_upd {H : Hp} {S : List Addr} {p : Addr} {o : HO} (h : p ∈ S) : hide (upd H p o) S = hide H S := by
  funext a
  unfold hide
  by_cases z : a ∈ S
  · rw [if_pos z, if_pos z]
  · rw [if_neg z, if_neg z, upd_ne fun e => z (by rw [e]; exact h)]
/-- one more is hidden that was not there -/
theorem hide_new {H H' : Hp} {S : List Addr} {p : Addr} (e : Ex H H') (h : H p = none) : Ex (hide H S) (hide H' (p :: S)) := fun a o q => by
  have n : a ∉ S := fun z => by
    unfold hide at q
    rw [if_pos z] at q
    cases q
  have q' := hide_ex a o q
  refine hide_get (e a o q') ?_
  intro z
  rcases List.mem_cons.mp z with z | z
  · exact ne_of_none q' h z
  · exact n z
theorem ex_rd {H H' : Hp} {a : Addr} {u : HO} (e : Ex H H') (h : Rd H a u) : Rd H' a u := by
  rcases h with h | ⟨o, h⟩
  · exact Or.inl (e a _ h)
  · exact Or.inr ⟨o, e a _ h⟩
theorem ex_l {K : PySem.W.Frag} {H H' : Hp} {a : Addr} {xs : List V} (e : Ex H H') (h : SqL K H a xs) : SqL K H' a xs := by
  rcases h with h | h
  · exact Or.inl (ex_rd e h)
  · exact Or.inr h
theorem ex_t {K : PySem.W.Frag} {H H' : Hp} {a : Addr} {xs : List V} (e : Ex H H') (h : SqT K H a xs) : SqT K H' a xs := by
  rcases h with h | h
  · exact Or.inl (ex_rd e h)
  · exact Or.inr h

/-! ### values that bear data -/
mutual
inductive Rep (K : PySem.W.Frag) (T : CT) (H : Hp) : V → Dat → Prop
  | non : Rep K T H .non .non
  | bl (b : Bool) : Rep K T H (.bl b) (.bl b)
  | int (i : Int) : Rep K T H (.int i) (.int i)
  | str (x : Str) : Rep K T H (.str x) (.str x)
  | tup {a : Addr} {vs : List V} {ds : List Dat} : SqT K H a vs → Reps K T H vs ds → Rep K T H (.ref a) (.tup ds)
  | lst {a : Addr} {vs : List V} {ds : List Dat} : H a = some (.lst vs) → Reps K T H vs ds → Rep K T H (.ref a) (.lst ds)
  | frz {a : Addr} {vs : List V} {ds : List Dat} : SqL K H a vs → Reps K T H vs ds → Rep K T H (.ref a) (.frz ds)
  | obj {a dx : Addr} {c : Nat} {fs : List (Str × V)} {ds : List Dat} : H a = some (.ins (T.addr c) dx fs) → fs.map (·.1) = T.names c → Reps K T H (fs.map (·.2)) ds → Rep K T H (.ref a) (.obj c ds)
inductive Reps (K : PySem.W.Frag) (T : CT) (H : Hp) : List V → List Dat → Prop
  | nil : Reps K T H [] []
  | cons {v : V} {vs : List V} {d : Dat} {ds : List Dat} : Rep K T H v d → Reps K T H vs ds → Reps K T H (v :: vs) (d :: ds)
end
section
variable {K : PySem.W.Frag} {T : CT} {H H' : Hp}
mutual
theorem Rep.mono (e : Ex H H') : ∀ {v : V} {d : Dat}, Rep K T H v d → Rep K T H' v d
  | _, _, .non => .non
  | _, _, .bl b => .bl b
  | _, _, .int i => .int i
  | _, _, .str x => .str x
  | _, _, .tup h r => .tup (ex_t e h) (Reps.mono e r)
  | _, _, .lst h r => .lst (e _ _ h) (Reps.mono e r)
  | _, _, .frz h r => .frz (ex_l e h) (Reps.mono e r)
  | _, _, .obj h n r => .obj (e _ _ h) n (Reps.mono e r)
theorem Reps.mono (e : Ex H H') : ∀ {vs : List V} {ds : List Dat}, Reps K T H vs ds → Reps K T H' vs ds
  | _, _, .nil => .nil
  | _, _, .cons h r => .cons (Rep.mono e h) (Reps.mono e r)
end
theorem Reps.length : ∀ {vs : List V} {ds : List Dat}, Reps K T H vs ds → vs.length = ds.length
  | _, _, .nil => rfl
  | _, _, .cons _ r => by simp [Reps.length r]
theorem Reps.get : ∀ {vs : List V} {ds : List Dat} {i : Nat} {d : Dat}, Reps K T H vs ds → ds[i]? = some d → ∃ v, vs[i]? = some v ∧ Rep K T H v d
  | _, _, _, _, .nil, e => by simp at e
  | _, _, 0, _, .cons h _, e => by
    simp at e
    subst e
    exact ⟨_, rfl, h⟩
  | _, _, i + 1, _, .cons _ r, e => by
    obtain ⟨v, h1, h2⟩ := Reps.get (i := i) r (by simpa using e)
    exact ⟨v, by simpa using h1, h2⟩
theorem Reps.getV : ∀ {vs : List V} {ds : List Dat} {i : Nat} {v : V}, Reps K T H vs ds → vs[i]? = some v → ∃ d, ds[i]? = some d ∧ Rep K T H v d
  | _, _, _, _, .nil, e => by simp at e
  | _, _, 0, _, .cons h _, e => by
    simp at e
    subst e
    exact ⟨_, rfl, h⟩
  | _, _, i + 1, _, .cons _ r, e => by
    obtain ⟨v, h1, h2⟩ := Reps.getV (i := i) r (by simpa using e)
    exact ⟨v, by simpa using h1, h2⟩
theorem Reps.append : ∀ {vs ws : List V} {ds es : List Dat}, Reps K T H vs ds → Reps K T H ws es → Reps K T H (vs ++ ws) (ds ++ es)
  | _, _, _, _, .nil, s => s
  | _, _, _, _, .cons h r, s => .cons h (Reps.append r s)
theorem Reps.take : ∀ {vs : List V} {ds : List Dat} (n : Nat), Reps K T H vs ds → Reps K T H (vs.take n) (ds.take n)
  | _, _, 0, _ => .nil
  | _, _, _ + 1, .nil => .nil
  | _, _, n + 1, .cons h r => .cons h (Reps.take n r)
theorem Reps.drop : ∀ {vs : List V} {ds : List Dat} (n : Nat), Reps K T H vs ds → Reps K T H (vs.drop n) (ds.drop n)
  | _, _, 0, r => r
  | _, _, _ + 1, .nil => .nil
  | _, _, n + 1, .cons _ r => Reps.drop n r
theorem Reps.set {v : V} {d : Dat} (h : Rep K T H v d) : ∀ {vs : List V} {ds : List Dat} (i : Nat), Reps K T H vs ds → Reps K T H (vs.set i v) (ds.set i d)
  | _, _, _, .nil => .nil
  | _, _, 0, .cons _ r => .cons h r
  | _, _, i + 1, .cons q r => .cons q (Reps.set h i r)
theorem Reps.reverse : ∀ {vs : List V} {ds : List Dat}, Reps K T H vs ds → Reps K T H vs.reverse ds.reverse
  | _, _, .nil => .nil
  | _, _, .cons h r => by
    rw [List.reverse_cons, List.reverse_cons]
    exact Reps.append (Reps.reverse r) (.cons h .nil)
theorem Reps.flatten_replicate {vs : List V} {ds : List Dat} (r : Reps K T H vs ds) : ∀ n : Nat, Reps K T H (List.replicate n vs).flatten (List.replicate n ds).flatten
  | 0 => .nil
  | n + 1 => by
    rw [List.replicate_succ, List.replicate_succ, List.flatten_cons, List.flatten_cons]
    exact Reps.append r (Reps.flatten_replicate r n)
theorem Reps.one {v : V} {d : Dat} (h : Rep K T H v d) : Reps K T H [v] [d] := .cons h .nil

/-! ### what may change: hidden -/
def mutO : HO → Bool
  | .lst _ => true
  | .ins _ _ _ => true
  | .dK _ => true
  | .dT _ => true
  | .set _ _ => true
  | _ => false
def Hid (H : Hp) (S : List Addr) : Prop := ∀ p ∈ S, ∃ o, H p = some o ∧ mutO o = true
theorem Hid.mono {S : List Addr} (h : Hid H S) (e : Ex H H') : Hid H' S := fun p hp => let ⟨o, a, b⟩ := h p hp; ⟨o, e p o a, b⟩
theorem Hid.not {S : List Addr} {p : Addr} (h : Hid H S) (n : H p = none) : p ∉ S := fun z => by
  obtain ⟨o, a, _⟩ := h p z
  rw [n] at a
  cases a
theorem Hid.notTup {S : List Addr} {p : Addr} {xs : List V} (h : Hid H S) (n : Rd H p (.tup xs)) : p ∉ S := fun z => by
  obtain ⟨o, a, b⟩ := h p z
  rcases n with n | ⟨q, n⟩
  · rw [n] at a
    cases a
    cases b
  · rw [n] at a
    cases a
    cases b
theorem rep_newL {S : List Addr} {p : Addr} {vs : List V} {ds : List Dat} (m : Hid H S) (n : H p = none) (r : Reps K T (hide H S) vs ds) : Rep K T (hide (upd H p (.lst vs)) S) (.ref p) (.lst ds) :=
  .lst (hide_get upd_same (m.not n)) (r.mono (hide_mono (Ex.new n)))
theorem rep_newT {S : List Addr} {p : Addr} {vs : List V} {ds : List Dat} (m : Hid H S) (n : H p = none) (r : Reps K T (hide H S) vs ds) : Rep K T (hide (upd H p (.tup vs)) S) (.ref p) (.tup ds) :=
  .tup (.inl (.inl (hide_get upd_same (m.not n)))) (r.mono (hide_mono (Ex.new n)))
/-- data without lists and objects: what is hidden does not touch it -/
def flat : Dat → Bool
  | .lst _ => false
  | .frz _ => false
  | .obj _ _ => false
  | .tup l => flats l
  | _ => true
where flats : List Dat → Bool
  | [] => true
  | d :: r => flat d && flats r
mutual
theorem Rep.bare {S : List Addr} (m : Hid H S) : ∀ {v : V} {d : Dat}, flat d = true → Rep K T H v d → Rep K T (hide H S) v d
  | _, _, _, .non => .non
  | _, _, _, .bl b => .bl b
  | _, _, _, .int i => .int i
  | _, _, _, .str x => .str x
  | _, .tup ds, f, .tup h r => by
    have f' : flat.flats ds = true := by simpa [flat] using f
    refine .tup ?_ (Reps.bare m f' r)
    rcases h with h | h
    · have z := m.notTup h
      rcases h with h | ⟨o, h⟩
      · exact .inl (.inl (hide_get h z))
      · exact .inl (.inr ⟨o, hide_get h z⟩)
    · exact .inr h
  | _, _, f, .lst _ _ => by simp [flat] at f
  | _, _, f, .frz _ _ => by simp [flat] at f
  | _, _, f, .obj _ _ _ => by simp [flat] at f
theorem Reps.bare {S : List Addr} (m : Hid H S) : ∀ {vs : List V} {ds : List Dat}, flat.flats ds = true → Reps K T H vs ds → Reps K T (hide H S) vs ds
  | _, _, _, .nil => .nil
  | _, d :: ds, f, .cons h r => by
    have f' : flat d = true ∧ flat.flats ds = true := by simpa [flat.flats] using f
    exact .cons (Rep.bare m f'.1 h) (Reps.bare m f'.2 r)
end
end

/-! ### environments -/
structure RE (K : PySem.W.Frag) (T : CT) (ow : List Nat) (σ : Sg) (ρ : DEnv) (H : Hp) (S : List Addr) : Prop where
  mt : Hid H S
  len : σ.length = ρ.length
  fro : ∀ (i : Nat) (d : Dat), i ∉ ow → ρ[i]? = some (some d) → ∃ v, σ[i]? = some (some v) ∧ Rep K T (hide H S) v d
  own : ∀ (i : Nat) (d : Dat), i ∈ ow → ρ[i]? = some (some d) → ∃ (p : Addr) (vs : List V) (ds : List Dat), σ[i]? = some (some (.ref p)) ∧ d = .lst ds ∧ p ∈ S ∧ H p = some (.lst vs) ∧ Reps K T (hide H S) vs ds
  inj : ∀ (i j : Nat) (d e : Dat) (p : Addr), i ∈ ow → j ∈ ow → ρ[i]? = some (some d) → ρ[j]? = some (some e) → σ[i]? = some (some (.ref p)) → σ[j]? = some (some (.ref p)) → i = j
section
variable {K : PySem.W.Frag} {T : CT} {H H' : Hp} {ow : List Nat} {σ : Sg} {ρ : DEnv} {S : List Addr}
theorem RE.mono (r : RE K T ow σ ρ H S) (e : Ex H H') : RE K T ow σ ρ H' S :=
  ⟨r.mt.mono e, r.len, fun i d hi hd => let ⟨v, a, b⟩ := r.fro i d hi hd; ⟨v, a, b.mono (hide_mono e)⟩,
    fun i d hi hd => let ⟨p, vs, ds, a, b, c, x, y⟩ := r.own i d hi hd; ⟨p, vs, ds, a, b, c, e p _ x, y.mono (hide_mono e)⟩, r.inj⟩

/-! ### what is wanted behind an expression -/
def Want (K : PySem.W.Frag) (T : CT) (W : WX) (σ : Sg) (H : Hp) (S : List Addr) : Res Dat → VK → Prop
  | .ok d, Q => ∀ v H', Ex H H' → Rep K T (hide H' S) v d → Q v H'
  | .exc c, _ => ∀ H', Ex H H' → W (T.exc c) none σ H'
  | .stuck, _ => False
def WantB (T : CT) (W : WX) (σ : Sg) (H : Hp) : Res Bool → (Bool → Hp → Prop) → Prop
  | .ok d, Q => ∀ H', Ex H H' → Q d H'
  | .exc c, _ => ∀ H', Ex H H' → W (T.exc c) none σ H'
  | .stuck, _ => False
def WantA (K : PySem.W.Frag) (T : CT) (W : WX) (σ : Sg) (H : Hp) (S : List Addr) : Res (List Dat) → (List V → Hp → Prop) → Prop
  | .ok ds, Q => ∀ vs H', Ex H H' → Reps K T (hide H' S) vs ds → Q vs H'
  | .exc c, _ => ∀ H', Ex H H' → W (T.exc c) none σ H'
  | .stuck, _ => False
/-- a new list -/
def WantF (K : PySem.W.Frag) (T : CT) (W : WX) (σ : Sg) (H : Hp) (S : List Addr) : Res (List Dat) → VK → Prop
  | .ok ds, Q => ∀ p vs H', Ex H H' → H p = none → H' p = some (.lst vs) → Reps K T (hide H' (p :: S)) vs ds → Q (.ref p) H'
  | .exc c, _ => ∀ H', Ex H H' → W (T.exc c) none σ H'
  | .stuck, _ => False
def tD (K : PySem.W.Frag) (T : CT) (W : WX) (ow : List Nat) (f : DEnv → Res Dat) : TE := fun σ H Q => ∃ ρ S, RE K T ow σ ρ H S ∧ Want K T W σ H S (f ρ) Q
def tDF (K : PySem.W.Frag) (T : CT) (W : WX) (ow : List Nat) (f : DEnv → Res (List Dat)) : TE := fun σ H Q => ∃ ρ S, RE K T ow σ ρ H S ∧ WantF K T W σ H S (f ρ) Q
def tDB (K : PySem.W.Frag) (T : CT) (W : WX) (ow : List Nat) (f : DEnv → Res Bool) : TT := fun σ H Q => ∃ ρ S, RE K T ow σ ρ H S ∧ WantB T W σ H (f ρ) Q
def tDA (K : PySem.W.Frag) (T : CT) (W : WX) (ow : List Nat) (f : DEnv → Res (List Dat)) : TA := fun σ H Q => ∃ ρ S, RE K T ow σ ρ H S ∧ WantA K T W σ H S (f ρ) Q
end
def DE (X : Cx) (T : CT) (W : WX) (ow : List Nat) (e : Expr) (f : DEnv → Res Dat) : Prop := PE X e (tD X.K T W ow f)
def DF (X : Cx) (T : CT) (W : WX) (ow : List Nat) (e : Expr) (f : DEnv → Res (List Dat)) : Prop := PE X e (tDF X.K T W ow f)
def DT (X : Cx) (T : CT) (W : WX) (ow : List Nat) (e : Expr) (f : DEnv → Res Bool) : Prop := PT X e (tDB X.K T W ow f)
def DA (X : Cx) (T : CT) (W : WX) (ow : List Nat) (es : List Expr) (f : DEnv → Res (List Dat)) : Prop := PA X es (tDA X.K T W ow f)

section
variable {X : Cx} {T : CT} {W : WX} {ow : List Nat} {e a b : Expr} {es : List Expr} {pos : Pos}
theorem pe_imp {t t' : TE} (h : PE X e t) (i : ∀ σ H Q, t' σ H Q → t σ H Q) : PE X e t' := ⟨fun pins s σ H Q I q => h.run pins s σ H Q I (i σ H Q q)⟩
theorem pt_imp {t t' : TT} (h : PT X e t) (i : ∀ σ H Q, t' σ H Q → t σ H Q) : PT X e t' := ⟨fun pins s σ H Q I q => h.run pins s σ H Q I (i σ H Q q)⟩
theorem pw_imp {t t' : TT} (h : PW X e t) (i : ∀ σ H Q, t' σ H Q → t σ H Q) : PW X e t' := ⟨fun wh pins s σ H Q I q => h.run wh pins s σ H Q I (i σ H Q q)⟩
theorem pa_imp {t t' : TA} (h : PA X es t) (i : ∀ σ H Q, t' σ H Q → t σ H Q) : PA X es t' := ⟨fun pos pins s σ H Q I q => h.run pos pins s σ H Q I (i σ H Q q)⟩
theorem ps_imp {st : Stmt} {t t' : TS} (h : PS X st t) (i : ∀ D σ H, t' D σ H → t D σ H) : PS X st t' := ⟨fun pins s σ H D I q => h.run pins s σ H D I (i D σ H q)⟩
theorem pss_imp {st : List Stmt} {t t' : TS} (h : PSs X st t) (i : ∀ D σ H, t' D σ H → t D σ H) : PSs X st t' := ⟨fun pins s σ H D I q => h.run pins s σ H D I (i D σ H q)⟩
end

section
variable {K : PySem.W.Frag} {T : CT} {W : WX} {H : Hp} {ow : List Nat} {σ : Sg} {ρ : DEnv} {S : List Addr}
/-- the first part of a bind, then the rest -/
theorem tD_bind {α : Type} {fa : DEnv → Res Dat} {k : Dat → Res α} {P : Hp → Res α → Prop} {R : VK} (re : RE K T ow σ ρ H S) (w : P H ((fa ρ).bind k)) (hx : ∀ c, P H (.exc c) → ∀ H', Ex H H' → W (T.exc c) none σ H') (hs : ¬ P H .stuck)
    (hk : ∀ v d H1, P H (k d) → Ex H H1 → Rep K T (hide H1 S) v d → R v H1) : tD K T W ow fa σ H R := by
  refine ⟨ρ, S, re, ?_⟩
  cases q : fa ρ with
  | ok d =>
    rw [q] at w
    exact fun v H' e r => hk v d H' w e r
  | exc c =>
    rw [q] at w
    exact hx c w
  | stuck =>
    rw [q] at w
    exact absurd w hs
theorem Want.mono {r : Res Dat} {Q : VK} {H' : Hp} (w : Want K T W σ H S r Q) (e : Ex H H') : Want K T W σ H' S r Q := by
  cases r with
  | ok d => exact fun v H2 e2 q => w v H2 (e.trans e2) q
  | exc c => exact fun H2 e2 => w H2 (e.trans e2)
  | stuck => exact w
theorem WantB.mono {r : Res Bool} {Q : Bool → Hp → Prop} {H' : Hp} (w : WantB T W σ H r Q) (e : Ex H H') : WantB T W σ H' r Q := by
  cases r with
  | ok d => exact fun H2 e2 => w H2 (e.trans e2)
  | exc c => exact fun H2 e2 => w H2 (e.trans e2)
  | stuck => exact w
theorem WantA.mono {r : Res (List Dat)} {Q : List V → Hp → Prop} {H' : Hp} (w : WantA K T W σ H S r Q) (e : Ex H H') : WantA K T W σ H' S r Q := by
  cases r with
  | ok d => exact fun v H2 e2 q => w v H2 (e.trans e2) q
  | exc c => exact fun H2 e2 => w H2 (e.trans e2)
  | stuck => exact w
theorem WantF.mono {r : Res (List Dat)} {Q : VK} {H' : Hp} (w : WantF K T W σ H S r Q) (e : Ex H H') : WantF K T W σ H' S r Q := by
  cases r with
  | ok d => exact fun p v H2 e2 n h q => w p v H2 (e.trans e2) (e.fresh n) h q
  | exc c => exact fun H2 e2 => w H2 (e.trans e2)
  | stuck => exact w
/-- the parts of an expression, one after the other -/
theorem Want.part {fa : DEnv → Res Dat} {k : Dat → Res Dat} {Q R : VK} (re : RE K T ow σ ρ H S) (w : Want K T W σ H S ((fa ρ).bind k) Q)
    (hk : ∀ v d H1, Want K T W σ H1 S (k d) Q → RE K T ow σ ρ H1 S → Ex H H1 → Rep K T (hide H1 S) v d → R v H1) : tD K T W ow fa σ H R :=
  tD_bind (P := fun H r => Want K T W σ H S r Q) re w (fun _ w => w) (fun w => w) fun v d H1 w e r => hk v d H1 (w.mono e) (re.mono e) e r
theorem WantB.part {fa : DEnv → Res Dat} {k : Dat → Res Bool} {Q : Bool → Hp → Prop} {R : VK} (re : RE K T ow σ ρ H S) (w : WantB T W σ H ((fa ρ).bind k) Q)
    (hk : ∀ v d H1, WantB T W σ H1 (k d) Q → RE K T ow σ ρ H1 S → Ex H H1 → Rep K T (hide H1 S) v d → R v H1) : tD K T W ow fa σ H R :=
  tD_bind (P := fun H r => WantB T W σ H r Q) re w (fun _ w => w) (fun w => w) fun v d H1 w e r => hk v d H1 (w.mono e) (re.mono e) e r
theorem WantA.part {fa : DEnv → Res Dat} {k : Dat → Res (List Dat)} {Q : List V → Hp → Prop} {R : VK} (re : RE K T ow σ ρ H S) (w : WantA K T W σ H S ((fa ρ).bind k) Q)
    (hk : ∀ v d H1, WantA K T W σ H1 S (k d) Q → RE K T ow σ ρ H1 S → Ex H H1 → Rep K T (hide H1 S) v d → R v H1) : tD K T W ow fa σ H R :=
  tD_bind (P := fun H r => WantA K T W σ H S r Q) re w (fun _ w => w) (fun w => w) fun v d H1 w e r => hk v d H1 (w.mono e) (re.mono e) e r
theorem WantF.part {fa : DEnv → Res Dat} {k : Dat → Res (List Dat)} {Q R : VK} (re : RE K T ow σ ρ H S) (w : WantF K T W σ H S ((fa ρ).bind k) Q)
    (hk : ∀ v d H1, WantF K T W σ H1 S (k d) Q → RE K T ow σ ρ H1 S → Ex H H1 → Rep K T (hide H1 S) v d → R v H1) : tD K T W ow fa σ H R :=
  tD_bind (P := fun H r => WantF K T W σ H S r Q) re w (fun _ w => w) (fun w => w) fun v d H1 w e r => hk v d H1 (w.mono e) (re.mono e) e r
/-- a test first -/
theorem Want.partB {fa : DEnv → Res Bool} {k : Bool → Res Dat} {Q : VK} {R : Bool → Hp → Prop} (re : RE K T ow σ ρ H S) (w : Want K T W σ H S ((fa ρ).bind k) Q)
    (hk : ∀ d H1, Want K T W σ H1 S (k d) Q → RE K T ow σ ρ H1 S → Ex H H1 → R d H1) : tDB K T W ow fa σ H R := by
  refine ⟨ρ, S, re, ?_⟩
  cases q : fa ρ with
  | ok d =>
    rw [q] at w
    exact fun H' e => hk d H' (w.mono e) (re.mono e) e
  | exc c =>
    rw [q] at w
    exact w
  | stuck =>
    rw [q] at w
    exact w.elim
theorem WantB.partB {fa : DEnv → Res Bool} {k : Bool → Res Bool} {Q R : Bool → Hp → Prop} (re : RE K T ow σ ρ H S) (w : WantB T W σ H ((fa ρ).bind k) Q)
    (hk : ∀ d H1, WantB T W σ H1 (k d) Q → RE K T ow σ ρ H1 S → Ex H H1 → R d H1) : tDB K T W ow fa σ H R := by
  refine ⟨ρ, S, re, ?_⟩
  cases q : fa ρ with
  | ok d =>
    rw [q] at w
    exact fun H' e => hk d H' (w.mono e) (re.mono e) e
  | exc c =>
    rw [q] at w
    exact w
  | stuck =>
    rw [q] at w
    exact w.elim
theorem WantF.partB {fa : DEnv → Res Bool} {k : Bool → Res (List Dat)} {Q : VK} {R : Bool → Hp → Prop} (re : RE K T ow σ ρ H S) (w : WantF K T W σ H S ((fa ρ).bind k) Q)
    (hk : ∀ d H1, WantF K T W σ H1 S (k d) Q → RE K T ow σ ρ H1 S → Ex H H1 → R d H1) : tDB K T W ow fa σ H R := by
  refine ⟨ρ, S, re, ?_⟩
  cases q : fa ρ with
  | ok d =>
    rw [q] at w
    exact fun H' e => hk d H' (w.mono e) (re.mono e) e
  | exc c =>
    rw [q] at w
    exact w
  | stuck =>
    rw [q] at w
    exact w.elim
/-- arguments first -/
theorem Want.partA {fa : DEnv → Res (List Dat)} {k : List Dat → Res Dat} {Q : VK} {R : List V → Hp → Prop} (re : RE K T ow σ ρ H S) (w : Want K T W σ H S ((fa ρ).bind k) Q)
    (hk : ∀ vs ds H1, Want K T W σ H1 S (k ds) Q → RE K T ow σ ρ H1 S → Ex H H1 → Reps K T (hide H1 S) vs ds → R vs H1) : tDA K T W ow fa σ H R := by
  refine ⟨ρ, S, re, ?_⟩
  cases q : fa ρ with
  | ok d =>
    rw [q] at w
    exact fun vs H' e r => hk vs d H' (w.mono e) (re.mono e) e r
  | exc c =>
    rw [q] at w
    exact w
  | stuck =>
    rw [q] at w
    exact w.elim
theorem WantA.partA {fa : DEnv → Res (List Dat)} {k : List Dat → Res (List Dat)} {Q R : List V → Hp → Prop} (re : RE K T ow σ ρ H S) (w : WantA K T W σ H S ((fa ρ).bind k) Q)
    (hk : ∀ vs ds H1, WantA K T W σ H1 S (k ds) Q → RE K T ow σ ρ H1 S → Ex H H1 → Reps K T (hide H1 S) vs ds → R vs H1) : tDA K T W ow fa σ H R := by
  refine ⟨ρ, S, re, ?_⟩
  cases q : fa ρ with
  | ok d =>
    rw [q] at w
    exact fun vs H' e r => hk vs d H' (w.mono e) (re.mono e) e r
  | exc c =>
    rw [q] at w
    exact w
  | stuck =>
    rw [q] at w
    exact w.elim
theorem WantF.partA {fa : DEnv → Res (List Dat)} {k : List Dat → Res (List Dat)} {Q : VK} {R : List V → Hp → Prop} (re : RE K T ow σ ρ H S) (w : WantF K T W σ H S ((fa ρ).bind k) Q)
    (hk : ∀ vs ds H1, WantF K T W σ H1 S (k ds) Q → RE K T ow σ ρ H1 S → Ex H H1 → Reps K T (hide H1 S) vs ds → R vs H1) : tDA K T W ow fa σ H R := by
  refine ⟨ρ, S, re, ?_⟩
  cases q : fa ρ with
  | ok d =>
    rw [q] at w
    exact fun vs H' e r => hk vs d H' (w.mono e) (re.mono e) e r
  | exc c =>
    rw [q] at w
    exact w
  | stuck =>
    rw [q] at w
    exact w.elim
/-- a new list is a value like others -/
theorem WantF.of {r : Res (List Dat)} {Q : VK} (w : Want K T W σ H S (r.bind fun l => .ok (.lst l)) Q) (m : Hid H S) : WantF K T W σ H S r Q := by
  cases r with
  | ok l =>
    intro p vs H' e n h q
    refine w (.ref p) H' e (.lst (hide_get h (m.not n)) (q.mono (hide_sub fun x hx => List.mem_cons_of_mem _ hx)))
  | exc c => exact w
  | stuck => exact w
end
end Dl
/-! The D layer, part 2: expressions. -/
namespace Dl
open PySem PySem.Spec PyProof.Rows L2

/-! ### names and constants -/
def vVar (i : Nat) : DEnv → Res Dat := fun ρ => match ρ[i]? with
  | some (some d) => .ok d
  | _ => .stuck
def vC (d : Dat) : DEnv → Res Dat := fun _ => .ok d
section
variable {X : Cx} {T : CT} {W : WX} {ow : List Nat} {e a b c : Expr} {es : List Expr} {pos : Pos} {fa fb fc : DEnv → Res Dat}
theorem de_var (i : Nat) {x : Str} (hN : X.N[i]? = some x := by rfl) (hv : Vis X.env.scope x := by first | exact Or.inl rfl | exact Or.inr (Or.inl rfl) | exact Or.inr (Or.inr rfl)) (hi : i ∉ ow := by decide) (hd : (x == ("__debug__" : Str)) = false := by decide)
    (hcd : (x == ("__classdict__" : Str)) = false := by decide) : DE X T W ow (.Name x pos) (vVar i) := pe_imp (pe_var hN hv hd hcd) fun σ H Q h => by
  obtain ⟨ρ, S, re, w⟩ := h
  unfold vVar at w
  split at w
  · rename_i d e
    obtain ⟨v, h1, h2⟩ := re.fro i d hi e
    exact ⟨v, h1, w v H (Ex.refl H) h2⟩
  · exact w.elim
theorem de_const {v : V} {d : Dat} (h : PE X e (tC v)) (r : ∀ H, Rep X.K T H v d) : DE X T W ow e (vC d) := pe_imp h fun σ H Q h => by
  obtain ⟨ρ, S, re, w⟩ := h
  exact w v H (Ex.refl H) (r _)
theorem de_int {i : Int} {j} : DE X T W ow (.Constant (.int i) j pos) (vC (.int i)) := de_const pe_int fun _ => .int i
theorem de_bl {k : Bool} {j} : DE X T W ow (.Constant (.bool k) j pos) (vC (.bl k)) := de_const pe_bl fun _ => .bl k
theorem de_non {j} : DE X T W ow (.Constant .none j pos) (vC .non) := de_const pe_non fun _ => .non
theorem de_str {x : Str} {j} : DE X T W ow (.Constant (.str x) j pos) (vC (.str x)) := de_const pe_str fun _ => .str x
/-- a constant of the module -/
structure GC (K : PySem.W.Frag) (T : CT) (mg : Str → Option Value) (x : Str) (d : Dat) : Prop where
  ex : ∃ v u, mg x = some u ∧ RelV v u ∧ ∀ H, Rep K T H v d
theorem GC.int {K : PySem.W.Frag} {T : CT} {mg : Str → Option Value} {x : Str} {i : Int} {t : Tok} (h : mg x = some (.int i t)) : GC K T mg x (.int i) := ⟨.int i, _, h, ⟨t, rfl⟩, fun _ => .int i⟩
theorem GC.str {K : PySem.W.Frag} {T : CT} {mg : Str → Option Value} {x : Str} {i : Str} {t : Tok} (h : mg x = some (.str i t)) : GC K T mg x (.str i) := ⟨.str i, _, h, ⟨t, rfl⟩, fun _ => .str i⟩
theorem de_glob {x : Str} {d : Dat} (g : GC X.K T X.mg x d) (hg : Gl X x := by rfl) (hd : (x == ("__debug__" : Str)) = false := by decide) : DE X T W ow (.Name x pos) (vC d) := by
  obtain ⟨v, u, h1, h2, h3⟩ := g.ex
  exact de_const (pe_glob hg h1 h2 hd) h3

/-! ### two-place operators -/
def R2D (K : PySem.W.Frag) (T : CT) (r : R2) (g : Dat → Dat → Option Dat) : Prop := ∀ (S : List Addr) (H : Hp) (x y : V) (dx dy d : Dat) (Q : VK), Hid H S → Rep K T (hide H S) x dx → Rep K T (hide H S) y dy → g dx dy = some d →
  (∀ v H', Ex H H' → Rep K T (hide H' S) v d → Q v H') → r x y H Q
def vOp (g : Dat → Dat → Option Dat) (fa fb : DEnv → Res Dat) : DEnv → Res Dat := fun ρ => (fa ρ).bind fun x => (fb ρ).bind fun y => ofO (g x y)
theorem R2D.read {r : R2} {g : Dat → Dat → Option Dat} {K : PySem.W.Frag} {σ : Sg} {H : Hp} {Q : VK} (rd : R2D K T r g) (h : tD K T W ow (vOp g fa fb) σ H Q) :
    tD K T W ow fa σ H fun x H1 => tD K T W ow fb σ H1 fun y H2 => r x y H2 Q := by
  obtain ⟨ρ, S, re, w⟩ := h
  refine Want.part re w fun x dx H1 w1 re1 e1 rx => ?_
  refine Want.part re1 w1 fun y dy H2 w2 re2 e2 ry => ?_
  cases q : g dx dy with
  | none =>
    rw [q] at w2
    exact w2.elim
  | some d =>
    rw [q] at w2
    exact rd S H2 x y dx dy d Q re2.mt (rx.mono (hide_mono e2)) ry q w2
theorem de_op {op : Operator} {r : R2} {g : Dat → Dat → Option Dat} (ho : OpR X (binaryOp op) r) (rd : R2D X.K T r g) (ha : DE X T W ow a fa) (hb : DE X T W ow b fb) : DE X T W ow (.BinOp a op b pos) (vOp g fa fb) :=
  pe_imp (pe_op ho ha hb) fun _ _ _ h => rd.read h
theorem de_cmp {op : CmpOp} {r : R2} {g : Dat → Dat → Option Dat} (ho : OpR X (compareOp op) r) (rd : R2D X.K T r g) (ha : DE X T W ow a fa) (hb : DE X T W ow b fb) (hm : behindInMarks op b = false) : DE X T W ow (.Compare a [op] [b] pos) (vOp g fa fb) :=
  pe_imp (pe_cmpR ho ha hb hm) fun _ _ _ h => rd.read h

/-- what a test asks of a value -/
def blOf : Dat → Option Bool
  | .bl b => some b
  | _ => none
def vTest (fa : DEnv → Res Dat) : DEnv → Res Bool := fun ρ => (fa ρ).bind fun x => ofO (blOf x)
theorem test_read {K : PySem.W.Frag} {σ : Sg} {H : Hp} {Q : Bool → Hp → Prop} (h : tDB K T W ow (vTest fa) σ H Q) : tD K T W ow fa σ H fun x H' => ∃ k, x = .bl k ∧ Q k H' := by
  obtain ⟨ρ, S, re, w⟩ := h
  refine WantB.part re w fun x dx H1 w1 re1 e1 rx => ?_
  cases rx with
  | bl k => exact ⟨k, rfl, w1 H1 (Ex.refl H1)⟩
  | _ => exact w1.elim
theorem dt_cmp {op : CmpOp} {r : R2} {g : Dat → Dat → Option Dat} (ho : OpR X (compareOp op) r) (rd : R2D X.K T r g) (ha : DE X T W ow a fa) (hb : DE X T W ow b fb) (hm : behindInMarks op b = false) : DT X T W ow (.Compare a [op] [b] pos) (vTest (vOp g fa fb)) :=
  pt_imp (pt_cmpR ho ha hb hm) fun σ H Q h => by
    obtain ⟨ρ, S, re, w⟩ := h
    refine rd.read (Q := fun x H' => ∃ k, x = .bl k ∧ Q k H') ?_
    exact test_read ⟨ρ, S, re, w⟩
/-- an expression that gives a bool, as a test -/
theorem dt_val (ha : DE X T W ow e fa) (he : ∀ whole, isTrue e X.env whole = (do let v ← whole; standAt e.pos; holding [v] (truthy v)) := by intro _; rfl) : DT X T W ow e (vTest fa) :=
  pt_imp (pt_val ha he) fun _ _ _ h => test_read h
/-- by truth -/
def truD : Dat → Option Bool
  | .non => some false
  | .bl b => some b
  | .int i => some (i != 0)
  | .str s => if s.length ≤ sizeLine then some ((s.length : Int) != 0) else none
  | .tup l => some !l.isEmpty
  | .lst l => some !l.isEmpty
  | _ => none
theorem truD_ok {K : PySem.W.Frag} {H H' : Hp} {x : V} {d : Dat} {k : Bool} (e : Ex H H') (r : Rep K T H x d) (h : truD d = some k) : TruV K x H' k := by
  have emp : ∀ {vs : List V} {ds : List Dat}, Reps K T H vs ds → (!vs.isEmpty) = !ds.isEmpty := fun r => by cases r <;> rfl
  cases r with
  | non => exact (Option.some.inj h).symm
  | bl b => exact (Option.some.inj h).symm
  | int i => exact (Option.some.inj h).symm
  | str s =>
    simp only [truD] at h
    by_cases z : s.length ≤ sizeLine
    · rw [if_pos z] at h
      exact ⟨z, (Option.some.inj h).symm⟩
    · rw [if_neg z] at h
      cases h
  | tup hs r => exact .inr (.inl ⟨_, ex_t e hs, by rw [emp r]; exact (Option.some.inj h).symm⟩)
  | lst hs r => exact .inl ⟨_, .inl (.inl (e _ _ hs)), by rw [emp r]; exact (Option.some.inj h).symm⟩
  | frz hs r => cases h
  | obj _ _ _ => cases h
def vTru (fa : DEnv → Res Dat) : DEnv → Res Bool := fun ρ => (fa ρ).bind fun x => ofO (truD x)
theorem dt_truth (ha : DE X T W ow e fa) (he : ∀ whole, isTrue e X.env whole = (do let v ← whole; standAt e.pos; holding [v] (truthy v)) := by intro _; rfl) : DT X T W ow e (vTru fa) :=
  pt_imp (pt_truth ha he) fun σ H Q h => by
    obtain ⟨ρ, S, re, w⟩ := h
    refine WantB.part re w fun x dx H1 w1 re1 e1 rx => ?_
    cases q : truD dx with
    | none =>
      rw [q] at w1
      exact w1.elim
    | some k =>
      rw [q] at w1
      exact ⟨k, truD_ok hide_ex rx q, w1 H1 (Ex.refl H1)⟩
/-- and, or, not as tests -/
def vAndT (f g : DEnv → Res Bool) : DEnv → Res Bool := fun ρ => (f ρ).bind fun x => if x = true then g ρ else .ok false
def vOrT (f g : DEnv → Res Bool) : DEnv → Res Bool := fun ρ => (f ρ).bind fun x => if x = true then .ok true else g ρ
def vNotT (f : DEnv → Res Bool) : DEnv → Res Bool := fun ρ => (f ρ).bind fun x => .ok (!x)
/-- a chain of and, or -/
def DW (X : Cx) (T : CT) (W : WX) (ow : List Nat) (e : Expr) (f : DEnv → Res Bool) : Prop := PW X e (tDB X.K T W ow f)
theorem DW.dt {f : DEnv → Res Bool} (h : DW X T W ow e f) : DT X T W ow e f := PW.pt h
variable {ta tb : DEnv → Res Bool} {rest : List Expr}
theorem dw_and1 (ha : DT X T W ow a ta) : DW X T W ow (.BoolOp .And [a] pos) ta := pw_and1 ha
theorem dw_or1 (ha : DT X T W ow a ta) : DW X T W ow (.BoolOp .Or [a] pos) ta := pw_or1 ha
theorem dw_and (ha : DT X T W ow a ta) (hb : DW X T W ow (.BoolOp .And (b :: rest) pos) tb) : DW X T W ow (.BoolOp .And (a :: b :: rest) pos) (vAndT ta tb) := pw_imp (pw_and ha hb) fun σ H Q h => by
  obtain ⟨ρ, S, re, w⟩ := h
  refine WantB.partB re w fun k H1 w1 re1 e1 => ?_
  cases k with
  | true => exact ⟨ρ, S, re1, w1⟩
  | false => exact w1 H1 (Ex.refl H1)
theorem dw_or (ha : DT X T W ow a ta) (hb : DW X T W ow (.BoolOp .Or (b :: rest) pos) tb) : DW X T W ow (.BoolOp .Or (a :: b :: rest) pos) (vOrT ta tb) := pw_imp (pw_or ha hb) fun σ H Q h => by
  obtain ⟨ρ, S, re, w⟩ := h
  refine WantB.partB re w fun k H1 w1 re1 e1 => ?_
  cases k with
  | true => exact w1 H1 (Ex.refl H1)
  | false => exact ⟨ρ, S, re1, w1⟩
theorem dt_not (ha : DT X T W ow a ta) : DT X T W ow (.UnaryOp .Not a pos) (vNotT ta) := pt_imp (pt_not ha) fun σ H Q h => by
  obtain ⟨ρ, S, re, w⟩ := h
  exact WantB.partB re w fun k H1 w1 re1 e1 => w1 H1 (Ex.refl H1)
/-- and, or, not as values: all but the last are bools -/
def vAnd (fa fb : DEnv → Res Dat) : DEnv → Res Dat := fun ρ => (fa ρ).bind fun x => match x with
  | .bl true => fb ρ
  | .bl false => .ok (.bl false)
  | _ => .stuck
def vOr (fa fb : DEnv → Res Dat) : DEnv → Res Dat := fun ρ => (fa ρ).bind fun x => match x with
  | .bl true => .ok (.bl true)
  | .bl false => fb ρ
  | _ => .stuck
def notD : Dat → Option Dat
  | .bl b => some (.bl !b)
  | _ => none
def v1 (g : Dat → Option Dat) (fa : DEnv → Res Dat) : DEnv → Res Dat := fun ρ => (fa ρ).bind fun x => ofO (g x)
theorem de_one {op} (h : DE X T W ow a fa) : DE X T W ow (.BoolOp op [a] pos) fa := pe_one h
theorem de_and (ha : DE X T W ow a fa) (hb : DE X T W ow (.BoolOp .And (b :: rest) pos) fb) : DE X T W ow (.BoolOp .And (a :: b :: rest) pos) (vAnd fa fb) := pe_imp (pe_and ha hb) fun σ H Q h => by
  obtain ⟨ρ, S, re, w⟩ := h
  refine Want.part re w fun x dx H1 w1 re1 e1 rx => ?_
  cases rx with
  | bl k =>
    cases k with
    | true => exact ⟨true, rfl, ρ, S, re1, w1⟩
    | false => exact ⟨false, rfl, w1 _ H1 (Ex.refl H1) (.bl false)⟩
  | _ => exact w1.elim
theorem de_or (ha : DE X T W ow a fa) (hb : DE X T W ow (.BoolOp .Or (b :: rest) pos) fb) : DE X T W ow (.BoolOp .Or (a :: b :: rest) pos) (vOr fa fb) := pe_imp (pe_or ha hb) fun σ H Q h => by
  obtain ⟨ρ, S, re, w⟩ := h
  refine Want.part re w fun x dx H1 w1 re1 e1 rx => ?_
  cases rx with
  | bl k =>
    cases k with
    | true => exact ⟨true, rfl, w1 _ H1 (Ex.refl H1) (.bl true)⟩
    | false => exact ⟨false, rfl, ρ, S, re1, w1⟩
  | _ => exact w1.elim
theorem de_not (ha : DE X T W ow a fa) : DE X T W ow (.UnaryOp .Not a pos) (v1 notD fa) := pe_imp (pe_not ha) fun σ H Q h => by
  obtain ⟨ρ, S, re, w⟩ := h
  refine Want.part re w fun x dx H1 w1 re1 e1 rx => ?_
  cases rx with
  | bl k => exact ⟨k, rfl, w1 _ H1 (Ex.refl H1) (.bl _)⟩
  | _ => exact w1.elim
/-- a if t else b -/
def vIf (t : DEnv → Res Bool) (fa fb : DEnv → Res Dat) : DEnv → Res Dat := fun ρ => (t ρ).bind fun x => if x = true then fa ρ else fb ρ
theorem de_if (hc : DT X T W ow c ta) (ha : DE X T W ow a fa) (hb : DE X T W ow b fb) : DE X T W ow (.IfExp c a b pos) (vIf ta fa fb) := pe_imp (pe_ifExp hc ha hb) fun σ H Q h => by
  obtain ⟨ρ, S, re, w⟩ := h
  refine Want.partB re w fun k H1 w1 re1 e1 => ?_
  cases k with
  | true => exact ⟨ρ, S, re1, w1⟩
  | false => exact ⟨ρ, S, re1, w1⟩
def vIfF (t : DEnv → Res Bool) (fa fb : DEnv → Res (List Dat)) : DEnv → Res (List Dat) := fun ρ => (t ρ).bind fun x => if x = true then fa ρ else fb ρ
theorem df_if {fa fb : DEnv → Res (List Dat)} (hc : DT X T W ow c ta) (ha : DF X T W ow a fa) (hb : DF X T W ow b fb) : DF X T W ow (.IfExp c a b pos) (vIfF ta fa fb) := pe_imp (pe_ifExp hc ha hb) fun σ H Q h => by
  obtain ⟨ρ, S, re, w⟩ := h
  refine WantF.partB re w fun k H1 w1 re1 e1 => ?_
  cases k with
  | true => exact ⟨ρ, S, re1, w1⟩
  | false => exact ⟨ρ, S, re1, w1⟩
/-- a new list as a value -/
def vL (f : DEnv → Res (List Dat)) : DEnv → Res Dat := fun ρ => (f ρ).bind fun l => .ok (.lst l)
theorem de_f {f : DEnv → Res (List Dat)} (h : DF X T W ow e f) : DE X T W ow e (vL f) := pe_imp h fun σ H Q h => by
  obtain ⟨ρ, S, re, w⟩ := h
  exact ⟨ρ, S, re, WantF.of w re.mt⟩
/-! ### arguments, displays -/
def aNil : DEnv → Res (List Dat) := fun _ => .ok []
def aCons (f : DEnv → Res Dat) (g : DEnv → Res (List Dat)) : DEnv → Res (List Dat) := fun ρ => (f ρ).bind fun x => (g ρ).bind fun l => .ok (x :: l)
theorem da_nil : DA X T W ow [] aNil := pa_imp pa_nil fun σ H Q h => by
  obtain ⟨ρ, S, re, w⟩ := h
  exact w [] H (Ex.refl H) .nil
theorem da_cons {fs : DEnv → Res (List Dat)} (h : DE X T W ow e fa) (hs : DA X T W ow es fs) (hst : starEach (e :: es) X.env = (false, eval e X.env) :: starEach es X.env := by rfl) : DA X T W ow (e :: es) (aCons fa fs) := pa_imp (pa_cons h hs hst) fun σ H Q h => by
  obtain ⟨ρ, S, re, w⟩ := h
  refine WantA.part re w fun x dx H1 w1 re1 e1 rx => ?_
  refine WantA.partA re1 w1 fun vs ds H2 w2 re2 e2 rs => ?_
  exact w2 _ H2 (Ex.refl H2) (.cons (rx.mono (hide_mono e2)) rs)
def vTup (f : DEnv → Res (List Dat)) : DEnv → Res Dat := fun ρ => (f ρ).bind fun l => if l.length ≤ 1000 then .ok (.tup l) else .stuck
def fLst (f : DEnv → Res (List Dat)) : DEnv → Res (List Dat) := fun ρ => (f ρ).bind fun l => if l.length ≤ 1000 then .ok l else .stuck
theorem de_tup {x1} {fs : DEnv → Res (List Dat)} (hs : DA X T W ow es fs) : DE X T W ow (.Tuple es x1 pos) (vTup fs) := pe_imp (pe_tup hs) fun σ H Q h => by
  obtain ⟨ρ, S, re, w⟩ := h
  refine Want.partA re w fun vs ds H1 w1 re1 e1 rs => ?_
  split at w1
  · rename_i hl
    refine ⟨Nat.le_trans (by rw [rs.length]; exact hl) (by decide : 1000 ≤ sizeLine), fun p hp => ?_⟩
    exact w1 _ _ (Ex.new hp) (rep_newT re1.mt hp rs)
  · exact w1.elim
theorem df_lst {fs : DEnv → Res (List Dat)} (hs : DA X T W ow es fs) : DF X T W ow (.List es pos) (fLst fs) := pe_imp (pe_lst hs) fun σ H Q h => by
  obtain ⟨ρ, S, re, w⟩ := h
  refine WantF.partA re w fun vs ds H1 w1 re1 e1 rs => ?_
  split at w1
  · rename_i hl
    refine ⟨Nat.le_trans (by rw [rs.length]; exact hl) (by decide : 1000 ≤ sizeLine), fun p hp => ?_⟩
    exact w1 p vs _ (Ex.new hp) hp upd_same (rs.mono (hide_new (Ex.new hp) hp))
  · exact w1.elim
end
end Dl
/-! The D layer, part 3: operators, items, slices, built-ins. -/
namespace Dl
open PySem PySem.Spec PyProof.Rows L2

/-! ### arithmetic -/
def addD : Dat → Dat → Option Dat
  | .int i, .int j => some (.int (i + j))
  | .str a, .str b => if a.length + b.length ≤ sizeLine then some (.str (a ++ b)) else none
  | .tup a, .tup b => if a.length + b.length ≤ sizeLine then some (.tup (a ++ b)) else none
  | .lst a, .lst b => if a.length + b.length ≤ sizeLine then some (.lst (a ++ b)) else none
  | _, _ => none
def intOp (g : Int → Int → Option Int) : Dat → Dat → Option Dat
  | .int i, .int j => (g i j).map .int
  | _, _ => none
def subD := intOp fun i j => some (i - j)
def fdivI (i j : Int) : Option Int := if 0 < j then (if j.natAbs.log2 < 9000 then some (i / j) else none) else if j ≠ 0 ∧ j.natAbs < 1073741824 then some (i.fdiv j) else none
def fdivD := intOp fdivI
def modI (i j : Int) : Option Int := if 0 < j then some (i % j) else if j ≠ 0 then some (i.fmod j) else none
def modD := intOp modI
def powI (i j : Int) : Option Int := if 0 ≤ j ∧ j ≤ 1000 ∧ i.natAbs < 2 ^ 64 then some (i ^ j.toNat) else none
def powD := intOp powI
def mulOk (i j : Int) : Bool := decide (i.natAbs < 2 ^ 64) || decide (j.natAbs < 2 ^ 64) || decide (i.natAbs.log2 + j.natAbs.log2 < 1000000)
def mulD : Dat → Dat → Option Dat
  | .int i, .int j => if mulOk i j then some (.int (i * j)) else none
  | .lst l, .int k => if k ≤ 100000 ∧ -100000 ≤ k ∧ l.length ≤ 100 then some (.lst (List.replicate k.toNat l).flatten) else none
  | .tup l, .int k => if 2 ≤ k ∧ k ≤ 1000 ∧ l.length ≤ 1000 ∧ l.isEmpty = false then some (.tup (List.replicate k.toNat l).flatten) else none
  | _, _ => none
def negD : Dat → Option Dat
  | .int i => some (.int (-i))
  | _ => none
section
variable {K : PySem.W.Frag} {T : CT}
theorem intOp_some {g : Int → Int → Option Int} {dx dy d : Dat} (h : intOp g dx dy = some d) : ∃ i j k, dx = .int i ∧ dy = .int j ∧ g i j = some k ∧ d = .int k := by
  unfold intOp at h
  split at h
  · rename_i i j
    cases q : g i j with
    | none =>
      rw [q] at h
      cases h
    | some k =>
      rw [q] at h
      exact ⟨i, j, k, rfl, rfl, q, (Option.some.inj h).symm⟩
  · cases h
theorem rd_int {r : R2} {g : Int → Int → Option Int} (h : ∀ i j k H (Q : VK), g i j = some k → Q (.int k) H → r (.int i) (.int j) H Q) : R2D K T r (intOp g) := fun S H x y dx dy d Q m rx ry e q => by
  obtain ⟨i, j, k, rfl, rfl, e2, rfl⟩ := intOp_some e
  cases rx
  cases ry
  exact h i j k H Q e2 (q _ H (Ex.refl H) (.int k))
theorem rd_sub : R2D K T (rI0 fun i j => .int (i - j)) subD := rd_int fun i j k H Q e q => ⟨i, j, rfl, rfl, by cases e; exact q⟩
def rFdivAll : R2 := fun x y H Q => rI CDivW (fun i j => .int (i / j)) x y H Q ∨ rI CDivN (fun i j => .int (i.fdiv j)) x y H Q
theorem op_fdivAll {X : Cx} : OpR X (binaryOp .FloorDiv) rFdivAll := op_fdivW.or op_fdivN
theorem rd_fdiv : R2D K T rFdivAll fdivD := rd_int fun i j k H Q e q => by
  unfold fdivI at e
  split at e
  · split at e
    · rename_i h1 h2
      exact .inl ⟨i, j, rfl, rfl, ⟨h1, h2⟩, by cases e; exact q⟩
    · cases e
  · split at e
    · rename_i h1 h2
      exact .inr ⟨i, j, rfl, rfl, h2, by cases e; exact q⟩
    · cases e
def rModAll : R2 := fun x y H Q => rI (fun _ j => 0 < j) (fun i j => .int (i % j)) x y H Q ∨ rI (fun _ j => j ≠ 0) (fun i j => .int (i.fmod j)) x y H Q
theorem op_modAll {X : Cx} : OpR X (binaryOp .Mod) rModAll := op_mod.or op_modN
theorem rd_mod : R2D K T rModAll modD := rd_int fun i j k H Q e q => by
  unfold modI at e
  split at e
  · rename_i h1
    exact .inl ⟨i, j, rfl, rfl, h1, by cases e; exact q⟩
  · split at e
    · rename_i h1 h2
      exact .inr ⟨i, j, rfl, rfl, h2, by cases e; exact q⟩
    · cases e
theorem rd_pow : R2D K T (rI CPow fun i j => .int (i ^ j.toNat)) powD := rd_int fun i j k H Q e q => by
  unfold powI at e
  split at e
  · rename_i h1
    exact ⟨i, j, rfl, rfl, ⟨h1.1, by omega, h1.2.2⟩, by cases e; exact q⟩
  · cases e
def rAddAll (K : PySem.W.Frag) : R2 := fun x y H Q => rI0 (fun i j => .int (i + j)) x y H Q ∨ ((∃ i j, x = .str i ∧ y = .str j ∧ i.length + j.length ≤ sizeLine ∧ Q (.str (i ++ j)) H) ∨ (rCatA K x y H Q ∨ rCat x y H Q))
theorem op_addAll {X : Cx} : OpR X (binaryOp .Add) (rAddAll X.K) := op_add.or (op_add_str.or (op_catA.or op_cat))
theorem rd_add : R2D K T (rAddAll K) addD := fun S H x y dx dy d Q m rx ry e q => by
  cases rx with
  | int i =>
    cases ry with
    | int j => exact .inl ⟨i, j, rfl, rfl, by cases e; exact q _ H (Ex.refl H) (.int _)⟩
    | _ => cases e
  | str a =>
    cases ry with
    | str b =>
      simp only [addD] at e
      by_cases z : a.length + b.length ≤ sizeLine
      · rw [if_pos z] at e
        exact .inr (.inl ⟨a, b, rfl, rfl, z, by cases e; exact q _ H (Ex.refl H) (.str _)⟩)
      · rw [if_neg z] at e
        cases e
    | _ => cases e
  | @tup p vs ds hs rs =>
    cases ry with
    | @tup p' ws es ht ss =>
      simp only [addD] at e
      by_cases z : ds.length + es.length ≤ sizeLine
      · rw [if_pos z] at e
        cases e
        refine .inr (.inr (.inl ⟨p, p', vs, ws, rfl, rfl, ex_t hide_ex hs, ex_t hide_ex ht, by rw [rs.length, ss.length]; exact z, fun h => ?_, fun _ h => ?_, fun _ _ p2 np => ?_⟩))
        · subst h
          cases rs
          exact q _ H (Ex.refl H) (.tup ht ss)
        · subst h
          cases ss
          rw [List.append_nil] at q
          exact q _ H (Ex.refl H) (.tup hs rs)
        · exact q _ _ (Ex.new np) (rep_newT m np (rs.append ss))
      · rw [if_neg z] at e
        cases e
    | _ => cases e
  | @lst p vs ds hs rs =>
    cases ry with
    | @lst p' ws es ht ss =>
      simp only [addD] at e
      by_cases z : ds.length + es.length ≤ sizeLine
      · rw [if_pos z] at e
        cases e
        refine .inr (.inr (.inr ⟨p, p', vs, ws, rfl, rfl, hide_ex _ _ hs, hide_ex _ _ ht, by rw [rs.length, ss.length]; exact z, fun p2 np => ?_⟩))
        exact q _ _ (Ex.new np) (rep_newL m np (rs.append ss))
      · rw [if_neg z] at e
        cases e
    | _ => cases e
  | _ => cases e
def rMulAll (K : PySem.W.Frag) : R2 := fun x y H Q => rI CMul (fun i j => .int (i * j)) x y H Q ∨ (rI CMulW (fun i j => .int (i * j)) x y H Q ∨ (rRep x y H Q ∨ rRepT K x y H Q))
theorem op_mulAll {X : Cx} : OpR X (binaryOp .Mult) (rMulAll X.K) := op_mul.or (op_mulW.or (op_rep.or op_repT))
theorem mul64 {i : Int} (h : i.natAbs < 2 ^ 64) : -(2 ^ 64) < i ∧ i < 2 ^ 64 := by omega
theorem rd_mul : R2D K T (rMulAll K) mulD := fun S H x y dx dy d Q m rx ry e q => by
  cases rx with
  | int i =>
    cases ry with
    | int j =>
      simp only [mulD] at e
      by_cases z : mulOk i j = true
      · rw [if_pos z] at e
        cases e
        unfold mulOk at z
        rw [Bool.or_eq_true, Bool.or_eq_true] at z
        rcases z with (z | z) | z
        · exact .inl ⟨i, j, rfl, rfl, .inl (mul64 (of_decide_eq_true z)), q _ H (Ex.refl H) (.int _)⟩
        · exact .inl ⟨i, j, rfl, rfl, .inr (mul64 (of_decide_eq_true z)), q _ H (Ex.refl H) (.int _)⟩
        · have z' := of_decide_eq_true z
          exact .inr (.inl ⟨i, j, rfl, rfl, z', q _ H (Ex.refl H) (.int _)⟩)
      · rw [if_neg z] at e
        cases e
    | _ => cases e
  | @lst p vs ds hs rs =>
    cases ry with
    | int k =>
      simp only [mulD] at e
      by_cases z : k ≤ 100000 ∧ -100000 ≤ k ∧ ds.length ≤ 100
      · rw [if_pos z] at e
        cases e
        obtain ⟨z1, z2, z3⟩ := z
        have hk : k.toNat ≤ 100000 := by omega
        refine .inr (.inr (.inl ⟨p, k, vs, rfl, rfl, hide_ex _ _ hs, by omega, by omega, ?_, fun p2 np => ?_⟩))
        · rw [rs.length]
          exact Nat.le_trans (Nat.mul_le_mul z3 hk) (by decide)
        · exact q _ _ (Ex.new np) (rep_newL m np (rs.flatten_replicate _))
      · rw [if_neg z] at e
        cases e
    | _ => cases e
  | @tup p vs ds hs rs =>
    cases ry with
    | int k =>
      simp only [mulD] at e
      by_cases z : 2 ≤ k ∧ k ≤ 1000 ∧ ds.length ≤ 1000 ∧ ds.isEmpty = false
      · rw [if_pos z] at e
        cases e
        obtain ⟨z1, z2, z3, z4⟩ := z
        refine .inr (.inr (.inr ⟨p, k, vs, rfl, rfl, ex_t hide_ex hs, ?_, z1, z2, by rw [rs.length]; exact z3, fun p2 np => ?_⟩))
        · rintro rfl
          cases rs
          cases z4
        · exact q _ _ (Ex.new np) (rep_newT m np (rs.flatten_replicate _))
      · rw [if_neg z] at e
        cases e
    | _ => cases e
  | _ => cases e
end

/-! ### == at any depth -/
mutual
def toPy : Dat → PyData
  | .non => .none
  | .bl b => .bool b
  | .int i => .int i
  | .str s => .str s
  | .tup l => .tuple (toPys l)
  | .lst l => .list (toPys l)
  | .frz _ => .none
  | .obj _ _ => .none
def toPys : List Dat → List PyData
  | [] => []
  | d :: r => toPy d :: toPys r
end
mutual
def eqvD : Dat → Dat → Bool
  | .non, .non => true
  | .bl a, .bl b => a == b
  | .bl a, .int j => (if a then 1 else 0) == j
  | .int i, .bl b => i == (if b then 1 else 0)
  | .int i, .int j => i == j
  | .str x, .str y => x == y
  | .lst xs, .lst ys => eqvDs xs ys
  | .tup xs, .tup ys => eqvDs xs ys
  | _, _ => false
def eqvDs : List Dat → List Dat → Bool
  | [], [] => true
  | x :: xs, y :: ys => eqvD x y && eqvDs xs ys
  | _, _ => false
end
/-- what may be compared: none, bools, ints, texts, lists and tuples of these, n deep -/
def shp : Nat → Dat → Bool
  | _, .non => true
  | _, .bl _ => true
  | _, .int _ => true
  | _, .str s => s.cps.all fun c => decide (c < 0x110000)
  | n + 1, .tup l => l.all (shp n)
  | n + 1, .lst l => l.all (shp n)
  | _, _ => false
theorem toPys_map (l : List Dat) : toPys l = l.map toPy := by
  induction l with
  | nil => rfl
  | cons d r ih => rw [toPys, ih]; rfl
theorem canAll_of {l : List PyData} (h : ∀ d ∈ l, d.canLay0 = true) : PyData.canLayAll0 l = true := by
  induction l with
  | nil => simp [PyData.canLayAll0]
  | cons d r ih =>
    rw [PyData.canLayAll0, h d List.mem_cons_self, ih fun e he => h e (List.mem_cons_of_mem _ he)]
    rfl
theorem depthAll_of {l : List PyData} {n : Nat} (h : ∀ d ∈ l, d.depth ≤ n) : PyData.depthAll l ≤ n := by
  induction l with
  | nil => simp [PyData.depthAll]
  | cons d r ih =>
    rw [PyData.depthAll]
    exact Nat.max_le.mpr ⟨h d List.mem_cons_self, ih fun e he => h e (List.mem_cons_of_mem _ he)⟩
theorem shp_ok : ∀ (n : Nat) (d : Dat), shp n d = true → (toPy d).canLay0 = true ∧ (toPy d).depth ≤ n
  | n, .non, _ => ⟨by simp [toPy, PyData.canLay0], by simp [toPy, PyData.depth]⟩
  | n, .bl _, _ => ⟨by simp [toPy, PyData.canLay0], by simp [toPy, PyData.depth]⟩
  | n, .int _, _ => ⟨by simp [toPy, PyData.canLay0], by simp [toPy, PyData.depth]⟩
  | n, .str s, h => by
    have h' : s.cps.all (fun c => decide (c < 0x110000)) = true := by
      cases n <;> exact h
    exact ⟨by simp only [toPy, PyData.canLay0]; exact h', by simp [toPy, PyData.depth]⟩
  | 0, .tup _, h => by cases h
  | 0, .lst _, h => by cases h
  | n + 1, .tup l, h => by
    have h' : ∀ d ∈ l, shp n d = true := List.all_eq_true.mp h
    have ih : ∀ p ∈ toPys l, p.canLay0 = true ∧ p.depth ≤ n := fun p hp => by
      rw [toPys_map] at hp
      obtain ⟨d, hd, rfl⟩ := List.mem_map.mp hp
      exact shp_ok n d (h' d hd)
    refine ⟨?_, ?_⟩
    · simp only [toPy, PyData.canLay0]
      exact canAll_of fun p hp => (ih p hp).1
    · simp only [toPy, PyData.depth]
      exact Nat.succ_le_succ (depthAll_of fun p hp => (ih p hp).2)
  | n + 1, .lst l, h => by
    have h' : ∀ d ∈ l, shp n d = true := List.all_eq_true.mp h
    have ih : ∀ p ∈ toPys l, p.canLay0 = true ∧ p.depth ≤ n := fun p hp => by
      rw [toPys_map] at hp
      obtain ⟨d, hd, rfl⟩ := List.mem_map.mp hp
      exact shp_ok n d (h' d hd)
    refine ⟨?_, ?_⟩
    · simp only [toPy, PyData.canLay0]
      exact canAll_of fun p hp => (ih p hp).1
    · simp only [toPy, PyData.depth]
      exact Nat.succ_le_succ (depthAll_of fun p hp => (ih p hp).2)
  | 0, .frz _, h => by cases h
  | n + 1, .frz _, h => by cases h
  | 0, .obj _ _, h => by cases h
  | n + 1, .obj _ _, h => by cases h
theorem shaped_of {n : Nat} {d : Dat} (h : shp n d = true) (hn : n ≤ 64) : SeqAt.shaped (toPy d) = true := by
  obtain ⟨a, b⟩ := shp_ok n d h
  unfold SeqAt.shaped
  rw [a, decide_eq_true (Nat.le_trans b hn)]
  rfl
mutual
theorem eqv_toPy : ∀ (n : Nat) (d e : Dat), shp n d = true → shp n e = true → PyData.eqv (toPy d) (toPy e) = eqvD d e
  | n, .non, e, _, he => by cases e <;> first | rfl | (cases n <;> cases he)
  | n, .bl _, e, _, he => by cases e <;> first | rfl | (cases n <;> cases he)
  | n, .int _, e, _, he => by cases e <;> first | rfl | (cases n <;> cases he)
  | n, .str _, e, _, he => by cases e <;> first | rfl | (cases n <;> cases he)
  | 0, .tup _, _, hd, _ => by cases hd
  | 0, .lst _, _, hd, _ => by cases hd
  | n + 1, .tup l, e, hd, he => by
    cases e with
    | tup m =>
      simp only [toPy, PyData.eqv, eqvD]
      exact eqvs_toPy n l m (List.all_eq_true.mp hd) (List.all_eq_true.mp he)
    | frz _ => cases he
    | obj _ _ => cases he
    | _ => simp [toPy, PyData.eqv, eqvD]
  | n + 1, .lst l, e, hd, he => by
    cases e with
    | lst m =>
      simp only [toPy, PyData.eqv, eqvD]
      exact eqvs_toPy n l m (List.all_eq_true.mp hd) (List.all_eq_true.mp he)
    | frz _ => cases he
    | obj _ _ => cases he
    | _ => simp [toPy, PyData.eqv, eqvD]
  | 0, .frz _, _, hd, _ => by cases hd
  | n + 1, .frz _, _, hd, _ => by cases hd
  | 0, .obj _ _, _, hd, _ => by cases hd
  | n + 1, .obj _ _, _, hd, _ => by cases hd
theorem eqvs_toPy : ∀ (n : Nat) (l m : List Dat), (∀ d ∈ l, shp n d = true) → (∀ d ∈ m, shp n d = true) → PyData.eqvAll (toPys l) (toPys m) = eqvDs l m
  | _, [], [], _, _ => by simp [toPys, PyData.eqvAll, eqvDs]
  | _, [], _ :: _, _, _ => by simp [toPys, PyData.eqvAll, eqvDs]
  | _, _ :: _, [], _, _ => by simp [toPys, PyData.eqvAll, eqvDs]
  | n, d :: l, e :: m, h1, h2 => by
    simp only [toPys, PyData.eqvAll, eqvDs]
    rw [eqv_toPy n d e (h1 d List.mem_cons_self) (h2 e List.mem_cons_self), eqvs_toPy n l m (fun x hx => h1 x (List.mem_cons_of_mem _ hx)) fun x hx => h2 x (List.mem_cons_of_mem _ hx)]
end
section
variable {K : PySem.W.Frag} {T : CT} {H : Hp}
mutual
theorem Rep.dp : ∀ {n : Nat} {v : V} {d : Dat}, shp n d = true → Rep K T H v d → Dp K H v (toPy d)
  | _, _, _, _, .non => .non
  | _, _, _, _, .bl b => .bl b
  | _, _, _, _, .int i => .int i
  | _, _, _, _, .str x => .str x
  | n + 1, _, .tup l, h, .tup hs r => .tup hs (Reps.dp (List.all_eq_true.mp h) r)
  | n + 1, _, .lst l, h, .lst hs r => .lst (.inl (.inl hs)) (Reps.dp (List.all_eq_true.mp h) r)
  | 0, _, _, h, .tup _ _ => by cases h
  | 0, _, _, h, .lst _ _ => by cases h
  | 0, _, _, h, .frz _ _ => by cases h
  | _ + 1, _, _, h, .frz _ _ => by cases h
  | 0, _, _, h, .obj _ _ _ => by cases h
  | _ + 1, _, _, h, .obj _ _ _ => by cases h
theorem Reps.dp : ∀ {n : Nat} {vs : List V} {ds : List Dat}, (∀ d ∈ ds, shp n d = true) → Reps K T H vs ds → DpAll K H vs (toPys ds)
  | _, _, _, _, .nil => .nil
  | _, _, _, h, .cons r rs => .cons (Rep.dp (h _ List.mem_cons_self) r) (Reps.dp (fun d hd => h d (List.mem_cons_of_mem _ hd)) rs)
end
end
def eqD (d e : Dat) : Option Dat := if (shp 8 d && shp 8 e) = true then some (.bl (eqvD d e)) else none
def neD (d e : Dat) : Option Dat := if (shp 8 d && shp 8 e) = true then some (.bl (!eqvD d e)) else none
section
variable {K : PySem.W.Frag} {T : CT}
theorem rd_eq : R2D K T (rEqD K) eqD := fun S H x y dx dy d Q m rx ry e q => by
  unfold eqD at e
  split at e
  · rename_i z
    rw [Bool.and_eq_true] at z
    cases e
    refine ⟨toPy dx, toPy dy, (rx.mono hide_ex).dp z.1, (ry.mono hide_ex).dp z.2, shaped_of z.1 (by decide), shaped_of z.2 (by decide), ?_⟩
    rw [eqv_toPy 8 _ _ z.1 z.2]
    exact q _ H (Ex.refl H) (.bl _)
  · cases e
theorem rd_ne : R2D K T (rNeD K) neD := fun S H x y dx dy d Q m rx ry e q => by
  unfold neD at e
  split at e
  · rename_i z
    rw [Bool.and_eq_true] at z
    cases e
    refine ⟨toPy dx, toPy dy, (rx.mono hide_ex).dp z.1, (ry.mono hide_ex).dp z.2, shaped_of z.1 (by decide), shaped_of z.2 (by decide), ?_⟩
    rw [eqv_toPy 8 _ _ z.1 z.2]
    exact q _ H (Ex.refl H) (.bl _)
  · cases e
/-! ### order of ints, is, in -/
def cmpI (g : Int → Int → Bool) : Dat → Dat → Option Dat
  | .int i, .int j => some (.bl (g i j))
  | _, _ => none
def ltD := cmpI fun i j => decide (i < j)
def leD := cmpI fun i j => decide (i ≤ j)
def gtD := cmpI fun i j => decide (j < i)
def geD := cmpI fun i j => decide (j ≤ i)
theorem rd_cmp {g : Int → Int → Bool} : R2D K T (rI0 fun i j => .bl (g i j)) (cmpI g) := fun S H x y dx dy d Q m rx ry e q => by
  cases rx with
  | int i =>
    cases ry with
    | int j => exact ⟨i, j, rfl, rfl, by cases e; exact q _ H (Ex.refl H) (.bl _)⟩
    | _ => cases e
  | _ => cases e
def isNonD : Dat → Bool
  | .non => true
  | _ => false
def isND : Dat → Dat → Option Dat
  | d, .non => some (.bl (isNonD d))
  | _, _ => none
def notND : Dat → Dat → Option Dat
  | d, .non => some (.bl (!isNonD d))
  | _, _ => none
theorem isNon_rep {H : Hp} {x : V} {d : Dat} (r : Rep K T H x d) : decide (x = V.non) = isNonD d := by cases r <;> rfl
theorem rd_isN : R2D K T (fun x y H Q => y = .non ∧ Q (.bl (decide (x = .non))) H) isND := fun S H x y dx dy d Q m rx ry e q => by
  cases ry with
  | non =>
    refine ⟨rfl, ?_⟩
    rw [isNon_rep rx]
    have e' : some (Dat.bl (isNonD dx)) = some d := by cases dx <;> exact e
    cases e'
    exact q _ H (Ex.refl H) (.bl _)
  | _ => cases dx <;> cases e
theorem rd_notN : R2D K T (fun x y H Q => y = .non ∧ Q (.bl (!decide (x = .non))) H) notND := fun S H x y dx dy d Q m rx ry e q => by
  cases ry with
  | non =>
    refine ⟨rfl, ?_⟩
    rw [isNon_rep rx]
    have e' : some (Dat.bl (!isNonD dx)) = some d := by cases dx <;> exact e
    cases e'
    exact q _ H (Ex.refl H) (.bl _)
  | _ => cases dx <;> cases e
def isFlat : Dat → Bool
  | .non => true
  | .bl _ => true
  | .int _ => true
  | .str _ => true
  | _ => false
/-- one sign in a text -/
def oneIn (x z : Str) : Option Bool := match x.cps.toList with
  | [c] => some (decide (c ∈ z.cps.toList))
  | _ => none
def inD (neg : Bool) : Dat → Dat → Option Dat
  | x, .tup l => if (isFlat x && l.all isFlat) = true then some (.bl (if neg then !l.any (fun y => eqvD y x) else l.any (fun y => eqvD y x))) else none
  | x, .lst l => if (shp 8 x && shp 8 (.lst l)) = true then some (.bl (if neg then !l.any (fun y => eqvD y x) else l.any (fun y => eqvD y x))) else none
  | .str x, .str z => (oneIn x z).map fun b => .bl (if neg then !b else b)
  | _, _ => none
theorem flat_rep {H : Hp} {x : V} {d : Dat} (r : Rep K T H x d) : flatV x = isFlat d := by cases r <;> rfl
theorem flats_rep {H : Hp} : ∀ {xs : List V} {ds : List Dat}, Reps K T H xs ds → xs.all flatV = ds.all isFlat
  | _, _, .nil => rfl
  | _, _, .cons r s => by rw [List.all_cons, List.all_cons, flat_rep r, flats_rep s]
theorem eqV_rep {H : Hp} {x y : V} {d e : Dat} (r : Rep K T H y e) (s : Rep K T H x d) (f : isFlat d = true) (g : isFlat e = true) : eqV y x = eqvD e d := by
  cases r <;> cases s <;> first | rfl | (cases f) | (cases g) | skip
theorem inV_rep {H : Hp} {x : V} {d : Dat} (s : Rep K T H x d) (f : isFlat d = true) : ∀ {xs : List V} {ds : List Dat}, Reps K T H xs ds → ds.all isFlat = true → inV x xs = ds.any fun y => eqvD y d
  | _, _, .nil, _ => rfl
  | _, e :: es, .cons r rs, g => by
    have g' : isFlat e = true ∧ es.all isFlat = true := by
      rw [List.all_cons, Bool.and_eq_true] at g
      exact g
    have ih := inV_rep s f rs g'.2
    unfold inV at ih ⊢
    rw [List.any_cons, List.any_cons, eqV_rep r s f g'.1, ih]
def rInAll (K : PySem.W.Frag) (neg : Bool) : R2 := fun x y H Q => rIn K neg x y H Q ∨ ((∃ d ds, Dp K H x d ∧ Dp K H y (.list ds) ∧ SeqAt.shaped d = true ∧ SeqAt.shaped (.list ds) = true ∧ Q (.bl (if neg then !ds.any fun z => PyData.eqv z d else ds.any fun z => PyData.eqv z d)) H) ∨
  ∃ (c : Nat) (z : Str), x = .str ⟨#[c]⟩ ∧ y = .str z ∧ Q (.bl (if neg then !decide (c ∈ z.cps.toList) else decide (c ∈ z.cps.toList))) H)
theorem op_inAll {X : Cx} (hu : X.A.units + 65 < cLine) : OpR X (compareOp .In) (rInAll X.K false) := op_in_seq.or ((op_inD hu).or op_in_sign)
theorem op_notInAll {X : Cx} (hu : X.A.units + 65 < cLine) : OpR X (compareOp .NotIn) (rInAll X.K true) := op_notIn_seq.or ((op_notInD hu).or op_notIn_sign)
theorem any_toPy {n : Nat} {d : Dat} (h : shp n d = true) : ∀ {l : List Dat}, (∀ e ∈ l, shp n e = true) → (toPys l).any (fun z => PyData.eqv z (toPy d)) = l.any fun y => eqvD y d
  | [], _ => rfl
  | e :: l, hl => by rw [toPys, List.any_cons, List.any_cons, eqv_toPy n e d (hl e List.mem_cons_self) h, any_toPy h fun x hx => hl x (List.mem_cons_of_mem _ hx)]
theorem shp_up : ∀ (n : Nat) (d : Dat), shp n d = true → shp (n + 1) d = true
  | n, .non, _ => rfl
  | n, .bl _, _ => rfl
  | n, .int _, _ => rfl
  | n, .str s, h => by cases n <;> exact h
  | 0, .tup _, h => by cases h
  | 0, .lst _, h => by cases h
  | n + 1, .tup l, h => by
    have h' : ∀ d ∈ l, shp n d = true := List.all_eq_true.mp h
    exact List.all_eq_true.mpr fun d hd => shp_up n d (h' d hd)
  | n + 1, .lst l, h => by
    have h' : ∀ d ∈ l, shp n d = true := List.all_eq_true.mp h
    exact List.all_eq_true.mpr fun d hd => shp_up n d (h' d hd)
  | 0, .frz _, h => by cases h
  | n + 1, .frz _, h => by cases h
  | 0, .obj _ _, h => by cases h
  | n + 1, .obj _ _, h => by cases h
theorem rd_in {neg : Bool} : R2D K T (rInAll K neg) (inD neg) := fun S H x y dx dy d Q m rx ry e q => by
  cases ry with
  | @tup p vs ds hs rs =>
    have e' : (if (isFlat dx && ds.all isFlat) = true then some (Dat.bl (if neg then !ds.any (fun y => eqvD y dx) else ds.any (fun y => eqvD y dx))) else none) = some d := by cases dx <;> exact e
    split at e'
    · rename_i z
      rw [Bool.and_eq_true] at z
      cases e'
      refine .inl ⟨p, vs, rfl, .inr (ex_t hide_ex hs), by rw [flat_rep rx]; exact z.1, by rw [flats_rep rs]; exact z.2, ?_⟩
      rw [inV_rep rx z.1 rs z.2]
      exact q _ H (Ex.refl H) (.bl _)
    · cases e'
  | @lst p vs ds hs rs =>
    have e' : (if (shp 8 dx && shp 8 (.lst ds)) = true then some (Dat.bl (if neg then !ds.any (fun y => eqvD y dx) else ds.any (fun y => eqvD y dx))) else none) = some d := by cases dx <;> exact e
    split at e'
    · rename_i z
      rw [Bool.and_eq_true] at z
      cases e'
      have za : ∀ d ∈ ds, shp 8 d = true := fun d hd => shp_up 7 d (List.all_eq_true.mp z.2 d hd)
      refine .inr (.inl ⟨toPy dx, toPys ds, (rx.mono hide_ex).dp z.1, ?_, shaped_of z.1 (by decide), ?_, ?_⟩)
      · exact (Rep.mono hide_ex (.lst hs rs)).dp (d := .lst ds) z.2
      · exact shaped_of (d := .lst ds) z.2 (by decide)
      · rw [any_toPy z.1 za]
        exact q _ H (Ex.refl H) (.bl _)
    · cases e'
  | str z =>
    cases rx with
    | str w =>
      obtain ⟨⟨l⟩⟩ := w
      simp only [inD, oneIn] at e
      match l, e with
      | [], e => cases e
      | [c], e =>
        cases e
        exact .inr (.inr ⟨c, z, rfl, rfl, q _ H (Ex.refl H) (.bl _)⟩)
      | _ :: _ :: _, e => cases e
    | _ => cases e
  | _ => cases dx <;> cases e
/-! ### items -/
def ixD : Dat → Dat → Option Dat
  | .lst l, .int i => atI l i
  | .frz l, .int i => atI l i
  | .tup l, .int i => atI l i
  | .str z, .int i => if z.length ≤ sizeLine then (atI z.cps.toList i).map fun c => .str ⟨#[c]⟩ else none
  | _, _ => none
theorem atI_rep {H : Hp} {vs : List V} {ds : List Dat} {i : Int} {d : Dat} (r : Reps K T H vs ds) (h : atI ds i = some d) : ∃ v, atI vs i = some v ∧ Rep K T H v d := by
  unfold atI at h ⊢
  rw [r.length]
  cases q : ixN ds.length i with
  | none =>
    rw [q] at h
    cases h
  | some j =>
    rw [q] at h
    obtain ⟨v, h1, h2⟩ := r.get h
    exact ⟨v, h1, h2⟩
theorem rd_ix : R2D K T (rIx K) ixD := fun S H x y dx dy d Q m rx ry e q => by
  cases rx with
  | @lst p vs ds hs rs =>
    cases ry with
    | int i =>
      obtain ⟨v, h1, h2⟩ := atI_rep rs e
      exact .inl ⟨p, vs, i, v, rfl, rfl, .inl (.inl (hide_ex _ _ hs)), h1, q v H (Ex.refl H) h2⟩
    | _ => cases e
  | @frz p vs ds hs rs =>
    cases ry with
    | int i =>
      obtain ⟨v, h1, h2⟩ := atI_rep rs e
      exact .inl ⟨p, vs, i, v, rfl, rfl, ex_l hide_ex hs, h1, q v H (Ex.refl H) h2⟩
    | _ => cases e
  | @tup p vs ds hs rs =>
    cases ry with
    | int i =>
      obtain ⟨v, h1, h2⟩ := atI_rep rs e
      exact .inr (.inl ⟨p, vs, i, v, rfl, rfl, ex_t hide_ex hs, h1, q v H (Ex.refl H) h2⟩)
    | _ => cases e
  | str z =>
    cases ry with
    | int i =>
      simp only [ixD] at e
      split at e
      · rename_i hz
        cases h : atI z.cps.toList i with
        | none =>
          rw [h] at e
          cases e
        | some c =>
          rw [h] at e
          cases e
          exact .inr (.inr ⟨z, i, c, rfl, rfl, hz, h, q _ H (Ex.refl H) (.str _)⟩)
      · cases e
    | _ => cases e
  | _ => cases e
end
section
variable {X : Cx} {T : CT} {W : WX} {ow : List Nat} {e a b c : Expr} {es : List Expr} {pos : Pos} {fa fb fc : DEnv → Res Dat}
theorem de_ix (ha : DE X T W ow a fa) (hb : DE X T W ow b fb) (hs : PlainIx b := by exact fun _ _ => rfl) : DE X T W ow (.Subscript a b pos) (vOp ixD fa fb) := pe_imp (pe_ix ix_seq ha hb hs) fun _ _ _ h => rd_ix.read h
theorem de_neg (ha : DE X T W ow a fa) : DE X T W ow (.UnaryOp .USub a pos) (v1 negD fa) := pe_imp (pe_un un_neg ha) fun σ H Q h => by
  obtain ⟨ρ, S, re, w⟩ := h
  refine Want.part re w fun x dx H1 w1 re1 e1 rx => ?_
  cases rx with
  | int i => exact ⟨i, rfl, w1 _ H1 (Ex.refl H1) (.int _)⟩
  | _ => exact w1.elim
/-- a < b < c -/
def vChainK (h : Dat → Dat → Option Dat) (fc : DEnv → Res Dat) (ρ : DEnv) (y : Dat) : Dat → Res Dat
  | .bl true => (fc ρ).bind fun w => ofO (h y w)
  | .bl false => .ok (.bl false)
  | _ => .stuck
def vChain (g h : Dat → Dat → Option Dat) (fa fb fc : DEnv → Res Dat) : DEnv → Res Dat := fun ρ => (fa ρ).bind fun x => (fb ρ).bind fun y => (ofO (g x y)).bind fun z => vChainK h fc ρ y z
theorem chain_read {r r' : R2} {g h : Dat → Dat → Option Dat} {K : PySem.W.Frag} {σ : Sg} {H : Hp} {Q : VK} (rd : R2D K T r g) (rd' : R2D K T r' h) (q : tD K T W ow (vChain g h fa fb fc) σ H Q) :
    tChain r r' (tD K T W ow fa) (tD K T W ow fb) (tD K T W ow fc) σ H Q := by
  obtain ⟨ρ, S, re, w⟩ := q
  refine Want.part re w fun x dx H1 w1 re1 e1 rx => ?_
  refine Want.part re1 w1 fun y dy H2 w2 re2 e2 ry => ?_
  cases q : g dx dy with
  | none =>
    rw [q] at w2
    exact w2.elim
  | some d =>
    rw [q] at w2
    refine rd S H2 x y dx dy d _ re2.mt (rx.mono (hide_mono e2)) ry q fun v H3 e3 rv => ?_
    have w3 : Want K T W σ H3 S (vChainK h fc ρ dy d) Q := Want.mono w2 e3
    cases rv with
    | bl k =>
      refine ⟨k, rfl, ?_⟩
      cases k with
      | false => exact w3 _ H3 (Ex.refl H3) (.bl false)
      | true =>
        show tD K T W ow fc σ H3 _
        refine Want.part (re2.mono e3) w3 fun z dz H4 w4 re4 e4 rz => ?_
        cases q' : h dy dz with
        | none =>
          rw [q'] at w4
          exact w4.elim
        | some d' =>
          rw [q'] at w4
          exact rd' S H4 y z dy dz d' Q re4.mt ((ry.mono (hide_mono e3)).mono (hide_mono e4)) rz q' w4
    | _ => exact w3.elim
end
end Dl
/-! The D layer, part 4: slices, attributes, built-ins, calls, comprehensions. -/
namespace Dl
open PySem PySem.Spec PyProof.Rows L2

/-! ### slices -/
def WantO (T : CT) (W : WX) (σ : Sg) (H : Hp) : Res (Option Int) → (Option Int → Hp → Prop) → Prop
  | .ok d, Q => ∀ H', Ex H H' → Q d H'
  | .exc c, _ => ∀ H', Ex H H' → W (T.exc c) none σ H'
  | .stuck, _ => False
def tDO (K : PySem.W.Frag) (T : CT) (W : WX) (ow : List Nat) (f : DEnv → Res (Option Int)) : TO := fun σ H Q => ∃ ρ S, RE K T ow σ ρ H S ∧ WantO T W σ H (f ρ) Q
def DO (X : Cx) (T : CT) (W : WX) (ow : List Nat) (e : Option Expr) (f : DEnv → Res (Option Int)) : Prop := PO X e (tDO X.K T W ow f)
theorem po_imp {X : Cx} {e : Option Expr} {t t' : TO} (h : PO X e t) (i : ∀ σ H Q, t' σ H Q → t σ H Q) : PO X e t' := ⟨fun pins s σ H Q I q => h.run pins s σ H Q I (i σ H Q q)⟩
def oNone : DEnv → Res (Option Int) := fun _ => .ok none
def oInt : Dat → Res (Option Int)
  | .int i => .ok (some i)
  | _ => .stuck
def oSome (f : DEnv → Res Dat) : DEnv → Res (Option Int) := fun ρ => (f ρ).bind oInt
def cutD {α : Type} (xs : List α) (lo hi : Option Int) : List α := (xs.drop (HT.sIx xs.length 0 lo)).take (HT.sIx xs.length xs.length hi - HT.sIx xs.length 0 lo)
def slD : Dat → Option Int → Option Int → Option Dat
  | .lst l, lo, hi => some (.lst (cutD l lo hi))
  | .frz l, lo, hi => some (.lst (cutD l lo hi))
  | .tup l, lo, hi => some (.tup (cutD l lo hi))
  | .str z, lo, hi => if z.length ≤ sizeLine then some (.str (cutS z lo hi)) else none
  | _, _, _ => none
def vSl (fa : DEnv → Res Dat) (fl fh : DEnv → Res (Option Int)) : DEnv → Res Dat := fun ρ => (fa ρ).bind fun x => (fl ρ).bind fun l => (fh ρ).bind fun h => ofO (slD x l h)
def fSl (fa : DEnv → Res Dat) (fl fh : DEnv → Res (Option Int)) : DEnv → Res (List Dat) := fun ρ => (fa ρ).bind fun x => (fl ρ).bind fun l => (fh ρ).bind fun h => match x with
  | .lst xs => .ok (cutD xs l h)
  | .frz xs => .ok (cutD xs l h)
  | _ => .stuck
section
variable {K : PySem.W.Frag} {T : CT} {W : WX} {H : Hp} {ow : List Nat} {σ : Sg} {ρ : DEnv} {S : List Addr}
theorem Reps.cut {vs : List V} {ds : List Dat} (r : Reps K T H vs ds) (lo hi : Option Int) : Reps K T H (cutV vs lo hi) (cutD ds lo hi) := by
  unfold cutV cutD
  rw [r.length]
  exact (r.drop _).take _
theorem Want.partO {fa : DEnv → Res (Option Int)} {k : Option Int → Res Dat} {Q : VK} {R : Option Int → Hp → Prop} (re : RE K T ow σ ρ H S) (w : Want K T W σ H S ((fa ρ).bind k) Q)
    (hk : ∀ d H1, Want K T W σ H1 S (k d) Q → RE K T ow σ ρ H1 S → Ex H H1 → R d H1) : tDO K T W ow fa σ H R := by
  refine ⟨ρ, S, re, ?_⟩
  cases q : fa ρ with
  | ok d =>
    rw [q] at w
    exact fun H' e => hk d H' (w.mono e) (re.mono e) e
  | exc c =>
    rw [q] at w
    exact w
  | stuck =>
    rw [q] at w
    exact w.elim
theorem WantF.partO {fa : DEnv → Res (Option Int)} {k : Option Int → Res (List Dat)} {Q : VK} {R : Option Int → Hp → Prop} (re : RE K T ow σ ρ H S) (w : WantF K T W σ H S ((fa ρ).bind k) Q)
    (hk : ∀ d H1, WantF K T W σ H1 S (k d) Q → RE K T ow σ ρ H1 S → Ex H H1 → R d H1) : tDO K T W ow fa σ H R := by
  refine ⟨ρ, S, re, ?_⟩
  cases q : fa ρ with
  | ok d =>
    rw [q] at w
    exact fun H' e => hk d H' (w.mono e) (re.mono e) e
  | exc c =>
    rw [q] at w
    exact w
  | stuck =>
    rw [q] at w
    exact w.elim
end
section
variable {X : Cx} {T : CT} {W : WX} {ow : List Nat} {e a b c : Expr} {es : List Expr} {pos p2 : Pos} {fa fb fc : DEnv → Res Dat} {lo hi : Option Expr} {fl fh : DEnv → Res (Option Int)}
theorem do_none : DO X T W ow none oNone := po_imp po_none fun σ H Q h => by
  obtain ⟨ρ, S, re, w⟩ := h
  exact w H (Ex.refl H)
theorem do_some (h : DE X T W ow e fa) : DO X T W ow (some e) (oSome fa) := po_imp (po_some h) fun σ H Q h => by
  obtain ⟨ρ, S, re, w⟩ := h
  refine ⟨ρ, S, re, ?_⟩
  unfold oSome at w
  cases q : fa ρ with
  | ok d =>
    rw [q] at w
    intro v H' e r
    cases r with
    | int i => exact ⟨i, rfl, w H' e⟩
    | _ => exact w.elim
  | exc c =>
    rw [q] at w
    exact w
  | stuck =>
    rw [q] at w
    exact w.elim
theorem de_slice (ha : DE X T W ow e fa) (hl : DO X T W ow lo fl) (hh : DO X T W ow hi fh) : DE X T W ow (.Subscript e (.Slice lo hi none p2) pos) (vSl fa fl fh) := pe_imp (pe_slice (sl_list.or (sl_tupA.or sl_str)) ha hl hh) fun σ H Q h => by
  obtain ⟨ρ, S, re, w⟩ := h
  refine Want.part re w fun x dx H1 w1 re1 e1 rx => ?_
  refine Want.partO re1 w1 fun l H2 w2 re2 e2 => ?_
  refine Want.partO re2 w2 fun h H3 w3 re3 e3 => ?_
  have rx3 := (rx.mono (hide_mono e2)).mono (hide_mono e3)
  cases rx3 with
  | @lst p vs ds hs rs => exact .inl ⟨p, vs, rfl, .inl (.inl (hide_ex _ _ hs)), fun p2 np => w3 _ _ (Ex.new np) (rep_newL re3.mt np (rs.cut l h))⟩
  | @frz p vs ds hs rs => exact .inl ⟨p, vs, rfl, ex_l hide_ex hs, fun p2 np => w3 _ _ (Ex.new np) (rep_newL re3.mt np (rs.cut l h))⟩
  | @tup p vs ds hs rs =>
    refine .inr (.inl ⟨p, vs, rfl, ex_t hide_ex hs, fun hw => ?_, fun hw p2 np => w3 _ _ (Ex.new np) (rep_newT re3.mt np (rs.cut l h))⟩)
    have e0 : cutD ds l h = ds := by
      unfold cutD
      rw [rs.length] at hw
      rw [hw.1, hw.2, List.drop_zero, Nat.sub_zero, List.take_length]
    have w4 : Want X.K T W σ H3 S (.ok (.tup (cutD ds l h))) Q := w3
    rw [e0] at w4
    exact w4 _ H3 (Ex.refl H3) (.tup hs rs)
  | str z =>
    have w4 : Want X.K T W σ H3 S (ofO (if z.length ≤ sizeLine then some (.str (cutS z l h)) else none)) Q := w3
    by_cases hz : z.length ≤ sizeLine
    · rw [if_pos hz] at w4
      exact .inr (.inr ⟨z, rfl, hz, w4 _ H3 (Ex.refl H3) (.str _)⟩)
    · rw [if_neg hz] at w4
      exact w4.elim
  | _ => exact w3.elim
theorem df_slice (ha : DE X T W ow e fa) (hl : DO X T W ow lo fl) (hh : DO X T W ow hi fh) : DF X T W ow (.Subscript e (.Slice lo hi none p2) pos) (fSl fa fl fh) := pe_imp (pe_slice sl_list ha hl hh) fun σ H Q h => by
  obtain ⟨ρ, S, re, w⟩ := h
  refine WantF.part re w fun x dx H1 w1 re1 e1 rx => ?_
  refine WantF.partO re1 w1 fun l H2 w2 re2 e2 => ?_
  refine WantF.partO re2 w2 fun h H3 w3 re3 e3 => ?_
  have rx3 := (rx.mono (hide_mono e2)).mono (hide_mono e3)
  cases rx3 with
  | @lst p vs ds hs rs => exact ⟨p, vs, rfl, .inl (.inl (hide_ex _ _ hs)), fun p2 np => w3 p2 _ _ (Ex.new np) np upd_same ((rs.cut l h).mono (hide_new (Ex.new np) np))⟩
  | @frz p vs ds hs rs => exact ⟨p, vs, rfl, ex_l hide_ex hs, fun p2 np => w3 p2 _ _ (Ex.new np) np upd_same ((rs.cut l h).mono (hide_new (Ex.new np) np))⟩
  | _ => exact w3.elim

/-! ### attributes -/
theorem lookup_at {ns : List Str} {f : Str} : ∀ {fs : List (Str × V)} {ns : List Str} {j : Nat}, fs.map (·.1) = ns → ns.findIdx? (· == f) = some j → fs.lookup f = (fs.map (·.2))[j]?
  | [], ns, j, h, h2 => by
    subst h
    cases h2
  | (g, v) :: fs, ns, j, h, h2 => by
    subst h
    rw [List.map_cons, List.findIdx?_cons] at h2
    by_cases z : (g == f) = true
    · rw [if_pos z] at h2
      cases h2
      have z' : g = f := eq_of_beq z
      subst z'
      simp [List.lookup]
    · rw [if_neg z] at h2
      cases q : List.findIdx? (fun x => x == f) (List.map (fun x => x.1) fs) with
      | none =>
        rw [q] at h2
        cases h2
      | some i =>
        rw [q] at h2
        cases h2
        have ih := lookup_at (ns := ns) (fs := fs) rfl q
        have z2 : (f == g) = false := by
          cases y : f == g with
          | false => rfl
          | true =>
            have y' : f = g := eq_of_beq y
            subst y'
            exact absurd (beq_self_eq_true f) z
        rw [List.lookup, z2]
        simpa using ih
def fldD (c j : Nat) : Dat → Option Dat
  | .obj c' l => if c' = c then l[j]? else none
  | _ => none
theorem de_fld {f : Str} {c j : Nat} (ha : DE X T W ow e fa) (cl : Cls X.K (T.addr c)) (na : NoAttr X.K (T.addr c) f) (hj : (T.names c).findIdx? (· == f) = some j) (hb : attributeBase e f X.env (eval e X.env) = eval e X.env := by rfl) :
    DE X T W ow (.Attribute e f pos) (v1 (fldD c j) fa) := pe_imp (pe_fld ha hb) fun σ H Q h => by
  obtain ⟨ρ, S, re, w⟩ := h
  refine Want.part re w fun x dx H1 w1 re1 e1 rx => ?_
  cases rx with
  | @obj p dx c' fs ds hs hn rs =>
    have w2 : Want X.K T W σ H1 S (ofO (if c' = c then ds[j]? else none)) Q := w1
    by_cases z : c' = c
    · subst z
      rw [if_pos rfl] at w2
      cases q : ds[j]? with
      | none =>
        rw [q] at w2
        exact w2.elim
      | some d =>
        rw [q] at w2
        obtain ⟨v, h1, h2⟩ := rs.get q
        exact ⟨p, _, dx, fs, v, rfl, hide_ex _ _ hs, cl, na, (lookup_at (ns := []) hn hj).trans h1, w2 v H1 (Ex.refl H1) h2⟩
    · rw [if_neg z] at w2
      exact w2.elim
  | _ => exact w1.elim

/-! ### built-ins -/
def RcD (K : PySem.W.Frag) (T : CT) (r : List V → Hp → VK → Prop) (g : List Dat → Option Dat) : Prop := ∀ (S : List Addr) (H : Hp) (vs : List V) (ds : List Dat) (d : Dat) (Q : VK), Hid H S → Reps K T (hide H S) vs ds → g ds = some d →
  (∀ v H', Ex H H' → Rep K T (hide H' S) v d → Q v H') → r vs H Q
def vCB (g : List Dat → Option Dat) (fs : DEnv → Res (List Dat)) : DEnv → Res Dat := fun ρ => (fs ρ).bind fun ds => ofO (g ds)
theorem RcD.read {K : PySem.W.Frag} {r : List V → Hp → VK → Prop} {g : List Dat → Option Dat} {fs : DEnv → Res (List Dat)} {σ : Sg} {H : Hp} {Q : VK} (rd : RcD K T r g) (h : tD K T W ow (vCB g fs) σ H Q) : tCB r (tDA K T W ow fs) σ H Q := by
  obtain ⟨ρ, S, re, w⟩ := h
  refine Want.partA re w fun vs ds H1 w1 re1 e1 rs => ?_
  cases q : g ds with
  | none =>
    rw [q] at w1
    exact w1.elim
  | some d =>
    rw [q] at w1
    exact rd S H1 vs ds d Q re1.mt rs q w1
variable {x : Str} {id Ty : String} {r : List V → Hp → VK → Prop} {g : List Dat → Option Dat} {fs : DEnv → Res (List Dat)} {p : Pos}
theorem de_callB (hc : CallR X (.builtin id) r) (rd : RcD X.K T r g) (hm : X.mg x = none) (hv : bootBuiltins x = some (.builtin id)) (ha : DA X T W ow (e :: es) fs) (hg : Gl X x := by rfl) (hn : x ≠ "__name__" := by decide) (hdb : (x == ("__debug__" : Str)) = false := by decide)
    (he : starEach (e :: es) X.env = (false, eval e X.env) :: starEach es X.env := by rfl) (hpl : (backTo pos (starEach es X.env)).any (·.1) = false := by rfl) : DE X T W ow (.Call (.Name x p) (e :: es) [] pos) (vCB g fs) :=
  pe_imp (pe_callB hc hg hm hv ha hn hdb he hpl) fun _ _ _ h => rd.read h
theorem de_callTy (hc : CallR X (.type Ty) r) (rd : RcD X.K T r g) (hm : X.mg x = none) (hv : bootBuiltins x = some (.type Ty)) (ha : DA X T W ow (e :: es) fs) (hg : Gl X x := by rfl) (hn : x ≠ "__name__" := by decide) (hdb : (x == ("__debug__" : Str)) = false := by decide)
    (he : starEach (e :: es) X.env = (false, eval e X.env) :: starEach es X.env := by rfl) (hpl : (backTo pos (starEach es X.env)).any (·.1) = false := by rfl) : DE X T W ow (.Call (.Name x p) (e :: es) [] pos) (vCB g fs) :=
  pe_imp (pe_callTy hc hg hm hv ha hn hdb he hpl) fun _ _ _ h => rd.read h
end
/-- the data of each built-in -/
def lenD : List Dat → Option Dat
  | [.str s] => if s.length ≤ sizeLine then some (.int s.length) else none
  | [.lst l] => some (.int l.length)
  | [.frz l] => some (.int l.length)
  | [.tup l] => some (.int l.length)
  | _ => none
def absD : List Dat → Option Dat
  | [.int i] => some (.int (if i < 0 then -i else i))
  | _ => none
def intD : List Dat → Option Dat
  | [.int i] => some (.int i)
  | [.bl k] => some (.int (if k then 1 else 0))
  | _ => none
def max2D : List Dat → Option Dat
  | [.int i, .int j] => some (.int (if j > i then j else i))
  | _ => none
def min2D : List Dat → Option Dat
  | [.int i, .int j] => some (.int (if j < i then j else i))
  | _ => none
def boolsD : List Dat → Option (List Bool)
  | [] => some []
  | .bl b :: r => (boolsD r).map fun l => b :: l
  | _ => none
def intsD : List Dat → Option (List Int)
  | [] => some []
  | .int b :: r => (intsD r).map fun l => b :: l
  | _ => none
def allD : List Dat → Option Dat
  | [.lst l] => (boolsD l).map fun bs => .bl (bs.all id)
  | _ => none
def anyD : List Dat → Option Dat
  | [.lst l] => (boolsD l).map fun bs => .bl (bs.any id)
  | _ => none
def sumD : List Dat → Option Dat
  | [.lst l] => (intsD l).map fun bs => .int bs.sum
  | _ => none
def tupleD : List Dat → Option Dat
  | [.lst l] => some (.tup l)
  | [.frz l] => some (.tup l)
  | [.tup l] => some (.tup l)
  | _ => none
def listD : List Dat → Option Dat
  | [.lst l] => some (.lst l)
  | [.frz l] => some (.lst l)
  | [.tup l] => some (.lst l)
  | _ => none
section
variable {K : PySem.W.Frag} {T : CT} {H : Hp}
theorem Reps.boolsD : ∀ {vs : List V} {ds : List Dat} {bs : List Bool}, Reps K T H vs ds → Dl.boolsD ds = some bs → vs = bs.map V.bl
  | _, _, _, .nil, h => by
    cases h
    rfl
  | _, _, _, .cons (d := d) (ds := ds) r rs, h => by
    cases r with
    | bl b =>
      unfold Dl.boolsD at h
      cases q : Dl.boolsD ds with
      | none =>
        rw [q] at h
        cases h
      | some l =>
        rw [q] at h
        cases h
        rw [Reps.boolsD rs q]
        rfl
    | _ => cases h
theorem Reps.intsD : ∀ {vs : List V} {ds : List Dat} {bs : List Int}, Reps K T H vs ds → Dl.intsD ds = some bs → vs = bs.map V.int
  | _, _, _, .nil, h => by
    cases h
    rfl
  | _, _, _, .cons (d := d) (ds := ds) r rs, h => by
    cases r with
    | int b =>
      unfold Dl.intsD at h
      cases q : Dl.intsD ds with
      | none =>
        rw [q] at h
        cases h
      | some l =>
        rw [q] at h
        cases h
        rw [Reps.intsD rs q]
        rfl
    | _ => cases h
theorem Reps.of_ints : ∀ (l : List Int), Reps K T H (l.map V.int) (l.map Dat.int)
  | [] => .nil
  | i :: l => .cons (.int i) (Reps.of_ints l)
theorem rc_len : RcD K T (fun xs H Q => ∃ x n, xs = [x] ∧ LenV K x H n ∧ Q (.int n) H) lenD := fun S H vs ds d Q m rs e q => by
  cases rs with
  | nil => cases e
  | cons r rs =>
    cases rs with
    | cons _ _ => cases r <;> cases e
    | nil =>
      cases r with
      | str s =>
        simp only [lenD] at e
        split at e
        · rename_i z
          cases e
          exact ⟨_, s.length, rfl, ⟨z, rfl⟩, q _ H (Ex.refl H) (.int _)⟩
        · cases e
      | @lst p vs ds hs rs =>
        cases e
        exact ⟨_, ds.length, rfl, .inl ⟨vs, .inl (.inl (hide_ex _ _ hs)), rs.length.symm⟩, q _ H (Ex.refl H) (.int _)⟩
      | @frz p vs ds hs rs =>
        cases e
        exact ⟨_, ds.length, rfl, .inl ⟨vs, ex_l hide_ex hs, rs.length.symm⟩, q _ H (Ex.refl H) (.int _)⟩
      | @tup p vs ds hs rs =>
        cases e
        exact ⟨_, ds.length, rfl, .inr ⟨vs, ex_t hide_ex hs, rs.length.symm⟩, q _ H (Ex.refl H) (.int _)⟩
      | _ => cases e
theorem rc_abs : RcD K T (fun xs H Q => ∃ i, xs = [.int i] ∧ Q (.int (if i < 0 then -i else i)) H) absD := fun S H vs ds d Q m rs e q => by
  cases rs with
  | nil => cases e
  | cons r rs =>
    cases rs with
    | cons _ _ => cases r <;> cases e
    | nil =>
      cases r with
      | int i =>
        cases e
        exact ⟨i, rfl, q _ H (Ex.refl H) (.int _)⟩
      | _ => cases e
theorem rc_int : RcD K T (fun xs H Q => (∃ i, xs = [.int i] ∧ Q (.int i) H) ∨ ∃ k, xs = [.bl k] ∧ Q (.int (if k then 1 else 0)) H) intD := fun S H vs ds d Q m rs e q => by
  cases rs with
  | nil => cases e
  | cons r rs =>
    cases rs with
    | cons _ _ => cases r <;> cases e
    | nil =>
      cases r with
      | int i =>
        cases e
        exact .inl ⟨i, rfl, q _ H (Ex.refl H) (.int _)⟩
      | bl k =>
        cases e
        exact .inr ⟨k, rfl, q _ H (Ex.refl H) (.int _)⟩
      | _ => cases e
theorem rc_max2 : RcD K T (fun xs H Q => ∃ i j, xs = [.int i, .int j] ∧ Q (.int (if j > i then j else i)) H) max2D := fun S H vs ds d Q m rs e q => by
  cases rs with
  | nil => cases e
  | cons r rs =>
    cases rs with
    | nil => cases r <;> cases e
    | cons r2 rs =>
      cases rs with
      | cons _ _ => cases r <;> cases r2 <;> cases e
      | nil =>
        cases r with
        | int i =>
          cases r2 with
          | int j =>
            cases e
            exact ⟨i, j, rfl, q _ H (Ex.refl H) (.int _)⟩
          | _ => cases e
        | _ => cases e
theorem rc_min2 : RcD K T (fun xs H Q => ∃ i j, xs = [.int i, .int j] ∧ Q (.int (if j < i then j else i)) H) min2D := fun S H vs ds d Q m rs e q => by
  cases rs with
  | nil => cases e
  | cons r rs =>
    cases rs with
    | nil => cases r <;> cases e
    | cons r2 rs =>
      cases rs with
      | cons _ _ => cases r <;> cases r2 <;> cases e
      | nil =>
        cases r with
        | int i =>
          cases r2 with
          | int j =>
            cases e
            exact ⟨i, j, rfl, q _ H (Ex.refl H) (.int _)⟩
          | _ => cases e
        | _ => cases e
/-- one list -/
theorem rc_list {r : List V → Hp → VK → Prop} {g : List Dat → Option Dat} {k : List Dat → Option Dat} (hg : ∀ ds d, g ds = some d → ∃ l, ds = [.lst l] ∧ k l = some d)
    (h : ∀ (S : List Addr) (H : Hp) (p : Addr) (vs : List V) (l : List Dat) (d : Dat) (Q : VK), Hid H S → H p = some (.lst vs) → Reps K T (hide H S) vs l → k l = some d → (∀ v H', Ex H H' → Rep K T (hide H' S) v d → Q v H') → r [.ref p] H Q) : RcD K T r g :=
  fun S H vs ds d Q m rs e q => by
    obtain ⟨l, rfl, e2⟩ := hg ds d e
    cases rs with
    | cons r rs =>
      cases rs
      cases r with
      | @lst p vs _ hs rs => exact h S H p vs l d Q m (hide_ex _ _ hs) rs e2 q
theorem rc_all : RcD K T (rAll K) allD := rc_list (k := fun l => (boolsD l).map fun bs => .bl (bs.all id)) (fun ds d e => by
  unfold allD at e
  split at e
  · exact ⟨_, rfl, e⟩
  · cases e) fun S H p vs l d Q m hs rs e q => by
    cases z : boolsD l with
    | none =>
      rw [z] at e
      cases e
    | some bs =>
      rw [z] at e
      cases e
      have := rs.boolsD z
      subst this
      exact ⟨p, bs, rfl, .inl (.inl hs), q _ H (Ex.refl H) (.bl _)⟩
theorem rc_any : RcD K T (rAny K) anyD := rc_list (k := fun l => (boolsD l).map fun bs => .bl (bs.any id)) (fun ds d e => by
  unfold anyD at e
  split at e
  · exact ⟨_, rfl, e⟩
  · cases e) fun S H p vs l d Q m hs rs e q => by
    cases z : boolsD l with
    | none =>
      rw [z] at e
      cases e
    | some bs =>
      rw [z] at e
      cases e
      have := rs.boolsD z
      subst this
      exact ⟨p, bs, rfl, .inl (.inl hs), q _ H (Ex.refl H) (.bl _)⟩
theorem rc_sum : RcD K T (rSum K) sumD := rc_list (k := fun l => (intsD l).map fun bs => .int bs.sum) (fun ds d e => by
  unfold sumD at e
  split at e
  · exact ⟨_, rfl, e⟩
  · cases e) fun S H p vs l d Q m hs rs e q => by
    cases z : intsD l with
    | none =>
      rw [z] at e
      cases e
    | some bs =>
      rw [z] at e
      cases e
      have := rs.intsD z
      subst this
      exact ⟨p, bs, rfl, .inl (.inl hs), q _ H (Ex.refl H) (.int _)⟩
theorem rc_tuple : RcD K T (fun xs H Q => ∃ p ys, xs = [.ref p] ∧ ((SqL K H p ys ∧ ∀ l, H l = none → Q (.ref l) (upd H l (.tup ys))) ∨ (SqT K H p ys ∧ Q (.ref p) H))) tupleD := fun S H vs ds d Q m rs e q => by
  cases rs with
  | nil => cases e
  | cons r rs =>
    cases rs with
    | cons _ _ => cases r <;> cases e
    | nil =>
      cases r with
      | @lst p vs ds hs rs =>
        cases e
        exact ⟨p, vs, rfl, .inl ⟨.inl (.inl (hide_ex _ _ hs)), fun l nl => q _ _ (Ex.new nl) (rep_newT m nl rs)⟩⟩
      | @frz p vs ds hs rs =>
        cases e
        exact ⟨p, vs, rfl, .inl ⟨ex_l hide_ex hs, fun l nl => q _ _ (Ex.new nl) (rep_newT m nl rs)⟩⟩
      | @tup p vs ds hs rs =>
        cases e
        exact ⟨p, vs, rfl, .inr ⟨ex_t hide_ex hs, q _ H (Ex.refl H) (.tup hs rs)⟩⟩
      | _ => cases e
theorem rc_listOf : RcD K T (fun xs H Q => ∃ p ys, xs = [.ref p] ∧ (SqL K H p ys ∨ SqT K H p ys) ∧ ∀ l, H l = none → Q (.ref l) (upd H l (.lst ys))) listD := fun S H vs ds d Q m rs e q => by
  cases rs with
  | nil => cases e
  | cons r rs =>
    cases rs with
    | cons _ _ => cases r <;> cases e
    | nil =>
      cases r with
      | @lst p vs ds hs rs =>
        cases e
        exact ⟨p, vs, rfl, .inl (.inl (.inl (hide_ex _ _ hs))), fun l nl => q _ _ (Ex.new nl) (rep_newL m nl rs)⟩
      | @frz p vs ds hs rs =>
        cases e
        exact ⟨p, vs, rfl, .inl (ex_l hide_ex hs), fun l nl => q _ _ (Ex.new nl) (rep_newL m nl rs)⟩
      | @tup p vs ds hs rs =>
        cases e
        exact ⟨p, vs, rfl, .inr (ex_t hide_ex hs), fun l nl => q _ _ (Ex.new nl) (rep_newL m nl rs)⟩
      | _ => cases e
end
/-! ### isinstance of a built-in class -/
def isTy : String → Dat → Option Bool
  | n, .non => some (n == "NoneType")
  | n, .bl _ => some (n == "bool" || n == "int")
  | n, .int _ => some (n == "int")
  | n, .str _ => some (n == "str")
  | n, .tup _ => some (n == "tuple")
  | n, .lst _ => some (n == "list")
  | n, .frz _ => some (n == "list")
  | _, .obj _ _ => none
def isiD (n : String) (d : Dat) : Option Dat := (isTy n d).map .bl
/-- a built-in class of which isinstance is known -/
structure KitT (n : String) : Prop where
  non : kitB "NoneType" n = some (n == "NoneType")
  bl : kitB "bool" n = some (n == "bool" || n == "int")
  int : kitB "int" n = some (n == "int")
  str : kitB "str" n = some (n == "str")
  tup : kitB "tuple" n = some (n == "tuple")
  lst : kitB "list" n = some (n == "list")
theorem kit_int : KitT "int" := ⟨by decide +kernel, by decide +kernel, by decide +kernel, by decide +kernel, by decide +kernel, by decide +kernel⟩
theorem kit_bool : KitT "bool" := ⟨by decide +kernel, by decide +kernel, by decide +kernel, by decide +kernel, by decide +kernel, by decide +kernel⟩
theorem kit_str : KitT "str" := ⟨by decide +kernel, by decide +kernel, by decide +kernel, by decide +kernel, by decide +kernel, by decide +kernel⟩
theorem kit_tuple : KitT "tuple" := ⟨by decide +kernel, by decide +kernel, by decide +kernel, by decide +kernel, by decide +kernel, by decide +kernel⟩
theorem kit_list : KitT "list" := ⟨by decide +kernel, by decide +kernel, by decide +kernel, by decide +kernel, by decide +kernel, by decide +kernel⟩
section
variable {X : Cx} {T : CT} {W : WX} {ow : List Nat} {e a b c : Expr} {es : List Expr} {pos p p2 : Pos} {fa fb fc : DEnv → Res Dat}
theorem de_isi {y : Str} {n : String} (k : KitT n) (hm : X.mg "isinstance" = none) (hmy : X.mg y = none) (hvy : bootBuiltins y = some (.type n)) (ha : DE X T W ow e fa) (hg : Gl X "isinstance" := by rfl) (hgy : Gl X y := by rfl) (hny : y ≠ "__name__" := by decide) (hdy : (y == ("__debug__" : Str)) = false := by decide)
    (h1 : starEach [e, .Name y p2] X.env = (false, eval e X.env) :: starEach [.Name y p2] X.env := by rfl) (h2 : starEach [.Name y p2] X.env = (false, eval (.Name y p2) X.env) :: starEach [] X.env := by rfl) (hpl : (backTo pos (starEach [.Name y p2] X.env)).any (·.1) = false := by rfl) :
    DE X T W ow (.Call (.Name "isinstance" p) [e, .Name y p2] [] pos) (v1 (isiD n) fa) := pe_imp (pe_callB call_isi hg hm (by decide +kernel) (pa_cons ha (pa_cons (pe_bltn (v := .ty n) hgy hmy hvy rfl hny hdy) pa_nil h2) h1) (by decide) (by decide) h1 hpl) fun σ H Q h => by
  obtain ⟨ρ, S, re, w⟩ := h
  refine Want.part re w fun x dx H1 w1 re1 e1 rx => ?_
  show rIsi X.K [x, .ty n] H1 Q
  cases rx with
  | non => exact ⟨_, _, _, _, _, rfl, .ty n, .base .non, kit_ty k.non, w1 _ H1 (Ex.refl H1) (.bl _)⟩
  | bl z => exact ⟨_, _, _, _, _, rfl, .ty n, .base (.bl z), kit_ty k.bl, w1 _ H1 (Ex.refl H1) (.bl _)⟩
  | int z => exact ⟨_, _, _, _, _, rfl, .ty n, .base (.int z), kit_ty k.int, w1 _ H1 (Ex.refl H1) (.bl _)⟩
  | str z => exact ⟨_, _, _, _, _, rfl, .ty n, .base (.str z), kit_ty k.str, w1 _ H1 (Ex.refl H1) (.bl _)⟩
  | tup hs rs =>
    rcases ex_t hide_ex hs with (hs | ⟨o, hs⟩) | ⟨o, its, m, hs, hc, _⟩
    · exact ⟨_, _, _, _, _, rfl, .ty n, .base (.tup hs), kit_ty k.tup, w1 _ H1 (Ex.refl H1) (.bl _)⟩
    · exact ⟨_, _, _, _, _, rfl, .ty n, .fTuple hs, kit_ty k.tup, w1 _ H1 (Ex.refl H1) (.bl _)⟩
    · exact ⟨_, _, _, _, _, rfl, .ty n, .kTuple hs hc, kit_ty k.tup, w1 _ H1 (Ex.refl H1) (.bl _)⟩
  | lst hs rs => exact ⟨_, _, _, _, _, rfl, .ty n, .base (.lst (hide_ex _ _ hs)), kit_ty k.lst, w1 _ H1 (Ex.refl H1) (.bl _)⟩
  | frz hs rs =>
    rcases ex_l hide_ex hs with (hs | ⟨o, hs⟩) | ⟨o, its, m, hs, hc, _⟩
    · exact ⟨_, _, _, _, _, rfl, .ty n, .base (.lst hs), kit_ty k.lst, w1 _ H1 (Ex.refl H1) (.bl _)⟩
    · exact ⟨_, _, _, _, _, rfl, .ty n, .base (.frz hs), kit_ty k.lst, w1 _ H1 (Ex.refl H1) (.bl _)⟩
    · exact ⟨_, _, _, _, _, rfl, .ty n, .kList hs hc, kit_ty k.lst, w1 _ H1 (Ex.refl H1) (.bl _)⟩
  | obj _ _ _ => exact w1.elim

/-! ### defs of one's own -/
end
/-- a def's promise: it computes F (n arguments) -/
def spD (K : PySem.W.Frag) (T : CT) (n : Nat) (F : List Dat → Res Dat) : Sp := fun vs H Q E => vs.length = n ∧ ∃ S ds, Hid H S ∧ Reps K T (hide H S) vs ds ∧ Want K T (fun cls d _ H => E cls d H) [] H S (F ds) Q
structure FnD (P : Program) (w : World) (K : PySem.W.Frag) (mg : Str → Option Value) (base : Heap) (T : CT) (k : Nat) (x : Str) (n : Nat) (F : List Dat → Res Dat) : Prop where
  ex : ∃ f fd ps, mg x = some (.ref f) ∧ PySem.W.keepIn K (.ref f) = true ∧ Binds K fd ps [] ∧ FnOk P w K mg base (L2.CX P w) k f fd ps (spD K T n F)
def vCall (n : Nat) (F : List Dat → Res Dat) (fs : DEnv → Res (List Dat)) : DEnv → Res Dat := fun ρ => (fs ρ).bind fun ds => if ds.length = n then F ds else .stuck
abbrev wNo : WX := fun _ _ _ _ => False
theorem passNo {X : Cx} (σ : Sg) : PassesAt (L2.CX X.prog X.w) X σ (WE wNo σ) := fun _ _ _ _ _ _ c => by
  obtain ⟨_, _, _, _, _, _, _, _, _, _, _, _, h⟩ := c
  exact h.elim
section
variable {X : Cx} {T : CT} {W : WX} {ow : List Nat} {e a b c : Expr} {es : List Expr} {pos p p2 : Pos} {fa fb fc : DEnv → Res Dat} {fs : DEnv → Res (List Dat)}
theorem de_call {k j n : Nat} {x : Str} {F : List Dat → Res Dat} (c : FnD X.prog X.w X.K X.mg X.base T k x n F) (hr : Room j X.A) (hk : k ≤ j) (hp : ∀ σ, PassesAt (L2.CX X.prog X.w) X σ (WE W σ)) (ha : DA X T W ow (e :: es) fs) (hg : Gl X x := by rfl)
    (hdb : (x == ("__debug__" : Str)) = false := by decide) (he : starEach (e :: es) X.env = (false, eval e X.env) :: starEach es X.env := by rfl) (hpl : (backTo pos (starEach es X.env)).any (·.1) = false := by rfl) :
    DE X T W ow (.Call (.Name x p) (e :: es) [] pos) (vCall n F fs) := by
  obtain ⟨f, fd, ps, h1, h2, h3, h4⟩ := c.ex
  refine pe_imp (pe_callS h4 (hr.mono hk) hg h1 h2 h3 hp ha hdb he hpl) fun σ H Q h => ?_
  obtain ⟨ρ, S, re, w⟩ := h
  refine Want.partA re w fun vs ds H1 w1 re1 e1 rs => ?_
  split at w1
  · rename_i hl
    refine ⟨by rw [rs.length]; exact hl, S, ds, re1.mt, rs, ?_⟩
    revert w1
    cases F ds with
    | ok d => exact fun w1 => w1
    | exc c => exact fun w1 => w1
    | stuck => exact fun w1 => w1
  · exact w1.elim
end
end Dl
/-! The D layer, part 5: what is walked; targets; comprehensions; objects made. -/
namespace Dl
open PySem PySem.Spec PyProof.Rows L2

/-! ### what is walked -/
structure Src (K : PySem.W.Frag) (T : CT) (S : List Addr) (items : List Dat) (J : It) (H1 : Hp) : Prop where
  ex : ∃ (G : Hp → Prop) (Y : Nat → Hp → V → Hp → Prop), Walk J items.length G Y ∧ (∀ H' S', Ex (hide H1 S) (hide H' S') → G H') ∧
    ∀ i d x H2 H3 S', items[i]? = some d → Ex (hide H1 S) (hide H2 S') → Hid H2 S' → Y i H2 x H3 → Ex H2 H3 ∧ Rep K T (hide H3 S') x d
def WantI (K : PySem.W.Frag) (T : CT) (W : WX) (σ : Sg) (H : Hp) (S : List Addr) : Res (List Dat) → (It → Hp → Prop) → Prop
  | .ok items, R => ∀ J H1, Ex H H1 → Src K T S items J H1 → R J H1
  | .exc c, _ => ∀ H', Ex H H' → W (T.exc c) none σ H'
  | .stuck, _ => False
def tDI (K : PySem.W.Frag) (T : CT) (W : WX) (ow : List Nat) (g : DEnv → Res (List Dat)) : TI := fun σ H R => ∃ ρ S, RE K T ow σ ρ H S ∧ WantI K T W σ H S (g ρ) R
def DI (X : Cx) (T : CT) (W : WX) (ow : List Nat) (tg iter : Expr) (g : DEnv → Res (List Dat)) : Prop := PI X tg iter (tDI X.K T W ow g)
theorem pi_imp {X : Cx} {tg iter : Expr} {t t' : TI} (h : PI X tg iter t) (i : ∀ σ H R, t' σ H R → t σ H R) : PI X tg iter t' := ⟨fun pins s σ H R I q => h.run pins s σ H R I (i σ H R q)⟩
theorem PI.or {X : Cx} {tg iter : Expr} {t t' : TI} (h : PI X tg iter t) (h' : PI X tg iter t') : PI X tg iter (fun σ H R => t σ H R ∨ t' σ H R) := ⟨fun pins s σ H R I q => q.elim (h.run pins s σ H R I) (h'.run pins s σ H R I)⟩
theorem WantI.mono {K : PySem.W.Frag} {T : CT} {W : WX} {σ : Sg} {H H' : Hp} {S : List Addr} {r : Res (List Dat)} {R : It → Hp → Prop} (w : WantI K T W σ H S r R) (e : Ex H H') : WantI K T W σ H' S r R := by
  cases r with
  | ok items => exact fun J H1 e1 s => w J H1 (e.trans e1) s
  | exc c => exact fun H2 e2 => w H2 (e.trans e2)
  | stuck => exact w
theorem WantI.part {K : PySem.W.Frag} {T : CT} {W : WX} {ow : List Nat} {ρ : DEnv} {σ : Sg} {H : Hp} {S : List Addr} {fa : DEnv → Res Dat} {k : Dat → Res (List Dat)} {Q : It → Hp → Prop} {R : VK} (re : RE K T ow σ ρ H S) (w : WantI K T W σ H S ((fa ρ).bind k) Q)
    (hk : ∀ v d H1, WantI K T W σ H1 S (k d) Q → RE K T ow σ ρ H1 S → Ex H H1 → Rep K T (hide H1 S) v d → R v H1) : tD K T W ow fa σ H R :=
  tD_bind (P := fun H r => WantI K T W σ H S r Q) re w (fun _ w => w) (fun w => w) fun v d H1 w e r => hk v d H1 (w.mono e) (re.mono e) e r
theorem WantI.partA {K : PySem.W.Frag} {T : CT} {W : WX} {ow : List Nat} {ρ : DEnv} {σ : Sg} {H : Hp} {S : List Addr} {fa : DEnv → Res (List Dat)} {k : List Dat → Res (List Dat)} {Q : It → Hp → Prop} {R : List V → Hp → Prop} (re : RE K T ow σ ρ H S) (w : WantI K T W σ H S ((fa ρ).bind k) Q)
    (hk : ∀ vs ds H1, WantI K T W σ H1 S (k ds) Q → RE K T ow σ ρ H1 S → Ex H H1 → Reps K T (hide H1 S) vs ds → R vs H1) : tDA K T W ow fa σ H R := by
  refine ⟨ρ, S, re, ?_⟩
  cases q : fa ρ with
  | ok d =>
    rw [q] at w
    exact fun vs H' e r => hk vs d H' (w.mono e) (re.mono e) e r
  | exc c =>
    rw [q] at w
    exact w
  | stuck =>
    rw [q] at w
    exact w.elim
theorem walk_of_eq {J : It} {n m : Nat} {G : Hp → Prop} {Y : Nat → Hp → V → Hp → Prop} (h : Walk J n G Y) (e : m = n) : Walk J m G Y := e ▸ h
section
variable {K : PySem.W.Frag} {T : CT} {S : List Addr} {H1 : Hp} {vs : List V} {ds : List Dat} {a : Addr}
theorem src_list (h : SqL K (hide H1 S) a vs) (rs : Reps K T (hide H1 S) vs ds) : Src K T S ds (Itl K a) H1 :=
  ⟨_, _, walk_of_eq walk_list rs.length.symm, fun H' S' e => ex_l hide_ex (ex_l e h), fun i d x H2 H3 S' hi e m y => by
    obtain ⟨rfl, hy⟩ := y
    obtain ⟨v, h1, h2⟩ := rs.get hi
    rw [h1] at hy
    cases hy
    exact ⟨Ex.refl _, h2.mono e⟩⟩
theorem src_tup (h : SqT K (hide H1 S) a vs) (rs : Reps K T (hide H1 S) vs ds) : Src K T S ds (Itt K a) H1 :=
  ⟨_, _, walk_of_eq walk_tup rs.length.symm, fun H' S' e => ex_t hide_ex (ex_t e h), fun i d x H2 H3 S' hi e m y => by
    obtain ⟨rfl, hy⟩ := y
    obtain ⟨v, h1, h2⟩ := rs.get hi
    rw [h1] at hy
    cases hy
    exact ⟨Ex.refl _, h2.mono e⟩⟩
theorem src_str {z : Str} : Src K T S (z.cps.toList.map fun c => .str ⟨#[c]⟩) (Its z) H1 :=
  ⟨_, _, walk_of_eq walk_str (by rw [List.length_map, Array.length_toList]), fun _ _ _ => trivial, fun i d x H2 H3 S' hi e m y => by
    obtain ⟨rfl, c, hc, rfl⟩ := y
    rw [List.getElem?_map, Array.getElem?_toList, hc] at hi
    cases hi
    exact ⟨Ex.refl _, .str _⟩⟩
theorem src_range {lo : Int} {n : Nat} : Src K T S ((List.range n).map fun i => .int (lo + (i : Nat))) (Itr lo n) H1 :=
  ⟨_, _, walk_of_eq walk_range (by rw [List.length_map, List.length_range]), fun _ _ _ => trivial, fun i d x H2 H3 S' hi e m y => by
    obtain ⟨rfl, rfl⟩ := y
    rw [List.getElem?_map] at hi
    cases q : (List.range n)[i]? with
    | none =>
      rw [q] at hi
      cases hi
    | some j =>
      rw [q] at hi
      cases hi
      rw [List.getElem?_range (by
        have := (List.getElem?_eq_some_iff.mp q).1
        rw [List.length_range] at this
        exact this)] at q
      cases q
      exact ⟨Ex.refl _, .int _⟩⟩
theorem src_rangeC {lo c : Int} {n : Nat} : Src K T S ((List.range n).map fun i => .int (lo + (i : Nat) * c)) (Itc lo c n) H1 :=
  ⟨_, _, walk_of_eq walk_rangeC (by rw [List.length_map, List.length_range]), fun _ _ _ => trivial, fun i d x H2 H3 S' hi e m y => by
    obtain ⟨rfl, rfl⟩ := y
    rw [List.getElem?_map] at hi
    cases q : (List.range n)[i]? with
    | none =>
      rw [q] at hi
      cases hi
    | some j =>
      rw [q] at hi
      cases hi
      rw [List.getElem?_range (by
        have := (List.getElem?_eq_some_iff.mp q).1
        rw [List.length_range] at this
        exact this)] at q
      cases q
      exact ⟨Ex.refl _, .int _⟩⟩
end
def itemsD : Dat → Res (List Dat)
  | .lst l => .ok l
  | .frz l => .ok l
  | .tup l => .ok l
  | .str z => .ok (z.cps.toList.map fun c => .str ⟨#[c]⟩)
  | _ => .stuck
def gSeq (fa : DEnv → Res Dat) : DEnv → Res (List Dat) := fun ρ => (fa ρ).bind itemsD
def rng (lo : Int) (n : Nat) : List Dat := (List.range n).map fun i => .int (lo + (i : Nat))
def rngC (lo c : Int) (n : Nat) : List Dat := (List.range n).map fun i => .int (lo + (i : Nat) * c)
def big62 (i : Int) : Bool := decide (-(2 ^ 62) ≤ i) && decide (i < 2 ^ 62)
def range1D : List Dat → Res (List Dat)
  | [.int j] => if big62 j then .ok (rng 0 j.toNat) else .stuck
  | _ => .stuck
def range2D : List Dat → Res (List Dat)
  | [.int i, .int j] => if big62 i && big62 j then .ok (rng i (j - i).toNat) else .stuck
  | _ => .stuck
/-- the number of turns of range(i, j, c) -/
def turns (i j c : Int) : Nat := if 0 < c then ((j - i + c - 1) / c).toNat else ((i - j - c - 1) / (-c)).toNat
def gA (k : List Dat → Res (List Dat)) (fs : DEnv → Res (List Dat)) : DEnv → Res (List Dat) := fun ρ => (fs ρ).bind k
theorem big62_ok {i : Int} (h : big62 i = true) : -(2 ^ 62) ≤ i ∧ i < 2 ^ 62 := by
  unfold big62 at h
  rw [Bool.and_eq_true] at h
  exact ⟨of_decide_eq_true h.1, of_decide_eq_true h.2⟩
section
variable {X : Cx} {T : CT} {W : WX} {ow : List Nat} {e a b c tg : Expr} {es : List Expr} {pos p p2 : Pos} {fa fb fc : DEnv → Res Dat} {fs : DEnv → Res (List Dat)}
theorem di_seq (ha : DE X T W ow e fa) : DI X T W ow tg e (gSeq fa) := pi_imp (PI.or (pi_list ha) (PI.or (pi_tup ha) (pi_str ha))) fun σ H R h => by
  obtain ⟨ρ, S, re, w⟩ := h
  unfold gSeq at w
  cases q : fa ρ with
  | exc c =>
    rw [q] at w
    refine .inl ⟨ρ, S, re, ?_⟩
    rw [q]
    exact w
  | stuck =>
    rw [q] at w
    exact w.elim
  | ok d =>
    rw [q] at w
    cases d with
    | lst l =>
      refine .inl ⟨ρ, S, re, ?_⟩
      rw [q]
      intro v H' e r
      cases r with
      | lst hs rs => exact ⟨_, rfl, ⟨_, .inl (.inl (hide_ex _ _ hs))⟩, w _ H' e (src_list (.inl (.inl hs)) rs)⟩
    | frz l =>
      refine .inl ⟨ρ, S, re, ?_⟩
      rw [q]
      intro v H' e r
      cases r with
      | frz hs rs => exact ⟨_, rfl, ⟨_, ex_l hide_ex hs⟩, w _ H' e (src_list hs rs)⟩
    | tup l =>
      refine .inr (.inl ⟨ρ, S, re, ?_⟩)
      rw [q]
      intro v H' e r
      cases r with
      | tup hs rs => exact ⟨_, rfl, ⟨_, ex_t hide_ex hs⟩, w _ H' e (src_tup hs rs)⟩
    | str z =>
      refine .inr (.inr ⟨ρ, S, re, ?_⟩)
      rw [q]
      intro v H' e r
      cases r with
      | str _ => exact ⟨z, rfl, w _ H' e src_str⟩
    | _ => exact w.elim
theorem di_range1 (hm : X.mg "range" = none) (ha : DA X T W ow [a] fs) (hg : Gl X "range" := by rfl) (hs : starEach [a] X.env = [(false, eval a X.env)] := by rfl) : DI X T W ow tg (.Call (.Name "range" p) [a] [] pos) (gA range1D fs) := pi_imp (pi_range1 hg hm ha hs) fun σ H R h => by
  obtain ⟨ρ, S, re, w⟩ := h
  refine WantI.partA re w fun vs ds H1 w1 re1 e1 rs => ?_
  cases rs with
  | nil => exact w1.elim
  | cons r rs =>
    cases rs with
    | cons _ _ => cases r <;> exact w1.elim
    | nil =>
      cases r with
      | int j =>
        have w2 : WantI X.K T W σ H1 S (if big62 j then .ok (rng 0 j.toNat) else .stuck) R := w1
        by_cases z : big62 j = true
        · rw [if_pos z] at w2
          obtain ⟨z1, z2⟩ := big62_ok z
          exact ⟨j, rfl, z1, z2, w2 _ H1 (Ex.refl H1) src_range⟩
        · rw [if_neg z] at w2
          exact w2.elim
      | _ => exact w1.elim
theorem di_range2 (hm : X.mg "range" = none) (ha : DA X T W ow [a, b] fs) (hg : Gl X "range" := by rfl) (hs : starEach [a, b] X.env = [(false, eval a X.env), (false, eval b X.env)] := by rfl) (hs2 : starEach [b] X.env = [(false, eval b X.env)] := by rfl) :
    DI X T W ow tg (.Call (.Name "range" p) [a, b] [] pos) (gA range2D fs) := pi_imp (pi_range2 hg hm ha hs hs2) fun σ H R h => by
  obtain ⟨ρ, S, re, w⟩ := h
  refine WantI.partA re w fun vs ds H1 w1 re1 e1 rs => ?_
  cases rs with
  | nil => exact w1.elim
  | cons r rs =>
    cases rs with
    | nil => cases r <;> exact w1.elim
    | cons r2 rs =>
      cases rs with
      | cons _ _ => cases r <;> cases r2 <;> exact w1.elim
      | nil =>
        cases r with
        | int i =>
          cases r2 with
          | int j =>
            have w2 : WantI X.K T W σ H1 S (if big62 i && big62 j then .ok (rng i (j - i).toNat) else .stuck) R := w1
            by_cases z : (big62 i && big62 j) = true
            · rw [if_pos z] at w2
              rw [Bool.and_eq_true] at z
              obtain ⟨z1, z2⟩ := big62_ok z.1
              obtain ⟨z3, z4⟩ := big62_ok z.2
              exact ⟨i, j, rfl, ⟨z1, z2, z3, z4⟩, w2 _ H1 (Ex.refl H1) src_range⟩
            · rw [if_neg z] at w2
              exact w2.elim
          | _ => exact w1.elim
        | _ => exact w1.elim
end

/-! ### targets -/
/-- the data goes to slots; is: which -/
def tDG (K : PySem.W.Frag) (T : CT) (ow : List Nat) (is : List Nat) (asg : Dat → DEnv → Option DEnv) : TG := fun x σ H Q => ∃ ρ S d, RE K T ow σ ρ H S ∧ Rep K T (hide H S) x d ∧ ∃ ρ', asg d ρ = some ρ' ∧
  ∀ σ', RE K T ow σ' ρ' H S → (∀ j, j ∉ is → σ'[j]? = σ[j]?) → σ'.length = σ.length → Q σ' H
def DG (X : Cx) (T : CT) (ow : List Nat) (is : List Nat) (tg : Expr) (asg : Dat → DEnv → Option DEnv) : Prop := PG X tg (tDG X.K T ow is asg)
theorem pg_imp {X : Cx} {tg : Expr} {t t' : TG} (h : PG X tg t) (i : ∀ x σ H Q, t' x σ H Q → t x σ H Q) : PG X tg t' := ⟨fun pins s σ H v u Q I r q => h.run pins s σ H v u Q I r (i v σ H Q q)⟩
theorem PG.or {X : Cx} {tg : Expr} {t t' : TG} (h : PG X tg t) (h' : PG X tg t') : PG X tg (fun x σ H Q => t x σ H Q ∨ t' x σ H Q) := ⟨fun pins s σ H v u Q I r q => q.elim (h.run pins s σ H v u Q I r) (h'.run pins s σ H v u Q I r)⟩
def aName (i : Nat) : Dat → DEnv → Option DEnv := fun d ρ => some (ρ.set i (some d))
section
variable {K : PySem.W.Frag} {T : CT} {ow : List Nat} {σ : Sg} {ρ : DEnv} {H : Hp} {S : List Addr}
/-- a frozen slot is stored -/
theorem RE.set {i : Nat} {v : V} {d : Dat} (re : RE K T ow σ ρ H S) (hi : i ∉ ow) (r : Rep K T (hide H S) v d) : RE K T ow (σ.set i (some v)) (ρ.set i (some d)) H S := by
  have hl := re.len
  refine ⟨re.mt, by rw [List.length_set, List.length_set]; exact hl, fun j e hj he => ?_, fun j e hj he => ?_, fun j k e f p hj hk he hf h1 h2 => ?_⟩
  · by_cases z : i = j
    · subst z
      by_cases zl : i < ρ.length
      · rw [List.getElem?_set_self zl] at he
        cases he
        exact ⟨v, List.getElem?_set_self (by rw [hl]; exact zl), r⟩
      · rw [List.getElem?_eq_none (by rw [List.length_set]; omega)] at he
        cases he
    · rw [List.getElem?_set_ne z] at he ⊢
      exact re.fro j e hj he
  · have z : i ≠ j := fun q => hi (q ▸ hj)
    rw [List.getElem?_set_ne z] at he ⊢
    exact re.own j e hj he
  · have z : i ≠ j := fun q => hi (q ▸ hj)
    have z2 : i ≠ k := fun q => hi (q ▸ hk)
    rw [List.getElem?_set_ne z] at he h1
    rw [List.getElem?_set_ne z2] at hf h2
    exact re.inj j k e f p hj hk he hf h1 h2
end
section
variable {X : Cx} {T : CT} {ow : List Nat} {pos : Pos} {es : List Expr}
theorem dg_name {i : Nat} {x : Str} (hN : X.N.Nodup) (hi : X.N[i]? = some x := by rfl) (hx : Loc X.env.scope x := by first | exact .inl rfl | exact .inr rfl) (ho : i ∉ ow := by decide) (hf : X.fn x = true ∨ X.env.scope.names.lookup x = some .local := by first | exact .inl rfl | exact .inr rfl) :
    DG X T ow [i] (.Name x pos) (aName i) := pg_imp (pg_name hN hi hx hf) fun x σ H Q h => by
  obtain ⟨ρ, S, d, re, r, ρ', e, k⟩ := h
  cases e
  exact k _ (re.set ho r) (fun j hj => List.getElem?_set_ne fun z => hj (by rw [z]; exact List.mem_singleton_self _)) (List.length_set ..)
/-- several targets -/
def tDGs (K : PySem.W.Frag) (T : CT) (ow : List Nat) (is : List Nat) (asg : List Dat → DEnv → Option DEnv) : TGs := fun xs σ H Q => ∃ ρ S ds, RE K T ow σ ρ H S ∧ Reps K T (hide H S) xs ds ∧ ∃ ρ', asg ds ρ = some ρ' ∧
  ∀ σ', RE K T ow σ' ρ' H S → (∀ j, j ∉ is → σ'[j]? = σ[j]?) → σ'.length = σ.length → Q σ' H
def DGs (X : Cx) (T : CT) (ow : List Nat) (is : List Nat) (tgs : List Expr) (asg : List Dat → DEnv → Option DEnv) : Prop := PGs X tgs (tDGs X.K T ow is asg)
theorem pgs_imp {tgs : List Expr} {t t' : TGs} (h : PGs X tgs t) (i : ∀ x σ H Q, t' x σ H Q → t x σ H Q) : PGs X tgs t' := ⟨fun pins s σ H v u Q I r q => h.run pins s σ H v u Q I r (i v σ H Q q)⟩
def asNil : List Dat → DEnv → Option DEnv
  | [], ρ => some ρ
  | _, _ => none
def asCons (f : Dat → DEnv → Option DEnv) (g : List Dat → DEnv → Option DEnv) : List Dat → DEnv → Option DEnv
  | d :: r, ρ => (f d ρ).bind fun ρ' => g r ρ'
  | [], _ => none
theorem dgs_nil : DGs X T ow [] [] asNil := pgs_imp pgs_nil fun x σ H Q h => by
  obtain ⟨ρ, S, d, re, r, ρ', e, k⟩ := h
  cases r with
  | nil =>
    cases e
    exact ⟨rfl, k σ re (fun _ _ => rfl) rfl⟩
  | cons _ _ => cases e
theorem dgs_cons {e : Expr} {is js : List Nat} {f : Dat → DEnv → Option DEnv} {g : List Dat → DEnv → Option DEnv} (h1 : DG X T ow is e f) (h2 : DGs X T ow js es g) (hst : (assignEach (e :: es) X.env).map (·.2) = assign e X.env :: (assignEach es X.env).map (·.2) := by rfl) : DGs X T ow (is ++ js) (e :: es) (asCons f g) :=
  pgs_imp (pgs_cons h1 h2 hst) fun x σ H Q h => by
    obtain ⟨ρ, S, ds, re, r, ρ', e, k⟩ := h
    cases r with
    | nil => cases e
    | cons r rs =>
      rename_i v vs d ds
      cases q : f d ρ with
      | none =>
        simp only [asCons, q] at e
        cases e
      | some ρ1 =>
        simp only [asCons, q] at e
        refine ⟨v, vs, rfl, ρ, S, d, re, r, ρ1, q, fun σ1 re1 h1 l1 => ⟨ρ1, S, ds, re1, rs, ρ', e, fun σ2 re2 h2 l2 => k σ2 re2 (fun j hj => ?_) (l2.trans l1)⟩⟩
        rw [List.mem_append, not_or] at hj
        exact (h2 j hj.2).trans (h1 j hj.1)
def aTup (g : List Dat → DEnv → Option DEnv) : Dat → DEnv → Option DEnv
  | .tup l, ρ => g l ρ
  | .lst l, ρ => g l ρ
  | _, _ => none
theorem dg_tup {is : List Nat} {k n : Nat} {g : List Dat → DEnv → Option DEnv} (hc : X.calm = true) (h : DGs X T ow is es g) (hlen : ∀ ds ρ ρ', g ds ρ = some ρ' → ds.length = n)
    (hn : (assignEach es X.env).length = n := by rfl) (hst : (assignEach es X.env).findIdx? (·.1) = none := by rfl) : DG X T ow is (.Tuple es k pos) (aTup g) :=
  pg_imp (PG.or (pg_tup hc h hn hst) (pg_lst hc h hn hst)) fun x σ H Q h => by
    obtain ⟨ρ, S, d, re, r, ρ', e, k⟩ := h
    cases r with
    | tup hs rs => exact .inl ⟨_, _, rfl, ex_t hide_ex hs, by rw [rs.length]; exact hlen _ _ _ e, ρ, S, _, re, rs, ρ', e, k⟩
    | lst hs rs => exact .inr ⟨_, _, rfl, .inl (.inl (hide_ex _ _ hs)), by rw [rs.length]; exact hlen _ _ _ e, ρ, S, _, re, rs, ρ', e, k⟩
    | _ => cases e
theorem asNil_len {ds : List Dat} {ρ ρ' : DEnv} (h : asNil ds ρ = some ρ') : ds.length = 0 := by
  cases ds with
  | nil => rfl
  | cons _ _ => cases h
theorem asCons_len {f : Dat → DEnv → Option DEnv} {g : List Dat → DEnv → Option DEnv} {n : Nat} (hg : ∀ ds ρ ρ', g ds ρ = some ρ' → ds.length = n) : ∀ ds ρ ρ', asCons f g ds ρ = some ρ' → ds.length = n + 1 := fun ds ρ ρ' h => by
  cases ds with
  | nil => cases h
  | cons d r =>
    cases q : f d ρ with
    | none =>
      simp only [asCons, q] at h
      cases h
    | some ρ1 =>
      simp only [asCons, q] at h
      rw [List.length_cons, hg _ _ _ h]
end

/-! ### comprehensions -/
def wipeD (ρ : DEnv) : List Nat → DEnv
  | [] => ρ
  | v :: vs => (wipeD ρ vs).set v none
theorem wipeD_length (ρ : DEnv) : ∀ vs : List Nat, (wipeD ρ vs).length = ρ.length
  | [] => rfl
  | v :: vs => by unfold wipeD; rw [List.length_set, wipeD_length ρ vs]
theorem wipeD_some {ρ : DEnv} {i : Nat} {x : Dat} : ∀ {vs : List Nat}, (wipeD ρ vs)[i]? = some (some x) → ρ[i]? = some (some x) ∧ i ∉ vs
  | [], h => ⟨h, by simp⟩
  | v :: vs, h => by
    unfold wipeD at h
    by_cases hi : v = i
    · subst hi
      by_cases hv : v < (wipeD ρ vs).length
      · rw [List.getElem?_set_self hv] at h; cases h
      · rw [List.getElem?_eq_none (by simpa using hv)] at h; cases h
    · rw [List.getElem?_set_ne hi] at h
      obtain ⟨h1, h2⟩ := wipeD_some h
      exact ⟨h1, by simp only [List.mem_cons, not_or]; exact ⟨fun e => hi e.symm, h2⟩⟩
theorem wipe_get {σ : Sg} {i : Nat} : ∀ {vs : List Nat}, i ∉ vs → (wipe σ vs)[i]? = σ[i]?
  | [], _ => rfl
  | v :: vs, h => by
    rw [List.mem_cons, not_or] at h
    unfold wipe
    rw [List.getElem?_set_ne (Ne.symm h.1), wipe_get h.2]
theorem wipe_gone {σ : Sg} {i : Nat} (hl : i < σ.length) : ∀ {vs : List Nat}, i ∈ vs → (wipe σ vs)[i]? = some none
  | v :: vs, h => by
    unfold wipe
    by_cases z : v = i
    · subst z
      exact List.getElem?_set_self (by rw [wipe_length]; exact hl)
    · rw [List.getElem?_set_ne z]
      rcases List.mem_cons.mp h with e | h
      · exact absurd e.symm z
      · exact wipe_gone hl h
/-- what is wiped is wiped whatever stood there -/
theorem wipe_eq {σ τ : Sg} {vs : List Nat} (hl : τ.length = σ.length) (h : ∀ j, j ∉ vs → τ[j]? = σ[j]?) : wipe τ vs = wipe σ vs := by
  apply List.ext_getElem?
  intro i
  by_cases z : i ∈ vs
  · by_cases l : i < σ.length
    · rw [wipe_gone l z, wipe_gone (by rw [hl]; exact l) z]
    · rw [List.getElem?_eq_none (by rw [wipe_length]; omega), List.getElem?_eq_none (by rw [wipe_length]; omega)]
  · rw [wipe_get z, wipe_get z, h i z]
section
variable {K : PySem.W.Frag} {T : CT} {ow : List Nat} {σ : Sg} {ρ : DEnv} {H H' : Hp} {S : List Addr}
theorem RE.wipe (re : RE K T ow σ ρ H S) (vs : List Nat) : RE K T ow (L2.wipe σ vs) (wipeD ρ vs) H S := by
  refine ⟨re.mt, by rw [L2.wipe_length, wipeD_length]; exact re.len, fun i d hi hd => ?_, fun i d hi hd => ?_, fun i j d e p hi hj hd he h1 h2 => ?_⟩
  · obtain ⟨h1, h2⟩ := wipeD_some hd
    obtain ⟨v, h3, h4⟩ := re.fro i d hi h1
    exact ⟨v, by rw [wipe_get h2]; exact h3, h4⟩
  · obtain ⟨h1, h2⟩ := wipeD_some hd
    obtain ⟨p, vs', ds, h3, h4⟩ := re.own i d hi h1
    exact ⟨p, vs', ds, by rw [wipe_get h2]; exact h3, h4⟩
  · obtain ⟨a1, a2⟩ := wipeD_some hd
    obtain ⟨b1, b2⟩ := wipeD_some he
    rw [wipe_get a2] at h1
    rw [wipe_get b2] at h2
    exact re.inj i j d e p hi hj a1 b1 h1 h2
/-- one more object is hidden, that came later -/
theorem RE.more {p : Addr} (re : RE K T ow σ ρ H S) (e : Ex H H') (n : H p = none) (m : ∃ o, H' p = some o ∧ mutO o = true) : RE K T ow σ ρ H' (p :: S) := by
  have ex := hide_new (S := S) e n
  refine ⟨fun q hq => ?_, re.len, fun i d hi hd => ?_, fun i d hi hd => ?_, re.inj⟩
  · rcases List.mem_cons.mp hq with z | z
    · rw [z]; exact m
    · exact re.mt.mono e q z
  · obtain ⟨v, h1, h2⟩ := re.fro i d hi hd
    exact ⟨v, h1, h2.mono ex⟩
  · obtain ⟨q, vs, ds, h1, h2, h3, h4, h5⟩ := re.own i d hi hd
    exact ⟨q, vs, ds, h1, h2, List.mem_cons_of_mem _ h3, e _ _ h4, h5.mono ex⟩
/-- a hidden object that is no slot's changes -/
theorem RE.chg {p : Addr} {o : HO} (re : RE K T ow σ ρ H S) (hp : p ∈ S) (m : mutO o = true) (h : ∀ i d, i ∈ ow → ρ[i]? = some (some d) → σ[i]? ≠ some (some (.ref p))) : RE K T ow σ ρ (upd H p o) S := by
  refine ⟨fun q hq => ?_, re.len, fun i d hi hd => ?_, fun i d hi hd => ?_, re.inj⟩
  · by_cases z : q = p
    · subst z
      exact ⟨o, upd_same, m⟩
    · obtain ⟨u, h1, h2⟩ := re.mt q hq
      exact ⟨u, by rw [upd_ne z]; exact h1, h2⟩
  · rw [hide_upd hp]
    exact re.fro i d hi hd
  · rw [hide_upd hp]
    obtain ⟨q, vs, ds, h1, h2, h3, h4, h5⟩ := re.own i d hi hd
    refine ⟨q, vs, ds, h1, h2, h3, ?_, h5⟩
    rw [upd_ne fun z => h i d hi hd (by rw [← z]; exact h1)]
    exact h4
end
def noExc {α : Type} : Res α → Res α
  | .ok a => .ok a
  | _ => .stuck
def lcL (asg : Dat → DEnv → Option DEnv) (t : DEnv → Res Bool) (f : DEnv → Res Dat) (ρ : DEnv) : List Dat → Res (List Dat)
  | [] => .ok []
  | d :: r => match asg d ρ with
    | none => .stuck
    | some ρ1 => (noExc (t ρ1)).bind fun b => if b = true then (noExc (f ρ1)).bind fun y => (lcL asg t f ρ r).bind fun ys => .ok (y :: ys) else lcL asg t f ρ r
def vLc (g : DEnv → Res (List Dat)) (asg : Dat → DEnv → Option DEnv) (vs : List Nat) (t : DEnv → Res Bool) (f : DEnv → Res Dat) : DEnv → Res (List Dat) := fun ρ => (g ρ).bind fun items => if items.length ≤ 10000000 then lcL asg t f (wipeD ρ vs) items else .stuck
theorem noExc_ok {α : Type} {r : Res α} {a : α} (h : noExc r = .ok a) : r = .ok a := by
  cases r with
  | ok b => exact h
  | exc _ => cases h
  | stuck => cases h
theorem bind_ok {α β : Type} {r : Res α} {k : α → Res β} {b : β} (h : r.bind k = .ok b) : ∃ a, r = .ok a ∧ k a = .ok b := by
  cases r with
  | ok a => exact ⟨a, rfl, h⟩
  | exc _ => cases h
  | stuck => cases h
theorem lcL_no {asg : Dat → DEnv → Option DEnv} {t : DEnv → Res Bool} {f : DEnv → Res Dat} {ρ : DEnv} {c : Nat} : ∀ {l : List Dat}, lcL asg t f ρ l ≠ .exc c
  | [], h => by cases h
  | d :: r, h => by
    unfold lcL at h
    split at h
    · cases h
    · rename_i ρ1 _
      cases q : noExc (t ρ1) with
      | exc _ =>
        cases z : t ρ1 <;> rw [z] at q <;> cases q
      | stuck =>
        rw [q] at h
        cases h
      | ok b =>
        rw [q] at h
        cases b with
        | false => exact lcL_no (l := r) h
        | true =>
          have h : ((noExc (f ρ1)).bind fun y => (lcL asg t f ρ r).bind fun ys => .ok (y :: ys)) = .exc c := h
          cases q2 : noExc (f ρ1) with
          | exc _ => cases z : f ρ1 <;> rw [z] at q2 <;> cases q2
          | stuck =>
            rw [q2] at h
            cases h
          | ok y =>
            rw [q2] at h
            cases q3 : lcL asg t f ρ r with
            | exc c' => exact lcL_no (l := r) q3
            | stuck =>
              rw [q3] at h
              cases h
            | ok ys =>
              rw [q3] at h
              cases h
/-- a clause's tests -/
def DTs (X : Cx) (T : CT) (ow : List Nat) (ifs : List Expr) (t : DEnv → Res Bool) : Prop := PTs X ifs (tDB X.K T wNo ow t)
def tYesD : DEnv → Res Bool := fun _ => .ok true
theorem dts_nil {X : Cx} {T : CT} {ow : List Nat} : DTs X T ow [] tYesD := ⟨fun pins s σ H Q I h => by
  obtain ⟨ρ, S, re, w⟩ := h
  exact pts_nil.run pins s σ H Q I (w H (Ex.refl H))⟩
theorem dts_one {X : Cx} {T : CT} {ow : List Nat} {c : Expr} {t : DEnv → Res Bool} (h : DT X T wNo ow c t) : DTs X T ow [c] t := pts_one h
section
variable {X : Cx} {T : CT} {W : WX} {ow : List Nat}
theorem lc_read {g : DEnv → Res (List Dat)} {asg : Dat → DEnv → Option DEnv} {is vs : List Nat} {t : DEnv → Res Bool} {f : DEnv → Res Dat} {K : PySem.W.Frag} {σ : Sg} {H : Hp} {Q : VK} (hi : ∀ i ∈ is, i ∈ vs) (h : tDF K T W ow (vLc g asg vs t f) σ H Q) :
    tLc (tDI K T W ow g) (tDG K T ow is asg) (tDB K T wNo ow t) (tD K T wNo ow f) vs σ H Q := by
  obtain ⟨ρ, S, re, w⟩ := h
  refine ⟨ρ, S, re, ?_⟩
  unfold vLc at w
  cases q : g ρ with
  | exc c =>
    rw [q] at w
    exact w
  | stuck =>
    rw [q] at w
    exact w.elim
  | ok items =>
    rw [q] at w
    have w : WantF K T W σ H S (if items.length ≤ 10000000 then lcL asg t f (wipeD ρ vs) items else .stuck) Q := w
    by_cases hlen : items.length ≤ 10000000
    rotate_left
    · rw [if_neg hlen] at w
      exact w.elim
    rw [if_pos hlen] at w
    obtain ⟨res, hres⟩ : ∃ res, lcL asg t f (wipeD ρ vs) items = .ok res := by
      cases z : lcL asg t f (wipeD ρ vs) items with
      | ok r => exact ⟨r, rfl⟩
      | exc c => exact absurd z lcL_no
      | stuck =>
        rw [z] at w
        exact w.elim
    rw [hres] at w
    intro J H1 e1 src D hD
    obtain ⟨G, Y, walk, gok, yok⟩ := src.ex
    have re1 := re.mono e1
    refine lc_it walk (fun i H' => ∃ acc ds ys, Ex H1 H' ∧ H' D = some (.lst acc) ∧ Reps K T (hide H' (D :: S)) acc ds ∧ acc.length ≤ i ∧ lcL asg t f (wipeD ρ vs) (items.drop i) = .ok ys ∧ res = ds ++ ys) ?_ ?_ ?_ ?_
    · exact ⟨[], [], res, Ex.new hD, upd_same, .nil, Nat.le_refl _, by rw [List.drop_zero]; exact hres, rfl⟩
    · rintro i H' _ ⟨acc, ds, ys, ex, _⟩
      exact gok H' (D :: S) (hide_new ex hD)
    · rintro i x H2 H3 hlt ⟨acc, ds, ys, ex, hDl, rs, hal, hl, hr⟩ y
      obtain ⟨d, hd⟩ : ∃ d, items[i]? = some d := ⟨items[i], by simp [hlt]⟩
      have ex2 := hide_new (S := S) ex hD
      have re2 := (re1.wipe vs).more ex hD ⟨_, hDl, rfl⟩
      obtain ⟨ex3, rx⟩ := yok i d x H2 H3 (D :: S) hd ex2 re2.mt y
      have hdrop : items.drop i = d :: items.drop (i + 1) := by
        have h1 := List.getElem?_eq_some_iff.mp hd
        obtain ⟨h1, h2⟩ := h1
        rw [List.drop_eq_getElem_cons h1, h2]
      rw [hdrop] at hl
      unfold lcL at hl
      cases qa : asg d (wipeD ρ vs) with
      | none =>
        rw [qa] at hl
        cases hl
      | some ρ1 =>
        rw [qa] at hl
        have hl : ((noExc (t ρ1)).bind fun b => if b = true then (noExc (f ρ1)).bind fun y => (lcL asg t f (wipeD ρ vs) (items.drop (i + 1))).bind fun ys => .ok (y :: ys) else lcL asg t f (wipeD ρ vs) (items.drop (i + 1))) = .ok ys := hl
        refine ⟨wipeD ρ vs, D :: S, d, re2.mono ex3, rx, ρ1, qa, fun σ2 re4 hsame hlen2 => ?_⟩
        refine ⟨?_, ?_⟩
        · have h1 : L2.wipe σ2 vs = L2.wipe (L2.wipe σ vs) vs := wipe_eq hlen2 fun j hj => hsame j fun z => hj (hi j z)
          rw [h1]
          exact wipe_eq (wipe_length _ _) fun j hj => wipe_get hj
        · obtain ⟨b, hb, hl⟩ := bind_ok hl
          have hb := noExc_ok hb
          refine ⟨ρ1, D :: S, re4, ?_⟩
          rw [hb]
          intro H5 e5
          cases b with
          | false =>
            show ∃ acc ds ys, _
            exact ⟨acc, ds, ys, ex.trans (ex3.trans e5), e5 _ _ (ex3 _ _ hDl), rs.mono (hide_mono (ex3.trans e5)), Nat.le_succ_of_le hal, hl, hr⟩
          | true =>
            obtain ⟨y1, hy, hl⟩ := bind_ok (show ((noExc (f ρ1)).bind fun y => (lcL asg t f (wipeD ρ vs) (items.drop (i + 1))).bind fun ys => .ok (y :: ys)) = .ok ys from hl)
            obtain ⟨ys2, hy2, hl⟩ := bind_ok hl
            cases hl
            have hy := noExc_ok hy
            show tD K T wNo ow f σ2 H5 _
            refine ⟨ρ1, D :: S, re4.mono e5, ?_⟩
            rw [hy]
            intro v H6 e6 rv
            refine ⟨acc, e6 _ _ (e5 _ _ (ex3 _ _ hDl)), ?_, ?_⟩
            · have : (10000000 : Nat) < sizeLine := by decide
              omega
            · refine ⟨acc ++ [v], ds ++ [y1], ys2, ?_, upd_same, ?_, ?_, hy2, ?_⟩
              · intro a o ha
                rw [upd_ne (ne_of_none ha hD)]
                exact e6 _ _ (e5 _ _ (ex3 _ _ (ex a o ha)))
              · rw [hide_upd List.mem_cons_self]
                exact (rs.mono (hide_mono ((ex3.trans e5).trans e6))).append (.one rv)
              · rw [List.length_append, List.length_singleton]
                omega
              · rw [hr, List.append_assoc]
                rfl
    · rintro H' ⟨acc, ds, ys, ex, hDl, rs, hal, hl, hr⟩
      rw [List.drop_length] at hl
      cases hl
      rw [List.append_nil] at hr
      subst hr
      exact w D acc H' (e1.trans ex) (e1.fresh hD) hDl rs
theorem df_lc {elt tg iter : Expr} {ifs : List Expr} {scope : Scope} {own : List (Str × Nat)} {pos : Pos} {g : DEnv → Res (List Dat)} {asg : Dat → DEnv → Option DEnv} {is : List Nat} {t : DEnv → Res Bool} {f : DEnv → Res Dat} (hc : X.calm = true) (hN : X.N.Nodup) (hi : DI X T W ow tg iter g)
    (ok : BlkOk X.N X.env.scope scope own) (his : ∀ i ∈ is, i ∈ own.map (·.2))
    (hg : ∀ (s : Shared) (H : Hp) (C : Addr) (cl : List (Str × Addr)) (fp : List Addr), DG (X.blk s H scope (compEnvC scope cl C X.env) fp) T ow is tg asg) (ht : ∀ (s : Shared) (H : Hp) (C : Addr) (cl : List (Str × Addr)) (fp : List Addr), DTs (X.blk s H scope (compEnvC scope cl C X.env) fp) T ow ifs t)
    (he : ∀ (s : Shared) (H : Hp) (C : Addr) (cl : List (Str × Addr)) (fp : List Addr), DE (X.blk s H scope (compEnvC scope cl C X.env) fp) T wNo ow elt f) (hs : ∀ x, foldedSetIterable iter X.env x = pure x := by intro _; rfl) :
    DF X T W ow (.ListComp elt [⟨tg, iter, ifs, 0⟩] scope pos) (vLc g asg (own.map (·.2)) t f) := pe_imp (pe_lc (g := tDG X.K T ow is asg) (tt := tDB X.K T wNo ow t) (te := tD X.K T wNo ow f) hc hN hi ok hg ht he hs) fun _ _ _ h => lc_read his h
end
end Dl
/-! The D layer, part 6: statements, defs, objects made. -/
namespace Dl
open PySem PySem.Spec PyProof.Rows L2

inductive DFlow where
  | nx (ρ : DEnv) | rt (d : Dat) | bk (ρ : DEnv) | ct (ρ : DEnv) | ex (c : Nat) (ρ : DEnv) | stuck
structure RS (K : PySem.W.Frag) (T : CT) (B : Hp) (B0 : List Addr) (ow : List Nat) (σ : Sg) (ρ : DEnv) (H : Hp) (S : List Addr) : Prop where
  re : RE K T ow σ ρ H S
  ex : Ex B H
  sub : ∀ p ∈ B0, p ∈ S
  bd : ∀ p ∈ B0, B p ≠ none
  onew : ∀ (i : Nat) (d : Dat) (p : Addr), i ∈ ow → ρ[i]? = some (some d) → σ[i]? = some (some (.ref p)) → B p = none
  new : ∀ p ∈ S, p ∈ B0 ∨ B p = none
section
variable {K : PySem.W.Frag} {T : CT} {B H H' H1 : Hp} {B0 S S' : List Addr} {ow ow' ob : List Nat} {σ : Sg} {ρ : DEnv}
theorem RS.mono (r : RS K T B B0 ow σ ρ H S) (e : Ex H H') : RS K T B B0 ow σ ρ H' S := ⟨r.re.mono e, r.ex.trans e, r.sub, r.bd, r.onew, r.new⟩
/-- the addresses of owned slots -/
def ownA (ow : List Nat) (σ : Sg) (ρ : DEnv) : List Addr := ow.filterMap fun i => match ρ[i]?, σ[i]? with
  | some (some _), some (some (V.ref p)) => some p
  | _, _ => none
theorem mem_ownA {p : Addr} : p ∈ ownA ow σ ρ ↔ ∃ i d, i ∈ ow ∧ ρ[i]? = some (some d) ∧ σ[i]? = some (some (.ref p)) := by
  unfold ownA
  rw [List.mem_filterMap]
  constructor
  · rintro ⟨i, hi, h⟩
    split at h
    · rename_i d q h1 h2
      cases h
      exact ⟨i, d, hi, h1, h2⟩
    · cases h
  · rintro ⟨i, d, hi, h1, h2⟩
    exact ⟨i, hi, by rw [h1, h2]⟩
/-- fewer slots are owned: the others' lists are frozen -/
theorem RS.less (r : RS K T B B0 ow σ ρ H S) (h : ∀ i ∈ ow', i ∈ ow) : RS K T B B0 ow' σ ρ H (B0 ++ ownA ow' σ ρ) ∧ ∀ p ∈ B0 ++ ownA ow' σ ρ, p ∈ S := by
  have hS : ∀ p ∈ B0 ++ ownA ow' σ ρ, p ∈ S := fun p hp => by
    rcases List.mem_append.mp hp with z | z
    · exact r.sub p z
    · obtain ⟨i, d, hi, h1, h2⟩ := mem_ownA.mp z
      obtain ⟨q, vs, ds, e1, _, e3, _⟩ := r.re.own i d (h i hi) h1
      rw [h2] at e1
      cases e1
      exact e3
  have sub := hide_sub (H := H) hS
  refine ⟨⟨⟨fun p hp => r.re.mt p (hS p hp), r.re.len, fun i d hi hd => ?_, fun i d hi hd => ?_, fun i j d e p hi hj => r.re.inj i j d e p (h i hi) (h j hj)⟩, r.ex, fun p hp => List.mem_append_left _ hp, r.bd, fun i d p hi => r.onew i d p (h i hi), fun p hp => ?_⟩, hS⟩
  · by_cases z : i ∈ ow
    · obtain ⟨q, vs, ds, e1, e2, e3, e4, e5⟩ := r.re.own i d z hd
      refine ⟨_, e1, ?_⟩
      rw [e2]
      refine .lst (hide_get e4 fun hq => ?_) (e5.mono sub)
      rcases List.mem_append.mp hq with y | y
      · exact r.bd q y (r.onew i d q z hd e1)
      · obtain ⟨j, d', hj, h1, h2⟩ := mem_ownA.mp y
        have := r.re.inj i j d d' q z (h j hj) hd h1 e1 h2
        subst this
        exact hi hj
    · obtain ⟨v, h1, h2⟩ := r.re.fro i d z hd
      exact ⟨v, h1, h2.mono sub⟩
  · obtain ⟨q, vs, ds, e1, e2, e3, e4, e5⟩ := r.re.own i d (h i hi) hd
    exact ⟨q, vs, ds, e1, e2, List.mem_append_right _ (mem_ownA.mpr ⟨i, d, hi, hd, e1⟩), e4, e5.mono sub⟩
  · exact r.new p (hS p hp)
theorem RS.bare (r : RS K T B B0 ow σ ρ H S) : RS K T B B0 [] σ ρ H B0 ∧ Ex (hide H S) (hide H B0) := by
  have h := (r.less (ow' := []) fun _ z => by cases z).1
  have e : B0 ++ ownA [] σ ρ = B0 := List.append_nil _
  rw [e] at h
  exact ⟨h, hide_sub r.sub⟩
/-- what is wanted behind a statement -/
def Wants (K : PySem.W.Frag) (T : CT) (W : WX) (B : Hp) (B0 : List Addr) (ow' ob : List Nat) (H : Hp) (S : List Addr) (D : Ends) : DFlow → Prop
  | .nx ρ => ∀ σ' H' S', RS K T B B0 ow' σ' ρ H' S' → Ex (hide H S) (hide H' S') → D.nx σ' H'
  | .rt d => ∀ v H', Ex B H' → Rep K T (hide H' B0) v d → D.rt v H'
  | .bk ρ => ∀ σ' H' S', RS K T B B0 ob σ' ρ H' S' → Ex (hide H S) (hide H' S') → D.bk σ' H'
  | .ct ρ => ∀ σ' H' S', RS K T B B0 ob σ' ρ H' S' → Ex (hide H S) (hide H' S') → D.ct σ' H'
  | .ex c ρ => ∀ σ' H', RS K T B B0 [] σ' ρ H' B0 → Ex (hide H S) (hide H' B0) → W (T.exc c) none σ' H'
  | .stuck => False
theorem Wants.mono {W : WX} {D : Ends} {f : DFlow} (w : Wants K T W B B0 ow' ob H S D f) (e : Ex (hide H S) (hide H' S')) : Wants K T W B B0 ow' ob H' S' D f := by
  cases f with
  | nx ρ => exact fun σ' H2 S2 r e2 => w σ' H2 S2 r (e.trans e2)
  | rt d => exact w
  | bk ρ => exact fun σ' H2 S2 r e2 => w σ' H2 S2 r (e.trans e2)
  | ct ρ => exact fun σ' H2 S2 r e2 => w σ' H2 S2 r (e.trans e2)
  | ex c ρ => exact fun σ' H2 r e2 => w σ' H2 r (e.trans e2)
  | stuck => exact w
def tDS (K : PySem.W.Frag) (T : CT) (W : WX) (ow ow' ob : List Nat) (F : DEnv → DFlow) : TS := fun D σ H => ∃ B B0 ρ S, RS K T B B0 ow σ ρ H S ∧ Wants K T W B B0 ow' ob H S D (F ρ)
end
def DS (X : Cx) (T : CT) (W : WX) (ow ow' ob : List Nat) (st : Stmt) (F : DEnv → DFlow) : Prop := PS X st (tDS X.K T W ow ow' ob F)
def DSs (X : Cx) (T : CT) (W : WX) (ow ow' ob : List Nat) (st : List Stmt) (F : DEnv → DFlow) : Prop := PSs X st (tDS X.K T W ow ow' ob F)

section
variable {K : PySem.W.Frag} {T : CT} {W : WX} {B H H' H1 : Hp} {B0 S S' : List Addr} {ow ow' ob : List Nat} {σ : Sg} {ρ : DEnv} {D : Ends}
/-- a result, then a statement's end -/
def rBind {α : Type} (r : Res α) (ρ : DEnv) (k : α → DFlow) : DFlow := match r with
  | .ok a => k a
  | .exc c => .ex c ρ
  | .stuck => .stuck
/-- an expression within a statement -/
theorem Wants.part {fa : DEnv → Res Dat} {k : Dat → DFlow} {R : VK} (rs : RS K T B B0 ow σ ρ H S) (w : Wants K T W B B0 ow' ob H S D (rBind (fa ρ) ρ k))
    (hk : ∀ v d H1, Wants K T W B B0 ow' ob H1 S D (k d) → RS K T B B0 ow σ ρ H1 S → Ex H H1 → Rep K T (hide H1 S) v d → R v H1) : tD K T W ow fa σ H R := by
  refine ⟨ρ, S, rs.re, ?_⟩
  unfold rBind at w
  cases q : fa ρ with
  | ok d =>
    rw [q] at w
    exact fun v H' e r => hk v d H' (Wants.mono w (hide_mono e)) (rs.mono e) e r
  | exc c =>
    rw [q] at w
    intro H' e
    have r2 := (rs.mono e).bare
    exact w σ H' r2.1 ((hide_mono e).trans r2.2)
  | stuck =>
    rw [q] at w
    exact w.elim
theorem Wants.partF {fa : DEnv → Res (List Dat)} {k : List Dat → DFlow} {R : VK} (rs : RS K T B B0 ow σ ρ H S) (w : Wants K T W B B0 ow' ob H S D (rBind (fa ρ) ρ k))
    (hk : ∀ p vs ds H1, Wants K T W B B0 ow' ob H S D (k ds) → RS K T B B0 ow σ ρ H1 S → Ex H H1 → H p = none → H1 p = some (.lst vs) → Reps K T (hide H1 (p :: S)) vs ds → R (.ref p) H1) : tDF K T W ow fa σ H R := by
  refine ⟨ρ, S, rs.re, ?_⟩
  unfold rBind at w
  cases q : fa ρ with
  | ok d =>
    rw [q] at w
    exact fun p vs H' e n h r => hk p vs d H' w (rs.mono e) e n h r
  | exc c =>
    rw [q] at w
    intro H' e
    have r2 := (rs.mono e).bare
    exact w σ H' r2.1 ((hide_mono e).trans r2.2)
  | stuck =>
    rw [q] at w
    exact w.elim
theorem Wants.partB {fa : DEnv → Res Bool} {k : Bool → DFlow} {R : Bool → Hp → Prop} (rs : RS K T B B0 ow σ ρ H S) (w : Wants K T W B B0 ow' ob H S D (rBind (fa ρ) ρ k))
    (hk : ∀ d H1, Wants K T W B B0 ow' ob H1 S D (k d) → RS K T B B0 ow σ ρ H1 S → Ex H H1 → R d H1) : tDB K T W ow fa σ H R := by
  refine ⟨ρ, S, rs.re, ?_⟩
  unfold rBind at w
  cases q : fa ρ with
  | ok d =>
    rw [q] at w
    exact fun H' e => hk d H' (Wants.mono w (hide_mono e)) (rs.mono e) e
  | exc c =>
    rw [q] at w
    intro H' e
    have r2 := (rs.mono e).bare
    exact w σ H' r2.1 ((hide_mono e).trans r2.2)
  | stuck =>
    rw [q] at w
    exact w.elim
theorem Wants.partA {fa : DEnv → Res (List Dat)} {k : List Dat → DFlow} {R : List V → Hp → Prop} (rs : RS K T B B0 ow σ ρ H S) (w : Wants K T W B B0 ow' ob H S D (rBind (fa ρ) ρ k))
    (hk : ∀ vs ds H1, Wants K T W B B0 ow' ob H1 S D (k ds) → RS K T B B0 ow σ ρ H1 S → Ex H H1 → Reps K T (hide H1 S) vs ds → R vs H1) : tDA K T W ow fa σ H R := by
  refine ⟨ρ, S, rs.re, ?_⟩
  unfold rBind at w
  cases q : fa ρ with
  | ok d =>
    rw [q] at w
    exact fun vs H' e r => hk vs d H' (Wants.mono w (hide_mono e)) (rs.mono e) e r
  | exc c =>
    rw [q] at w
    intro H' e
    have r2 := (rs.mono e).bare
    exact w σ H' r2.1 ((hide_mono e).trans r2.2)
  | stuck =>
    rw [q] at w
    exact w.elim
/-- the statement goes on: the slots' new state -/
theorem Wants.go {ρ' : DEnv} {σ' : Sg} (w : Wants K T W B B0 ow' ob H S D (.nx ρ')) (r : RS K T B B0 ow' σ' ρ' H' S') (e : Ex (hide H S) (hide H' S')) : D.nx σ' H' := w σ' H' S' r e
theorem RS.set {i : Nat} {v : V} {d : Dat} (rs : RS K T B B0 ow σ ρ H S) (hi : i ∉ ow) (r : Rep K T (hide H S) v d) : RS K T B B0 ow (σ.set i (some v)) (ρ.set i (some d)) H S := by
  refine ⟨rs.re.set hi r, rs.ex, rs.sub, rs.bd, fun j e p hj h1 h2 => ?_, rs.new⟩
  have z : i ≠ j := fun q => hi (q ▸ hj)
  rw [List.getElem?_set_ne z] at h1 h2
  exact rs.onew j e p hj h1 h2
/-- a new list becomes a slot's own -/
theorem RS.own {i : Nat} {p : Addr} {vs : List V} {ds : List Dat} (rs : RS K T B B0 ow σ ρ H S) (hi : i ∉ ow) (e : Ex H H') (n : H p = none) (hp : H' p = some (.lst vs)) (r : Reps K T (hide H' (p :: S)) vs ds) :
    RS K T B B0 (i :: ow) (σ.set i (some (.ref p))) (ρ.set i (some (.lst ds))) H' (p :: S) := by
  have re := rs.re.more e n ⟨_, hp, rfl⟩
  have hB : B p = none := rs.ex.fresh n
  have hl := rs.re.len
  have pn : p ∉ S := rs.re.mt.not n
  refine ⟨⟨re.mt, by rw [List.length_set, List.length_set]; exact hl, fun j d hj hd => ?_, fun j d hj hd => ?_, fun j k d f q hj hk hd hf h1 h2 => ?_⟩, rs.ex.trans e, fun q hq => List.mem_cons_of_mem _ (rs.sub q hq), rs.bd, fun j d q hj hd h1 => ?_, fun q hq => ?_⟩
  · rw [List.mem_cons, not_or] at hj
    rw [List.getElem?_set_ne (Ne.symm hj.1)] at hd ⊢
    exact re.fro j d hj.2 hd
  · by_cases z : i = j
    · subst z
      by_cases zl : i < ρ.length
      · rw [List.getElem?_set_self zl] at hd
        cases hd
        exact ⟨p, vs, ds, List.getElem?_set_self (by rw [hl]; exact zl), rfl, List.mem_cons_self, hp, r⟩
      · rw [List.getElem?_eq_none (by rw [List.length_set]; omega)] at hd
        cases hd
    · rw [List.getElem?_set_ne z] at hd ⊢
      rcases List.mem_cons.mp hj with y | y
      · exact absurd y.symm z
      · exact re.own j d y hd
  · have key : ∀ {m : Nat} {g : Dat}, m ∈ ow → (ρ.set i (some (.lst ds)))[m]? = some (some g) → (σ.set i (some (.ref p)))[m]? = some (some (.ref p)) → False := fun {m g} hm h1 h2 => by
      have z : i ≠ m := fun y => hi (y ▸ hm)
      rw [List.getElem?_set_ne z] at h1 h2
      obtain ⟨q', _, _, e1, _, e3, _⟩ := rs.re.own m g hm h1
      rw [h2] at e1
      cases e1
      exact pn e3
    have self : ∀ {m : Nat} {g : Dat}, (ρ.set i (some (.lst ds)))[i]? = some (some g) → (σ.set i (some (.ref p)))[i]? = some (some (.ref q)) → q = p := fun {m g} h1 h2 => by
      by_cases zl : i < ρ.length
      · rw [List.getElem?_set_self (by rw [hl]; exact zl)] at h2
        cases h2
        rfl
      · rw [List.getElem?_eq_none (by rw [List.length_set]; omega)] at h1
        cases h1
    rcases List.mem_cons.mp hj with y | y <;> rcases List.mem_cons.mp hk with x | x
    · rw [y, x]
    · subst y
      have q1 := self (m := 0) hd h1
      subst q1
      exact (key x hf h2).elim
    · subst x
      have q1 := self (m := 0) hf h2
      subst q1
      exact (key y hd h1).elim
    · have z1 : i ≠ j := fun w => hi (w ▸ y)
      have z2 : i ≠ k := fun w => hi (w ▸ x)
      rw [List.getElem?_set_ne z1] at hd h1
      rw [List.getElem?_set_ne z2] at hf h2
      exact rs.re.inj j k d f q y x hd hf h1 h2
  · by_cases z : i = j
    · subst z
      by_cases zl : i < ρ.length
      · rw [List.getElem?_set_self (by rw [hl]; exact zl)] at h1
        cases h1
        exact hB
      · rw [List.getElem?_eq_none (by rw [List.length_set]; omega)] at hd
        cases hd
    · rw [List.getElem?_set_ne z] at hd h1
      rcases List.mem_cons.mp hj with y | y
      · exact absurd y.symm z
      · exact rs.onew j d q y hd h1
  · rcases List.mem_cons.mp hq with y | y
    · rw [y]; exact .inr hB
    · exact rs.new q y
/-- a slot's own list changes -/
theorem RS.chg {i : Nat} {p : Addr} {ws : List V} {ds es : List Dat} (rs : RS K T B B0 ow σ ρ H S) (hi : i ∈ ow) (hd : ρ[i]? = some (some (.lst ds))) (hv : σ[i]? = some (some (.ref p))) (hp : p ∈ S) (r : Reps K T (hide H S) ws es) :
    RS K T B B0 ow σ (ρ.set i (some (.lst es))) (upd H p (.lst ws)) S := by
  have hB := rs.onew i _ p hi hd hv
  have hl := rs.re.len
  have il : i < ρ.length := (List.getElem?_eq_some_iff.mp hd).1
  have old : ∀ {m : Nat} {g : Dat}, (ρ.set i (some (.lst es)))[m]? = some (some g) → ∃ g', ρ[m]? = some (some g') := fun {m g} h => by
    by_cases z : i = m
    · subst z; exact ⟨_, hd⟩
    · rw [List.getElem?_set_ne z] at h; exact ⟨g, h⟩
  refine ⟨⟨fun q hq => ?_, by rw [List.length_set]; exact hl, fun j d hj hd' => ?_, fun j d hj hd' => ?_, fun j k d f q hj hk h1 h2 h3 h4 => ?_⟩, fun a o ha => ?_, rs.sub, rs.bd, fun j d q hj h1 h2 => ?_, rs.new⟩
  · by_cases z : q = p
    · subst z
      exact ⟨_, upd_same, rfl⟩
    · rw [upd_ne z]
      exact rs.re.mt q hq
  · have z : i ≠ j := fun y => hj (y ▸ hi)
    rw [List.getElem?_set_ne z] at hd'
    rw [hide_upd hp]
    exact rs.re.fro j d hj hd'
  · rw [hide_upd hp]
    by_cases z : i = j
    · subst z
      rw [List.getElem?_set_self il] at hd'
      cases hd'
      exact ⟨p, ws, es, hv, rfl, hp, upd_same, r⟩
    · rw [List.getElem?_set_ne z] at hd'
      obtain ⟨q, us, fs, e1, e2, e3, e4, e5⟩ := rs.re.own j d hj hd'
      refine ⟨q, us, fs, e1, e2, e3, ?_, e5⟩
      rw [upd_ne fun y => z (rs.re.inj i j _ d p hi hj hd hd' hv (by rw [← y]; exact e1))]
      exact e4
  · obtain ⟨d', h1⟩ := old h1
    obtain ⟨f', h2⟩ := old h2
    exact rs.re.inj j k d' f' q hj hk h1 h2 h3 h4
  · rw [upd_ne fun y => by rw [y, hB] at ha; cases ha]
    exact rs.ex a o ha
  · obtain ⟨d', h1⟩ := old h1
    exact rs.onew j d' q hj h1 h2
end

/-! ### the statements' data -/
def sNop : DEnv → DFlow := .nx
def sSeq (F G : DEnv → DFlow) : DEnv → DFlow := fun ρ => match F ρ with
  | .nx ρ' => G ρ'
  | f => f
def sAsg (i : Nat) (f : DEnv → Res Dat) : DEnv → DFlow := fun ρ => rBind (f ρ) ρ fun d => .nx (ρ.set i (some d))
def sAsgO (i : Nat) (f : DEnv → Res (List Dat)) : DEnv → DFlow := fun ρ => rBind (f ρ) ρ fun l => .nx (ρ.set i (some (.lst l)))
def sAsgT (asg : Dat → DEnv → Option DEnv) (f : DEnv → Res Dat) : DEnv → DFlow := fun ρ => rBind (f ρ) ρ fun d => match asg d ρ with
  | some ρ' => .nx ρ'
  | none => .stuck
def sPar (i j : Nat) (f g : DEnv → Res Dat) : DEnv → DFlow := fun ρ => rBind (f ρ) ρ fun d => rBind (g ρ) ρ fun e => .nx ((ρ.set i (some d)).set j (some e))
def sParO (i j : Nat) (f : DEnv → Res (List Dat)) (g : DEnv → Res Dat) : DEnv → DFlow := fun ρ => rBind (f ρ) ρ fun d => rBind (g ρ) ρ fun e => .nx ((ρ.set i (some (.lst d))).set j (some e))
def sDrop (f : DEnv → Res Dat) : DEnv → DFlow := fun ρ => rBind (f ρ) ρ fun _ => .nx ρ
def sRet (f : DEnv → Res Dat) : DEnv → DFlow := fun ρ => rBind (f ρ) ρ .rt
def sRetN : DEnv → DFlow := fun _ => .rt .non
def sIf (t : DEnv → Res Bool) (F G : DEnv → DFlow) : DEnv → DFlow := fun ρ => rBind (t ρ) ρ fun b => if b = true then F ρ else G ρ
def sAug (i : Nat) (g : Dat → Dat → Option Dat) (f : DEnv → Res Dat) : DEnv → DFlow := fun ρ => match ρ[i]? with
  | some (some d) => rBind (f ρ) ρ fun e => match g d e with
    | some z => .nx (ρ.set i (some z))
    | none => .stuck
  | _ => .stuck
def sApp (i : Nat) (f : DEnv → Res Dat) : DEnv → DFlow := fun ρ => match ρ[i]? with
  | some (some (.lst l)) => rBind (f ρ) ρ fun d => if l.length < 10000000 then .nx (ρ.set i (some (.lst (l ++ [d])))) else .stuck
  | _ => .stuck
def extK (i : Nat) (l : List Dat) (ρ : DEnv) : Dat → DFlow
  | .lst m => if l.length + m.length ≤ 10000000 then .nx (ρ.set i (some (.lst (l ++ m)))) else .stuck
  | _ => .stuck
def sExt (i : Nat) (f : DEnv → Res Dat) : DEnv → DFlow := fun ρ => match ρ[i]? with
  | some (some (.lst l)) => rBind (f ρ) ρ (extK i l ρ)
  | _ => .stuck
def setK (i : Nat) (l : List Dat) (ρ : DEnv) (d : Dat) : Dat → DFlow
  | .int n => match ixN l.length n with
    | some j => .nx (ρ.set i (some (.lst (l.set j d))))
    | none => .stuck
  | _ => .stuck
def sSetI (i : Nat) (fi f : DEnv → Res Dat) : DEnv → DFlow := fun ρ => rBind (f ρ) ρ fun d => match ρ[i]? with
  | some (some (.lst l)) => rBind (fi ρ) ρ (setK i l ρ d)
  | _ => .stuck
def sRaise (c : Nat) : DEnv → DFlow := fun ρ => .ex c ρ
def sBreak : DEnv → DFlow := .bk
def sCont : DEnv → DFlow := .ct
def forL (asg : Dat → DEnv → Option DEnv) (F : DEnv → DFlow) : List Dat → DEnv → DFlow
  | [], ρ => .nx ρ
  | d :: r, ρ => match asg d ρ with
    | none => .stuck
    | some ρ1 => match F ρ1 with
      | .nx ρ2 => forL asg F r ρ2
      | .ct ρ2 => forL asg F r ρ2
      | .bk ρ2 => .nx ρ2
      | f => f
def sFor (g : DEnv → Res (List Dat)) (asg : Dat → DEnv → Option DEnv) (F : DEnv → DFlow) : DEnv → DFlow := fun ρ => rBind (g ρ) ρ fun items => forL asg F items ρ
def whileL (t : DEnv → Res Bool) (F : DEnv → DFlow) : Nat → DEnv → DFlow
  | 0, _ => .stuck
  | n + 1, ρ => rBind (t ρ) ρ fun b => if b = true then (match F ρ with
      | .nx ρ2 => whileL t F n ρ2
      | .ct ρ2 => whileL t F n ρ2
      | .bk ρ2 => .nx ρ2
      | f => f) else .nx ρ
def sWhile (n : Nat) (t : DEnv → Res Bool) (F : DEnv → DFlow) : DEnv → DFlow := whileL t F n
/-- try: F except (the classes m): G, where G raises nothing -/
def sTry (m : Nat → Bool) (F G : DEnv → DFlow) : DEnv → DFlow := fun ρ => match F ρ with
  | .ex c ρ' => if m c = true then (match G ρ' with
    | .ex _ _ => .stuck
    | f => f) else .ex c ρ'
  | f => f

section
variable {X : Cx} {T : CT} {W : WX} {ow ow' ow'' ob : List Nat} {e a b c : Expr} {st : Stmt} {sts rest : List Stmt} {pos p1 p2 : Pos} {f g : DEnv → Res Dat} {F G : DEnv → DFlow}
theorem ds_in (h : DS X T W ow' ow'' ob st F) (hs : ∀ i ∈ ow', i ∈ ow) : DS X T W ow ow'' ob st F := ps_imp h fun D σ H q => by
  obtain ⟨B, B0, ρ, S, rs, w⟩ := q
  obtain ⟨r2, sub⟩ := rs.less hs
  exact ⟨B, B0, ρ, _, r2, w.mono (hide_sub sub)⟩
theorem dss_in (h : DSs X T W ow' ow'' ob sts F) (hs : ∀ i ∈ ow', i ∈ ow) : DSs X T W ow ow'' ob sts F := pss_imp h fun D σ H q => by
  obtain ⟨B, B0, ρ, S, rs, w⟩ := q
  obtain ⟨r2, sub⟩ := rs.less hs
  exact ⟨B, B0, ρ, _, r2, w.mono (hide_sub sub)⟩
theorem Wants.out {K : PySem.W.Frag} {B : Hp} {B0 S : List Addr} {H : Hp} {D : Ends} {fl : DFlow} (w : Wants K T W B B0 ow'' ob H S D fl) (hs : ∀ i ∈ ow'', i ∈ ow') : Wants K T W B B0 ow' ob H S D fl := by
  cases fl with
  | nx ρ =>
    intro σ' H2 S2 r e2
    obtain ⟨r2, sub⟩ := r.less hs
    exact w σ' H2 _ r2 (e2.trans (hide_sub sub))
  | rt d => exact w
  | bk ρ => exact w
  | ct ρ => exact w
  | ex c ρ => exact w
  | stuck => exact w
theorem dss_out (h : DSs X T W ow ow' ob sts F) (hs : ∀ i ∈ ow'', i ∈ ow') : DSs X T W ow ow'' ob sts F := pss_imp h fun D σ H q => by
  obtain ⟨B, B0, ρ, S, rs, w⟩ := q
  exact ⟨B, B0, ρ, S, rs, w.out hs⟩
theorem ds_out (h : DS X T W ow ow' ob st F) (hs : ∀ i ∈ ow'', i ∈ ow') : DS X T W ow ow'' ob st F := ps_imp h fun D σ H q => by
  obtain ⟨B, B0, ρ, S, rs, w⟩ := q
  exact ⟨B, B0, ρ, S, rs, w.out hs⟩
theorem dss_nil : DSs X T W ow ow ob [] sNop := pss_imp pss_nil fun D σ H q => by
  obtain ⟨B, B0, ρ, S, rs, w⟩ := q
  exact w σ H S rs (Ex.refl _)
theorem dss_cons (h1 : DS X T W ow ow' ob st F) (h2 : DSs X T W ow' ow'' ob rest G) : DSs X T W ow ow'' ob (st :: rest) (sSeq F G) := pss_imp (pss_cons h1 h2) fun D σ H q => by
  obtain ⟨B, B0, ρ, S, rs, w⟩ := q
  refine ⟨B, B0, ρ, S, rs, ?_⟩
  unfold sSeq at w
  cases q : F ρ with
  | nx ρ' =>
    rw [q] at w
    exact fun σ' H' S' r e => ⟨B, B0, ρ', S', r, w.mono e⟩
  | _ =>
    rw [q] at w
    exact w
theorem dss_one (h1 : DS X T W ow ow' ob st F) : DSs X T W ow ow' ob [st] F := pss_one h1
theorem ds_pass : DS X T W ow ow ob (.Pass pos) sNop := ps_imp ps_pass fun D σ H q => by
  obtain ⟨B, B0, ρ, S, rs, w⟩ := q
  exact w σ H S rs (Ex.refl _)
theorem ds_break : DS X T W ob ow' ob (.Break pos) sBreak := ps_imp ps_break fun D σ H q => by
  obtain ⟨B, B0, ρ, S, rs, w⟩ := q
  exact w σ H S rs (Ex.refl _)
theorem ds_cont : DS X T W ob ow' ob (.Continue pos) sCont := ps_imp ps_continue fun D σ H q => by
  obtain ⟨B, B0, ρ, S, rs, w⟩ := q
  exact w σ H S rs (Ex.refl _)
/-- name = e -/
theorem ds_asg {i : Nat} {x : Str} {pos' : Pos} (hN : X.N.Nodup) (he : DE X T W ow e f) (hs : ∀ j ∈ ow', j ∈ ow) (ho : i ∉ ow') (hi : X.N[i]? = some x := by rfl) (hx : Loc X.env.scope x := by first | exact .inl rfl | exact .inr rfl)
    (hsw : swapsWith e (some (.Name x pos')) pos.line X.env = pure false := by rfl) (hf : X.fn x = true ∨ X.env.scope.names.lookup x = some .local := by first | exact .inl rfl | exact .inr rfl) : DS X T W ow ow' ob (.Assign [.Name x pos'] e pos) (sAsg i f) :=
  ps_imp (ps_set hN hi hx he hsw hf) fun D σ H q => by
    obtain ⟨B, B0, ρ, S, rs, w⟩ := q
    refine Wants.part rs w fun v d H1 w1 rs1 e1 r => ?_
    obtain ⟨rs2, sub⟩ := rs1.less hs
    exact Wants.go w1 (rs2.set ho (r.mono (hide_sub sub))) (hide_sub sub)
/-- name = a new list, the slot's own from now on -/
theorem ds_asgO {i : Nat} {x : Str} {pos' : Pos} {f : DEnv → Res (List Dat)} (hN : X.N.Nodup) (he : DF X T W ow e f) (hs : ∀ j ∈ ow', j ∈ ow) (ho : i ∉ ow') (hi : X.N[i]? = some x := by rfl) (hx : Loc X.env.scope x := by first | exact .inl rfl | exact .inr rfl)
    (hsw : swapsWith e (some (.Name x pos')) pos.line X.env = pure false := by rfl) (hf : X.fn x = true ∨ X.env.scope.names.lookup x = some .local := by first | exact .inl rfl | exact .inr rfl) : DS X T W ow (i :: ow') ob (.Assign [.Name x pos'] e pos) (sAsgO i f) :=
  ps_imp (ps_set hN hi hx he hsw hf) fun D σ H q => by
    obtain ⟨B, B0, ρ, S, rs, w⟩ := q
    refine Wants.partF rs w fun p vs ds H1 w1 rs1 e1 n hp r => ?_
    obtain ⟨rs2, sub⟩ := rs.less hs
    have sub2 : ∀ q ∈ p :: (B0 ++ ownA ow' σ ρ), q ∈ p :: S := fun q hq => (List.mem_cons.mp hq).elim (fun z => by rw [z]; exact List.mem_cons_self) fun z => List.mem_cons_of_mem _ (sub q z)
    exact Wants.go w1 (rs2.own ho e1 n hp (r.mono (hide_sub sub2))) ((hide_sub sub).trans (hide_new e1 n))
end
end Dl
/-! The D layer, part 7: the other statements; defs by their bodies. -/
namespace Dl
open PySem PySem.Spec PyProof.Rows L2
section
variable {X : Cx} {T : CT} {W : WX} {ow ow' ow'' ob : List Nat} {e a b c : Expr} {st : Stmt} {sts rest : List Stmt} {pos p1 p2 : Pos} {f g : DEnv → Res Dat} {F G : DEnv → DFlow}
/-- name = [..] on one line, the name a local: frozen, or the slot's own -/
theorem ds_asgLc {i : Nat} {y : Str} {py : Pos} {elt tg iter : Expr} {ifs : List Expr} {scope : Scope} {own : List (Str × Nat)} {spos : Pos} {gg : DEnv → Res (List Dat)} {asg : Dat → DEnv → Option DEnv} {is : List Nat} {t : DEnv → Res Bool} {fe : DEnv → Res Dat} (hc : X.calm = true) (hN : X.N.Nodup)
    (hyl : X.env.scope.names.lookup y = some .local) (hsw : swapsWith (.ListComp elt [⟨tg, iter, ifs, 0⟩] scope pos) (some (.Name y py)) spos.line X.env = pure true) (hi : DI X T W ow tg iter gg) (ok : BlkOk X.N X.env.scope scope own) (his : ∀ i ∈ is, i ∈ own.map (·.2))
    (hg : ∀ (s : Shared) (H : Hp) (C : Addr) (cl : List (Str × Addr)) (fp : List Addr), DG (X.blk s H scope (compEnvC scope cl C X.env) fp) T ow is tg asg) (ht : ∀ (s : Shared) (H : Hp) (C : Addr) (cl : List (Str × Addr)) (fp : List Addr), DTs (X.blk s H scope (compEnvC scope cl C X.env) fp) T ow ifs t)
    (he : ∀ (s : Shared) (H : Hp) (C : Addr) (cl : List (Str × Addr)) (fp : List Addr), DE (X.blk s H scope (compEnvC scope cl C X.env) fp) T wNo ow elt fe) (hs : ∀ j ∈ ow', j ∈ ow) (ho : i ∉ ow') (hy : X.N[i]? = some y := by rfl) (hfs : ∀ x, foldedSetIterable iter X.env x = pure x := by intro _; rfl) :
    DS X T W ow (i :: ow') ob (.Assign [.Name y py] (.ListComp elt [⟨tg, iter, ifs, 0⟩] scope pos) spos) (sAsgO i (vLc gg asg (own.map (·.2)) t fe)) :=
  ps_imp (ps_setLc (g := tDG X.K T ow is asg) (tt := tDB X.K T wNo ow t) (te := tD X.K T wNo ow fe) hc hN hy hyl hsw hi ok hg ht he hfs) fun D σ H q => by
    obtain ⟨B, B0, ρ, S, rs, w⟩ := q
    refine lc_read his ?_
    refine Wants.partF rs w fun p vs ds H1 w1 rs1 e1 n hp r => ?_
    obtain ⟨rs2, sub⟩ := rs.less hs
    have sub2 : ∀ q ∈ p :: (B0 ++ ownA ow' σ ρ), q ∈ p :: S := fun q hq => (List.mem_cons.mp hq).elim (fun z => by rw [z]; exact List.mem_cons_self) fun z => List.mem_cons_of_mem _ (sub q z)
    exact Wants.go w1 (rs2.own ho e1 n hp (r.mono (hide_sub sub2))) ((hide_sub sub).trans (hide_new e1 n))
/-- targets = e -/
theorem ds_asgT {tg : Expr} {is : List Nat} {asg : Dat → DEnv → Option DEnv} (he : DE X T W ow e f) (hg : DG X T ow' is tg asg) (hs : ∀ j ∈ ow', j ∈ ow) (hd : ∀ j ∈ ow', j ∉ is) (hsame : ∀ d ρ ρ' j, asg d ρ = some ρ' → j ∉ is → ρ'[j]? = ρ[j]?)
    (hsw : swapsWithSole [tg] e pos.line X.env = pure false := by rfl) (hw : swappedStores [tg] e X.env = pure none := by rfl) (hae : (assignEach [tg] X.env).map (·.2) = [assign tg X.env] := by rfl) : DS X T W ow ow' ob (.Assign [tg] e pos) (sAsgT asg f) := ps_imp (ps_asg he hg hsw hw hae) fun D σ H q => by
  obtain ⟨B, B0, ρ, S, rs, w⟩ := q
  refine Wants.part rs w fun v d H1 w1 rs1 e1 r => ?_
  obtain ⟨rs2, sub⟩ := rs1.less hs
  cases qa : asg d ρ with
  | none =>
    rw [qa] at w1
    exact w1.elim
  | some ρ' =>
    rw [qa] at w1
    refine ⟨ρ, _, d, rs2.re, r.mono (hide_sub sub), ρ', qa, fun σ' re' hsm hl => ?_⟩
    refine Wants.go w1 (S' := B0 ++ ownA ow' σ ρ) ⟨re', rs2.ex, rs2.sub, rs2.bd, fun i d' p hi h1 h2 => ?_, rs2.new⟩ (hide_sub sub)
    rw [hsame d ρ ρ' i qa (hd i hi)] at h1
    rw [hsm i (hd i hi)] at h2
    exact rs2.onew i d' p hi h1 h2
/-- x, y = a, b -/
theorem ds_par {i j : Nat} {x y : Str} {px py pt : Pos} {kt k2 pt2} (hc : X.calm = true) (hN : X.N.Nodup) (ha : DE X T W ow a f) (hb : DE X T W ow b g) (hs : ∀ k ∈ ow', k ∈ ow) (hi1 : i ∉ ow') (hj1 : j ∉ ow') (hw : swappedStores [.Tuple [.Name x px, .Name y py] kt pt] (.Tuple [a, b] k2 pt2) X.env = pure (some [x, y]))
    (hi : X.N[i]? = some x := by rfl) (hj : X.N[j]? = some y := by rfl) (hij : i ≠ j := by decide) (hx : X.env.scope.names.lookup x = some .local := by rfl) (hy : X.env.scope.names.lookup y = some .local := by rfl)
    (h1 : starEach [a, b] X.env = (false, eval a X.env) :: starEach [b] X.env := by rfl) (h2 : starEach [b] X.env = (false, eval b X.env) :: starEach [] X.env := by rfl) (hsw : swapsWithSole [.Tuple [.Name x px, .Name y py] kt pt] (.Tuple [a, b] k2 pt2) pos.line X.env = pure false := by rfl) :
    DS X T W ow ow' ob (.Assign [.Tuple [.Name x px, .Name y py] kt pt] (.Tuple [a, b] k2 pt2) pos) (sPar i j f g) := ps_imp (ps_par hc hN hi hj hij hx hy (pa_cons ha (pa_cons hb pa_nil h2) h1) hw hsw) fun D σ H q => by
  obtain ⟨B, B0, ρ, S, rs, w⟩ := q
  refine Wants.part rs w fun v d H1 w1 rs1 e1 r => ?_
  refine Wants.part rs1 w1 fun v2 d2 H2 w2 rs2 e2 r2 => ?_
  obtain ⟨rs3, sub⟩ := rs2.less hs
  refine ⟨v, v2, rfl, ?_⟩
  exact Wants.go w2 ((rs3.set hi1 ((r.mono (hide_mono e2)).mono (hide_sub sub))).set hj1 (r2.mono (hide_sub sub))) (hide_sub sub)
/-- x, y = [..], b: x owns its list -/
theorem ds_parO {f : DEnv → Res (List Dat)} {i j : Nat} {x y : Str} {px py pt : Pos} {kt k2 pt2} (hc : X.calm = true) (hN : X.N.Nodup) (ha : DF X T W ow a f) (hb : DE X T W ow b g) (hs : ∀ k ∈ ow', k ∈ ow) (hi1 : i ∉ ow') (hj1 : j ∉ i :: ow') (hw : swappedStores [.Tuple [.Name x px, .Name y py] kt pt] (.Tuple [a, b] k2 pt2) X.env = pure (some [x, y]))
    (hi : X.N[i]? = some x := by rfl) (hj : X.N[j]? = some y := by rfl) (hij : i ≠ j := by decide) (hx : X.env.scope.names.lookup x = some .local := by rfl) (hy : X.env.scope.names.lookup y = some .local := by rfl)
    (h1 : starEach [a, b] X.env = (false, eval a X.env) :: starEach [b] X.env := by rfl) (h2 : starEach [b] X.env = (false, eval b X.env) :: starEach [] X.env := by rfl) (hsw : swapsWithSole [.Tuple [.Name x px, .Name y py] kt pt] (.Tuple [a, b] k2 pt2) pos.line X.env = pure false := by rfl) :
    DS X T W ow (i :: ow') ob (.Assign [.Tuple [.Name x px, .Name y py] kt pt] (.Tuple [a, b] k2 pt2) pos) (sParO i j f g) := ps_imp (ps_par hc hN hi hj hij hx hy (pa_cons (te := tDF X.K T W ow f) ha (pa_cons hb pa_nil h2) h1) hw hsw) fun D σ H q => by
  obtain ⟨B, B0, ρ, S, rs, w⟩ := q
  refine Wants.partF rs w fun p vs ds H1 w1 rs1 e1 n hp r => ?_
  -- the second part, the new list hidden
  have pB : B p = none := rs.ex.fresh n
  have rsm : RS X.K T B B0 ow σ ρ H1 (p :: S) := ⟨rs.re.more e1 n ⟨_, hp, rfl⟩, rs.ex.trans e1, fun q hq => List.mem_cons_of_mem _ (rs.sub q hq), rs.bd, rs.onew, fun q hq => (List.mem_cons.mp hq).elim (fun z => by rw [z]; exact .inr pB) (rs.new q)⟩
  have w1' := w1.mono (hide_new e1 n)
  refine Wants.part rsm w1' fun v2 d2 H2 w2 rs2 e2 r2 => ?_
  refine ⟨.ref p, v2, rfl, ?_⟩
  obtain ⟨rs3, sub⟩ := rs.less hs
  have sub2 : ∀ q ∈ p :: (B0 ++ ownA ow' σ ρ), q ∈ p :: S := fun q hq => (List.mem_cons.mp hq).elim (fun z => by rw [z]; exact List.mem_cons_self) fun z => List.mem_cons_of_mem _ (sub q z)
  have rs4 := rs3.own hi1 (e1.trans e2) n (e2 _ _ hp) ((r.mono (hide_mono e2)).mono (hide_sub sub2))
  exact Wants.go w2 (rs4.set hj1 (r2.mono (hide_sub sub2))) (hide_sub sub2)
theorem ds_drop (he : DE X T W ow e f) (hs : swapsWith e none pos.line X.env = pure false := by rfl) : DS X T W ow ow ob (.Expr e pos) (sDrop f) := ps_imp (ps_expr he hs) fun D σ H q => by
  obtain ⟨B, B0, ρ, S, rs, w⟩ := q
  exact Wants.part rs w fun v d H1 w1 rs1 e1 r => Wants.go w1 rs1 (Ex.refl _)
theorem ds_ret (he : DE X T W ow e f) : DS X T W ow ow' ob (.Return (some e) pos) (sRet f) := ps_imp (ps_ret he) fun D σ H q => by
  obtain ⟨B, B0, ρ, S, rs, w⟩ := q
  exact Wants.part rs w fun v d H1 w1 rs1 e1 r => w1 v H1 rs1.ex (r.mono (hide_sub rs1.sub))
theorem ds_retN : DS X T W ow ow' ob (.Return none pos) sRetN := ps_imp ps_retN fun D σ H q => by
  obtain ⟨B, B0, ρ, S, rs, w⟩ := q
  exact w .non H rs.ex .non
theorem ds_if {t : DEnv → Res Bool} {as bs : List Stmt} (hc : DT X T W ow c t) (ha : DSs X T W ow ow' ob as F) (hb : DSs X T W ow ow' ob bs G) : DS X T W ow ow' ob (.If c as bs pos) (sIf t F G) := ps_imp (ps_if hc ha hb) fun D σ H q => by
  obtain ⟨B, B0, ρ, S, rs, w⟩ := q
  refine Wants.partB rs w fun k H1 w1 rs1 e1 => ?_
  cases k with
  | true => exact ⟨B, B0, ρ, S, rs1, w1⟩
  | false => exact ⟨B, B0, ρ, S, rs1, w1⟩
/-- x op= e -/
theorem ip_of {op : Operator} {r : R2} (h : OpR X (inplaceOp op) r) : PIp X op r := fun pins s σ H x y v u Q I rx ry q => h pins s σ H x y v u Q I rx ry q
theorem ds_aug {i : Nat} {x : Str} {pos' : Pos} {op : Operator} {r : R2} {gg : Dat → Dat → Option Dat} (hN : X.N.Nodup) (ho : OpR X (inplaceOp op) r) (rd : R2D X.K T r gg) (he : DE X T W ow e f) (hiw : i ∉ ow := by decide) (hi : X.N[i]? = some x := by rfl) (hx : Loc X.env.scope x := by first | exact .inl rfl | exact .inr rfl)
    (hf : X.fn x = true ∨ X.env.scope.names.lookup x = some .local := by first | exact .inl rfl | exact .inr rfl) : DS X T W ow ow ob (.AugAssign (.Name x pos') op e pos) (sAug i gg f) := ps_imp (ps_aug hN hi hx he (ip_of ho) hf) fun D σ H q => by
  obtain ⟨B, B0, ρ, S, rs, w⟩ := q
  unfold sAug at w
  split at w
  · rename_i d hd
    obtain ⟨v, h1, h2⟩ := rs.re.fro i d hiw hd
    refine ⟨v, h1, ?_⟩
    refine Wants.part rs w fun v2 d2 H1 w1 rs1 e1 r2 => ?_
    cases q : gg d d2 with
    | none =>
      rw [q] at w1
      exact w1.elim
    | some z =>
      rw [q] at w1
      refine rd S H1 v v2 d d2 z _ rs1.re.mt (h2.mono (hide_mono e1)) r2 q fun v3 H2 e2 r3 => ?_
      exact Wants.go w1 ((rs1.mono e2).set hiw r3) (hide_mono e2)
  · exact w.elim
theorem iop_addAll : OpR X (inplaceOp .Add) (fun x y H Q => rI0 (fun i j => .int (i + j)) x y H Q ∨ (∃ i j, x = .str i ∧ y = .str j ∧ i.length + j.length ≤ sizeLine ∧ Q (.str (i ++ j)) H)) := iop_add.or iop_add_str
def iaddD : Dat → Dat → Option Dat
  | .int i, .int j => some (.int (i + j))
  | .str a, .str b => if a.length + b.length ≤ sizeLine then some (.str (a ++ b)) else none
  | _, _ => none
theorem rd_iadd {K : PySem.W.Frag} : R2D K T (fun x y H Q => rI0 (fun i j => .int (i + j)) x y H Q ∨ (∃ i j, x = .str i ∧ y = .str j ∧ i.length + j.length ≤ sizeLine ∧ Q (.str (i ++ j)) H)) iaddD := fun S H x y dx dy d Q m rx ry e q => by
  cases rx with
  | int i =>
    cases ry with
    | int j => exact .inl ⟨i, j, rfl, rfl, by cases e; exact q _ H (Ex.refl H) (.int _)⟩
    | _ => cases e
  | str a =>
    cases ry with
    | str b =>
      simp only [iaddD] at e
      by_cases z : a.length + b.length ≤ sizeLine
      · rw [if_pos z] at e
        exact .inr ⟨a, b, rfl, rfl, z, by cases e; exact q _ H (Ex.refl H) (.str _)⟩
      · rw [if_neg z] at e
        cases e
    | _ => cases e
  | _ => cases e
def imulI (i j : Int) : Option Int := if i.natAbs < 2 ^ 64 ∨ j.natAbs < 2 ^ 64 then some (i * j) else none
theorem rd_imul {K : PySem.W.Frag} : R2D K T (rI CMul fun i j => .int (i * j)) (intOp imulI) := rd_int fun i j k H Q e q => by
  unfold imulI at e
  split at e
  · rename_i h
    refine ⟨i, j, rfl, rfl, ?_, by cases e; exact q⟩
    rcases h with h | h
    · exact .inl (mul64 h)
    · exact .inr (mul64 h)
  · cases e
def ifdivI (i j : Int) : Option Int := if 0 < j ∧ j.natAbs.log2 < 9000 then some (i / j) else none
theorem rd_ifdiv {K : PySem.W.Frag} : R2D K T (rI CDivW fun i j => .int (i / j)) (intOp ifdivI) := rd_int fun i j k H Q e q => by
  unfold ifdivI at e
  split at e
  · rename_i h
    exact ⟨i, j, rfl, rfl, h, by cases e; exact q⟩
  · cases e
/-! ### an owned list changes -/
/-- the slot's own list, as an object -/
theorem own_at {K : PySem.W.Frag} {B : Hp} {B0 S : List Addr} {σ : Sg} {ρ : DEnv} {H : Hp} {i : Nat} {l : List Dat} (rs : RS K T B B0 ow σ ρ H S) (hi : i ∈ ow) (hd : ρ[i]? = some (some (.lst l))) : ∃ p vs, σ[i]? = some (some (.ref p)) ∧ p ∈ S ∧ H p = some (.lst vs) ∧ Reps K T (hide H S) vs l := by
  obtain ⟨p, vs, ds, h1, h2, h3, h4, h5⟩ := rs.re.own i _ hi hd
  cases h2
  exact ⟨p, vs, h1, h3, h4, h5⟩
theorem ds_app {i : Nat} {x : Str} {apos cpos xp : Pos} (he : DE X T W ow e f) (hiw : i ∈ ow := by decide) (hN : X.N[i]? = some x := by rfl) (hv : Vis X.env.scope x := by first | exact Or.inl rfl | exact Or.inr (Or.inl rfl) | exact Or.inr (Or.inr rfl)) (hd : (x == ("__debug__" : Str)) = false := by decide)
    (hcd : (x == ("__classdict__" : Str)) = false := by decide) (hbase : attributeBase (.Name x xp) "append" X.env (eval (.Name x xp) X.env) = eval (.Name x xp) X.env := by rfl)
    (hfew : ((backTo cpos (starEach [e] X.env)).all (fun x => !x.1) && (backToKw cpos (keywordEach [] X.env)).all (fun x => x.1.isSome)
      && decide ([e].length + ([] : List Keyword).length + (if ([] : List Keyword).isEmpty then 0 else 1) < 30)) = true := by rfl)
    (hline : (apos.endLine == cpos.line) = true := by rfl) (hst : starEach [e] X.env = (false, eval e X.env) :: starEach [] X.env := by rfl) (hplain : (backTo cpos (starEach [] X.env)).any (·.1) = false := by rfl)
    (hs : swapsWith (.Call (.Attribute (.Name x xp) "append" apos) [e] [] cpos) none pos.line X.env = pure false := by rfl) :
    DS X T W ow ow ob (.Expr (.Call (.Attribute (.Name x xp) "append" apos) [e] [] cpos) pos) (sApp i f) :=
  ps_imp (ps_expr (pe_bm PySem.F.plainAttrs_list PySem.F.slot_list_append PySem.F.type_list_append mt_append (pe_var hN hv hd hcd) (pa_cons he pa_nil hst) hbase hfew hline hst hplain) hs) fun D σ H q => by
    obtain ⟨B, B0, ρ, S, rs, w⟩ := q
    unfold sApp at w
    split at w
    · rename_i l hl
      obtain ⟨p, vs, h1, h2, h3, h4⟩ := own_at rs hiw hl
      refine ⟨_, h1, .inl ⟨rfl, vs, .inl (.inl h3)⟩, ?_⟩
      refine Wants.part rs w fun v d H1 w1 rs1 e1 r => ?_
      split at w1
      · rename_i hlen
        refine ⟨p, vs, v, rfl, rfl, e1 _ _ h3, ?_, ?_⟩
        · rw [h4.length]
          exact Nat.lt_trans hlen (by decide)
        · refine Wants.go w1 (rs1.chg hiw hl h1 h2 ((h4.mono (hide_mono e1)).append (.one r))) ?_
          rw [hide_upd h2]
          exact Ex.refl _
      · exact w1.elim
    · exact w.elim
theorem ds_ext {i : Nat} {x : Str} {apos cpos xp : Pos} (he : DE X T W ow e f) (hiw : i ∈ ow := by decide) (hN : X.N[i]? = some x := by rfl) (hv : Vis X.env.scope x := by first | exact Or.inl rfl | exact Or.inr (Or.inl rfl) | exact Or.inr (Or.inr rfl)) (hd : (x == ("__debug__" : Str)) = false := by decide)
    (hcd : (x == ("__classdict__" : Str)) = false := by decide) (hbase : attributeBase (.Name x xp) "extend" X.env (eval (.Name x xp) X.env) = eval (.Name x xp) X.env := by rfl)
    (hfew : ((backTo cpos (starEach [e] X.env)).all (fun x => !x.1) && (backToKw cpos (keywordEach [] X.env)).all (fun x => x.1.isSome)
      && decide ([e].length + ([] : List Keyword).length + (if ([] : List Keyword).isEmpty then 0 else 1) < 30)) = true := by rfl)
    (hline : (apos.endLine == cpos.line) = true := by rfl) (hst : starEach [e] X.env = (false, eval e X.env) :: starEach [] X.env := by rfl) (hplain : (backTo cpos (starEach [] X.env)).any (·.1) = false := by rfl)
    (hs : swapsWith (.Call (.Attribute (.Name x xp) "extend" apos) [e] [] cpos) none pos.line X.env = pure false := by rfl) :
    DS X T W ow ow ob (.Expr (.Call (.Attribute (.Name x xp) "extend" apos) [e] [] cpos) pos) (sExt i f) :=
  ps_imp (ps_expr (pe_bm PySem.F.plainAttrs_list PySem.F.slot_list_extend PySem.F.type_list_extend mt_extend (pe_var hN hv hd hcd) (pa_cons he pa_nil hst) hbase hfew hline hst hplain) hs) fun D σ H q => by
    obtain ⟨B, B0, ρ, S, rs, w⟩ := q
    unfold sExt at w
    split at w
    · rename_i l hl
      obtain ⟨p, vs, h1, h2, h3, h4⟩ := own_at rs hiw hl
      refine ⟨_, h1, .inl ⟨rfl, vs, .inl (.inl h3)⟩, ?_⟩
      refine Wants.part rs w fun v d H1 w1 rs1 e1 r => ?_
      cases r with
      | @lst q ws m hs2 rs2 =>
        have w2 : Wants X.K T W B B0 ow ob H1 S D (if l.length + m.length ≤ 10000000 then .nx (ρ.set i (some (.lst (l ++ m)))) else .stuck) := w1
        by_cases hlen : l.length + m.length ≤ 10000000
        · rw [if_pos hlen] at w2
          refine ⟨p, q, vs, ws, rfl, rfl, e1 _ _ h3, hide_ex _ _ hs2, ?_, ?_⟩
          · rw [h4.length, rs2.length]
            exact Nat.le_trans hlen (by decide)
          · refine Wants.go w2 (rs1.chg hiw hl h1 h2 ((h4.mono (hide_mono e1)).append rs2)) ?_
            rw [hide_upd h2]
            exact Ex.refl _
        · rw [if_neg hlen] at w2
          exact w2.elim
      | _ => exact w1.elim
    · exact w.elim
/-- x[i] = e -/
theorem ds_setI {i : Nat} {x : Str} {ei : Expr} {fi : DEnv → Res Dat} {xp sp : Pos} (he : DE X T W ow e f) (hei : DE X T W ow ei fi) (hiw : i ∈ ow := by decide) (hN : X.N[i]? = some x := by rfl) (hv : Vis X.env.scope x := by first | exact Or.inl rfl | exact Or.inr (Or.inl rfl) | exact Or.inr (Or.inr rfl)) (hd : (x == ("__debug__" : Str)) = false := by decide)
    (hcd : (x == ("__classdict__" : Str)) = false := by decide) (hsw : swapsWithSole [.Subscript (.Name x xp) ei sp] e pos.line X.env = pure false := by rfl) (hw : swappedStores [.Subscript (.Name x xp) ei sp] e X.env = pure none := by rfl) (hae : (assignEach [.Subscript (.Name x xp) ei sp] X.env).map (·.2) = [assign (.Subscript (.Name x xp) ei sp) X.env] := by rfl)
    (hks : ∀ v, assign (.Subscript (.Name x xp) ei sp) X.env v = (do
      let ov ← holding [v] (eval (.Name x xp) X.env)
      let iv ← holding [v, ov] (eval ei X.env)
      standAt sp
      holding [v, ov, iv] (setItem ov iv v)
      release [v, ov, iv] []) := by intro _; rfl) :
    DS X T W ow ow ob (.Assign [.Subscript (.Name x xp) ei sp] e pos) (sSetI i fi f) :=
  ps_imp (ps_asg he (pg_sub (pe_var hN hv hd hcd) hei set_list hks) hsw hw hae) fun D σ H q => by
    obtain ⟨B, B0, ρ, S, rs, w⟩ := q
    unfold sSetI at w
    refine Wants.part rs w fun v d H1 w1 rs1 e1 r => ?_
    split at w1
    · rename_i l hl
      obtain ⟨p, vs, h1, h2, h3, h4⟩ := own_at rs1 hiw hl
      refine ⟨_, h1, ?_⟩
      refine Wants.part rs1 w1 fun v2 d2 H2 w2 rs2 e2 r2 => ?_
      cases r2 with
      | int n =>
        have w3 : Wants X.K T W B B0 ow ob H2 S D (match ixN l.length n with
          | some j => .nx (ρ.set i (some (.lst (l.set j d))))
          | none => .stuck) := w2
        cases q : ixN l.length n with
        | none =>
          rw [q] at w3
          exact w3.elim
        | some j =>
          rw [q] at w3
          refine ⟨p, vs, n, j, rfl, rfl, e2 _ _ h3, by rw [h4.length]; exact q, ?_⟩
          refine Wants.go w3 (rs2.chg hiw hl h1 h2 (.set (r.mono (hide_mono e2)) j (h4.mono (hide_mono e2)))) ?_
          rw [hide_upd h2]
          exact Ex.refl _
      | _ => exact w2.elim
    · exact w1.elim
/-! ### loops -/
theorem ds_for {tg iter : Expr} {body : List Stmt} {gi : DEnv → Res (List Dat)} {asg : Dat → DEnv → Option DEnv} {is : List Nat} (hp : PassesOwn (model X.prog X.w) X.A X.env X.xe) (hc : X.calm = true) (hi : DI X T W ow tg iter gi) (hg : DG X T ow is tg asg) (hd : ∀ j ∈ ow, j ∉ is) (hsame : ∀ d ρ ρ' j, asg d ρ = some ρ' → j ∉ is → ρ'[j]? = ρ[j]?)
    (hb : DSs X T W ow ow ow body F) (hs : ∀ x, foldedSetIterable iter X.env x = pure x := by intro _; rfl) : DS X T W ow ow ob (.For tg iter body [] pos) (sFor gi asg F) := ps_imp (ps_for hp hc hi hg hb hs) fun D σ H q => by
  obtain ⟨B, B0, ρ, S, rs, w⟩ := q
  refine ⟨ρ, S, rs.re, ?_⟩
  unfold sFor rBind at w
  cases q : gi ρ with
  | exc c =>
    rw [q] at w
    intro H' e
    have r2 := (rs.mono e).bare
    exact w σ H' r2.1 ((hide_mono e).trans r2.2)
  | stuck =>
    rw [q] at w
    exact w.elim
  | ok items =>
    rw [q] at w
    intro J H1 e1 src
    obtain ⟨G, Y, walk, gok, yok⟩ := src.ex
    have w0 : Wants X.K T W B B0 ow ob H S D (forL asg F items ρ) := w
    refine for_it walk (fun i σ' H' => ∃ ρ' S', RS X.K T B B0 ow σ' ρ' H' S' ∧ Ex (hide H1 S) (hide H' S') ∧ Wants X.K T W B B0 ow ob H' S' D (forL asg F (items.drop i) ρ')) ?_ ?_ ?_ ?_
    · exact ⟨ρ, S, rs.mono e1, Ex.refl _, w0.mono (hide_mono e1)⟩
    · rintro i σ' H' _ ⟨ρ', S', _, ex, _⟩
      exact gok H' S' ex
    · rintro i x σ' H2 H3 hlt ⟨ρ', S', rs', ex, w'⟩ y
      obtain ⟨d, hdd⟩ : ∃ d, items[i]? = some d := ⟨items[i], by simp [hlt]⟩
      obtain ⟨ex3, rx⟩ := yok i d x H2 H3 S' hdd ex rs'.re.mt y
      have hdrop : items.drop i = d :: items.drop (i + 1) := by
        obtain ⟨h1, h2⟩ := List.getElem?_eq_some_iff.mp hdd
        rw [List.drop_eq_getElem_cons h1, h2]
      rw [hdrop] at w'
      unfold forL at w'
      cases qa : asg d ρ' with
      | none =>
        rw [qa] at w'
        exact w'.elim
      | some ρ1 =>
        rw [qa] at w'
        have rs3 := rs'.mono ex3
        refine ⟨ρ', S', d, rs3.re, rx, ρ1, qa, fun σ4 re4 hsm hl => ?_⟩
        have rs4 : RS X.K T B B0 ow σ4 ρ1 H3 S' := ⟨re4, rs3.ex, rs3.sub, rs3.bd, fun j d' p hj h1 h2 => by
          rw [hsame d ρ' ρ1 j qa (hd j hj)] at h1
          rw [hsm j (hd j hj)] at h2
          exact rs3.onew j d' p hj h1 h2, rs3.new⟩
        refine ⟨B, B0, ρ1, S', rs4, ?_⟩
        have w4 := w'.mono (hide_mono ex3)
        have w4 : Wants X.K T W B B0 ow ob H3 S' D (match F ρ1 with
          | .nx ρ2 => forL asg F (items.drop (i + 1)) ρ2
          | .ct ρ2 => forL asg F (items.drop (i + 1)) ρ2
          | .bk ρ2 => .nx ρ2
          | f => f) := w4
        have ex' := ex.trans (hide_mono ex3)
        cases qF : F ρ1 with
        | nx ρ2 =>
          rw [qF] at w4
          exact fun σ5 H5 S5 rs5 e5 => ⟨ρ2, S5, rs5, ex'.trans e5, w4.mono e5⟩
        | ct ρ2 =>
          rw [qF] at w4
          exact fun σ5 H5 S5 rs5 e5 => ⟨ρ2, S5, rs5, ex'.trans e5, w4.mono e5⟩
        | bk ρ2 =>
          rw [qF] at w4
          exact fun σ5 H5 S5 rs5 e5 => w4 σ5 H5 S5 rs5 e5
        | rt d =>
          rw [qF] at w4
          exact w4
        | ex c ρ2 =>
          rw [qF] at w4
          exact w4
        | stuck =>
          rw [qF] at w4
          exact w4
    · rintro σ' H' ⟨ρ', S', rs', ex, w'⟩
      rw [List.drop_length] at w'
      exact w' σ' H' S' rs' (Ex.refl _)
theorem ds_while {t : DEnv → Res Bool} {body : List Stmt} (n : Nat) (hp : PassesOwn (model X.prog X.w) X.A X.env X.xe) (hc : DT X T W ow c t) (hb : DSs X T W ow ow ow body F) : DS X T W ow ow ob (.While c body [] pos) (sWhile n t F) := ps_imp (ps_while hp hc hb) fun D σ H q => by
  obtain ⟨B, B0, ρ, S, rs, w⟩ := q
  refine ⟨fun m σ' H' => ∃ ρ' S', RS X.K T B B0 ow σ' ρ' H' S' ∧ Wants X.K T W B B0 ow ob H' S' D (whileL t F m ρ'), ⟨n, ρ, S, rs, w⟩, ?_⟩
  rintro m σ' H' ⟨ρ', S', rs', w'⟩
  cases m with
  | zero => exact w'.elim
  | succ m =>
    unfold whileL at w'
    refine Wants.partB rs' w' fun k H1 w1 rs1 e1 => ?_
    cases k with
    | false => exact w1 σ' H1 S' rs1 (Ex.refl _)
    | true =>
      have w2 : Wants X.K T W B B0 ow ob H1 S' D (match F ρ' with
          | .nx ρ2 => whileL t F m ρ2
          | .ct ρ2 => whileL t F m ρ2
          | .bk ρ2 => .nx ρ2
          | f => f) := w1
      refine ⟨fun σ2 H2 => ∃ ρ2 S2, RS X.K T B B0 ow σ2 ρ2 H2 S2 ∧ Wants X.K T W B B0 ow ob H2 S2 D (whileL t F m ρ2), fun σ2 H2 q => ⟨m, Nat.lt_succ_self m, q⟩, ?_⟩
      refine ⟨B, B0, ρ', S', rs1, ?_⟩
      cases qF : F ρ' with
      | nx ρ2 =>
        rw [qF] at w2
        exact fun σ5 H5 S5 rs5 e5 => ⟨ρ2, S5, rs5, w2.mono e5⟩
      | ct ρ2 =>
        rw [qF] at w2
        exact fun σ5 H5 S5 rs5 e5 => ⟨ρ2, S5, rs5, w2.mono e5⟩
      | bk ρ2 =>
        rw [qF] at w2
        exact fun σ5 H5 S5 rs5 e5 => w2 σ5 H5 S5 rs5 e5
      | rt d =>
        rw [qF] at w2
        exact w2
      | ex c ρ2 =>
        rw [qF] at w2
        exact w2
      | stuck =>
        rw [qF] at w2
        exact w2
/-! ### exceptions -/
/-- a class of the program's own errors that is raised with a text -/
structure ExD (K : PySem.W.Frag) (T : CT) (mg : Str → Option Value) (c : Nat) (x : Str) : Prop where
  ex : ∃ C : Addr, T.exc c = .ref C ∧ mg x = some (.ref C) ∧ PySem.W.keepIn K (.ref C) = true ∧ PySem.W.excIn K C [.type "ValueError", .type "Exception", .type "BaseException", .type "object"] "ValueError.__new__" = true ∧
    PySem.W.subIn K (.ref C) (.type "BaseException") = some true ∧ PySem.W.typeIn K (.ref C) = some (.type "type")
theorem ds_raise {cn : Nat} {x m : Str} {j : Nat} {p p3 rpos : Pos} (d : ExD X.K T X.mg cn x) (hc : X.calm = true) (tk : Takes X W) (hg : Gl X x := by rfl) (hdb : (x == ("__debug__" : Str)) = false := by decide) :
    DS X T W ow ow' ob (.Raise (some (.Call (.Name x p) [.Constant (.str m) j p3] [] pos)) none rpos) (sRaise cn) := by
  obtain ⟨C, e1, e2, e3, e4, e5, e6⟩ := d.ex
  refine ps_imp (ps_raise hc tk (pmk_own PySem.F.excBase_ValueError e4 e2 e3 (raises_own e5 e6) hg hdb)) fun D σ H q => ?_
  obtain ⟨B, B0, ρ, S, rs, w⟩ := q
  have r2 := rs.bare
  have := w σ H r2.1 r2.2
  rw [e1] at this
  exact this
/-- try: body except x: suite -/
theorem ds_try {x : Str} {cv : Value} {body suite : List Stmt} {b₀ : Stmt} {np pos' : Pos} {m : Nat → Bool} (hs : X.stack = X.env :: X.outer) (hf : X.env.frame = some X.env.locals) (hc : Names X x cv) (tk : Takes X W) (hm : ∀ c, PySem.W.exmOne X.K (T.exc c) cv = some (m c))
    (hb : ∀ (W : WX) (pn : List (Addr × Obj)) (xe : Value → Shared → Prop), Takes (X.tr pn xe) W → PassesOwn (model X.prog X.w) X.A X.env xe → DSs (X.tr pn xe) T W ow ow' ob body F)
    (hsu : ∀ (a : Addr) (oe : Obj) (cls : Value) (d : Option Addr) (pn : List (Addr × Obj)), Zc cls d oe → (∃ vs, oe.data = .fields vs) → DSs (X.suite a ((a, oe) :: pn)) T wNo [] ow' ob (b₀ :: suite) G) :
    DS X T W ow ow' ob (.Try body [.ExceptHandler (some (.Name x np)) none (b₀ :: suite) pos'] [] [] pos) (sTry m F G) :=
  ps_imp (ps_try_only (tb := fun W => tDS X.K T W ow ow' ob F) (ts := fun _ _ _ => tDS X.K T wNo [] ow' ob G) hs hf hc tk hb hsu) fun D σ H q => by
    obtain ⟨B, B0, ρ, S, rs, w⟩ := q
    refine ⟨B, B0, ρ, S, rs, ?_⟩
    unfold sTry at w
    cases qF : F ρ with
    | ex c ρ' =>
      rw [qF] at w
      intro σ' H' rs' e'
      have w : Wants X.K T W B B0 ow' ob H S D (if m c = true then (match G ρ' with
        | .ex _ _ => .stuck
        | f => f) else .ex c ρ') := w
      refine ⟨m c, hm c, fun hb' a _ => ?_, fun hb' => ?_⟩
      · rw [if_pos hb'] at w
        refine ⟨B, B0, ρ', B0, rs', ?_⟩
        cases qG : G ρ' with
        | ex c' ρ2 =>
          rw [qG] at w
          exact w.elim
        | nx ρ2 =>
          rw [qG] at w
          exact Wants.mono (f := .nx ρ2) w e'
        | bk ρ2 =>
          rw [qG] at w
          exact Wants.mono (f := .bk ρ2) w e'
        | ct ρ2 =>
          rw [qG] at w
          exact Wants.mono (f := .ct ρ2) w e'
        | rt d =>
          rw [qG] at w
          exact w
        | stuck =>
          rw [qG] at w
          exact w
      · rw [if_neg (by rw [hb']; decide)] at w
        exact w σ' H' rs' e'
    | nx ρ2 =>
      rw [qF] at w
      exact w
    | bk ρ2 =>
      rw [qF] at w
      exact w
    | ct ρ2 =>
      rw [qF] at w
      exact w
    | rt d =>
      rw [qF] at w
      exact w
    | stuck =>
      rw [qF] at w
      exact w
end

/-! ### a def by its body -/
def startD (m : Nat) (ds : List Dat) : DEnv := ds.map some ++ List.replicate (m - ds.length) none
def endD : DFlow → Res Dat
  | .nx _ => .ok .non
  | .rt d => .ok d
  | .ex c _ => .exc c
  | _ => .stuck
def runD (m : Nat) (F : DEnv → DFlow) (ds : List Dat) : Res Dat := endD (F (startD m ds))
theorem re_start {K : PySem.W.Frag} {T : CT} {H : Hp} {S : List Addr} {N : List Str} {vs : List V} {ds : List Dat} (m : Hid H S) (r : Reps K T (hide H S) vs ds) : RE K T [] (start N vs) (startD N.length ds) H S := by
  have hl := r.length
  refine ⟨m, ?_, fun i d _ hd => ?_, fun i d h => (by cases h), fun i j d e p h => (by cases h)⟩
  · unfold L2.start startD
    simp [hl]
  · unfold startD at hd
    unfold L2.start
    by_cases hi : i < ds.length
    · rw [List.getElem?_append_left (by simpa using hi), List.getElem?_map] at hd
      rw [List.getElem?_append_left (by rw [List.length_map, hl]; exact hi), List.getElem?_map]
      cases q : ds[i]? with
      | none =>
        rw [q] at hd
        cases hd
      | some d' =>
        rw [q] at hd
        cases hd
        obtain ⟨v, h1, h2⟩ := r.get q
        exact ⟨v, by rw [h1]; rfl, h2⟩
    · rw [List.getElem?_append_right (by simpa using hi), List.getElem?_replicate] at hd
      split at hd <;> cases hd
theorem fn_D {P : Program} {w : World} {K : PySem.W.Frag} {mg : Str → Option Value} {base : Heap} {T : CT} {x qual : Str} {st : Stmt} {f : Addr} {fd : FuncData} {N ps : List Str} {k n : Nat} {F : DEnv → DFlow} {ow' : List Nat} (Fu : Fun K x qual st f fd) (Sc : FnScope N ps (defScope st)) (hn : ps.length = n)
    (hb : ∀ (cdv : Value) (A : Around) (outer : List Env) (s : Shared) (H : Hp) (E : XK), Room k (A.deeper (envOfC qual (defScope st) s.heap.objs.size f cdv)) →
      DSs (cxOf (L2.CX P w) P w K mg base N qual (defScope st) f cdv A outer s H E) T (fun cls d _ H => E cls d H) [] ow' [] (defBody st) F) :
    FnOk P w K mg base (L2.CX P w) (k + 1) f fd ps (spD K T n (runD N.length F)) := by
  refine Fu.okX Sc (fun vs H Q E h => h.1.trans hn.symm) (fun cdv A outer s H vs Q E hr h => ?_)
  obtain ⟨hlen, S, ds, m, r, w⟩ := h
  refine ⟨_, hb cdv A outer s H E hr, ?_⟩
  refine ⟨H, S, startD N.length ds, S, ⟨re_start m r, Ex.refl H, fun _ h => h, fun p hp => ?_, fun i d p h => (by cases h), fun p hp => .inl hp⟩, ?_⟩
  · obtain ⟨o, h1, _⟩ := m p hp
    rw [h1]
    intro z
    cases z
  · unfold runD at w
    cases q : F (startD N.length ds) with
    | nx ρ =>
      rw [q] at w
      exact fun σ' H' S' rs e => w .non H' rs.ex .non
    | rt d =>
      rw [q] at w
      exact fun v H' e r => w v H' e r
    | ex c ρ =>
      rw [q] at w
      exact fun σ' H' rs e => w H' rs.ex
    | bk ρ =>
      rw [q] at w
      exact w.elim
    | ct ρ =>
      rw [q] at w
      exact w.elim
    | stuck =>
      rw [q] at w
      exact w.elim
end Dl
/-! The D layer, part 8: owned lists read, slices with steps, dicts of the module, objects made. -/
namespace Dl
open PySem PySem.Spec PyProof.Rows L2 HT

/-! ### an owned list is read: the result must not hold it -/
def chk (d : Dat) : Res Dat := if flat d = true then .ok d else .stuck
def vU (f : DEnv → Res Dat) : DEnv → Res Dat := fun ρ => (f ρ).bind chk
section
variable {K : PySem.W.Frag} {T : CT} {W : WX} {H : Hp} {ow ow' : List Nat} {σ : Sg} {ρ : DEnv} {S : List Addr}
/-- fewer slots are owned, the others' lists shown -/
theorem RE.less (r : RE K T ow σ ρ H S) (h : ∀ i ∈ ow', i ∈ ow) : ∃ S', RE K T ow' σ ρ H S' ∧ ∀ p ∈ S', p ∈ S := by
  refine ⟨S.filter fun p => decide (p ∈ ownA ow' σ ρ ∨ p ∉ ownA ow σ ρ), ?_, fun p hp => (List.mem_filter.mp hp).1⟩
  have sub0 : ∀ p ∈ S.filter (fun p => decide (p ∈ ownA ow' σ ρ ∨ p ∉ ownA ow σ ρ)), p ∈ S := fun p hp => (List.mem_filter.mp hp).1
  have sub := hide_sub (H := H) sub0
  refine ⟨fun p hp => r.mt p (sub0 p hp), r.len, fun i d hi hd => ?_, fun i d hi hd => ?_, fun i j d e p hi hj => r.inj i j d e p (h i hi) (h j hj)⟩
  · by_cases z : i ∈ ow
    · obtain ⟨q, vs, ds, e1, e2, e3, e4, e5⟩ := r.own i d z hd
      refine ⟨_, e1, ?_⟩
      rw [e2]
      refine .lst (hide_get e4 fun hq => ?_) (e5.mono sub)
      rcases of_decide_eq_true (List.mem_filter.mp hq).2 with y | y
      · obtain ⟨j, d', hj, h1, h2⟩ := mem_ownA.mp y
        have := r.inj i j d d' q z (h j hj) hd h1 e1 h2
        subst this
        exact hi hj
      · exact y (mem_ownA.mpr ⟨i, d, z, hd, e1⟩)
    · obtain ⟨v, h1, h2⟩ := r.fro i d z hd
      exact ⟨v, h1, h2.mono sub⟩
  · obtain ⟨q, vs, ds, e1, e2, e3, e4, e5⟩ := r.own i d (h i hi) hd
    exact ⟨q, vs, ds, e1, e2, List.mem_filter.mpr ⟨e3, decide_eq_true (.inl (mem_ownA.mpr ⟨i, d, hi, hd, e1⟩))⟩, e4, e5.mono sub⟩
end
section
variable {X : Cx} {T : CT} {W : WX} {ow ow' : List Nat} {e a b c : Expr} {pos p2 : Pos} {f fa : DEnv → Res Dat}
theorem de_un (h : DE X T W ow' e f) (hs : ∀ i ∈ ow', i ∈ ow := by decide) : DE X T W ow e (vU f) := pe_imp h fun σ H Q q => by
  obtain ⟨ρ, S, re, w⟩ := q
  obtain ⟨S', re', sub⟩ := re.less hs
  refine ⟨ρ, S', re', ?_⟩
  unfold vU at w
  cases q : f ρ with
  | ok d =>
    rw [q] at w
    intro v H' e r
    have w : Want X.K T W σ H S (chk d) Q := w
    unfold chk at w
    by_cases z : flat d = true
    · rw [if_pos z] at w
      exact w v H' e ((r.mono hide_ex).bare (re.mt.mono e) z)
    · rw [if_neg z] at w
      exact w.elim
  | exc c =>
    rw [q] at w
    exact w
  | stuck =>
    rw [q] at w
    exact w.elim
theorem dt_un {t : DEnv → Res Bool} (h : DT X T W ow' e t) (hs : ∀ i ∈ ow', i ∈ ow := by decide) : DT X T W ow e t := pt_imp h fun σ H Q q => by
  obtain ⟨ρ, S, re, w⟩ := q
  obtain ⟨S', re', sub⟩ := re.less hs
  exact ⟨ρ, S', re', w⟩
end

/-! ### slices with steps -/
def pickD {α : Type} (l : List α) (lo hi : Option Int) (st : Int) : List α :=
  (List.range (Builtin.Slice.slicePlaces (Builtin.Slice.sliceAdjust lo hi st l.length).1 (Builtin.Slice.sliceAdjust lo hi st l.length).2 st)).filterMap fun (m : Nat) => l[((Builtin.Slice.sliceAdjust lo hi st l.length).1 + (m : Int) * st).toNat]?
section
variable {prog : Program} {w : World} {A : Around} {E : Value → Shared → Prop} {s : Shared}
theorem sliceApplied_step {sl : Addr} {vl vu : Value} {lo hi : Option Int} {n : Nat} {st : Int} {tk : Tok} {Q : Int × Int × Nat → Shared → Prop} (hs : s.heap.IsSliceOf sl vl vu (.int st tk)) (pl : IsPart vl lo) (pu : IsPart vu hi) (h0 : st ≠ 0)
    (h : Q ((Builtin.Slice.sliceAdjust lo hi st n).1, st, Builtin.Slice.slicePlaces (Builtin.Slice.sliceAdjust lo hi st n).1 (Builtin.Slice.sliceAdjust lo hi st n).2 st) s) : wpAny (model prog w) A (Builtin.Slice.sliceApplied (.ref sl) (pure (n : Int))) Q E s := by
  obtain ⟨os, hos, hcs, hds⟩ := id hs
  unfold Builtin.Slice.sliceApplied Builtin.Slice.sliceFields
  refine wpAny_bind (wpAny_bind (wpAny_field hos hds (x := vl) rfl (wpAny_bind (wpAny_field hos hds (x := vu) rfl (wpAny_bind (wpAny_field hos hds (x := .int st tk) rfl (wpAny_pure ?_)))))))
  refine wpAny_bind (slicePart_int ?_)
  show wpAny _ _ (if (st == 0) = true then _ else _) _ _ s
  rw [if_neg (by simpa using h0)]
  exact wpAny_bind (slicePart_ pl (wpAny_bind (slicePart_ pu (wpAny_bind (wpAny_pure (wpAny_pure h))))))
theorem getItem_tuple_step {t sl : Addr} {items : Array Value} {vl vu : Value} {lo hi : Option Int} {st : Int} {tk : Tok} {Q : Value → Shared → Prop} (ht : IsTup s.heap t items) (hs : s.heap.IsSliceOf sl vl vu (.int st tk)) (pl : IsPart vl lo) (pu : IsPart vu hi) (h0 : st ≠ 0) (h1 : st ≠ 1)
    (h : Q (.ref s.heap.objs.size) { s with heap := s.heap.push { cls := .type "tuple", data := .seq (pickD items.toList lo hi st).toArray } })
    (hsz : (pickD items.toList lo hi st).length ≤ sizeLine) : wpAny (model prog w) A (getItem (.ref t) (.ref sl)) Q E s := by
  have htake : sizeOk (.seq (pickD items.toList lo hi st).toArray) := by
    show (pickD items.toList lo hi st).toArray.size ≤ sizeLine
    rw [List.size_toArray]
    exact hsz
  obtain ⟨os, hos, hcs, hds⟩ := id hs
  have hTs : s.TypeIs (.ref sl) "slice" := ⟨os, hos, hcs⟩
  unfold getItem
  try with_reducible refine wpAny_holding ?_
  first | refine wpAny_bind (wpAny_pure ?_) | skip
  refine wpAny_bind (wpAny_sequenceKey ht.typeIs (by decide) ?_)
  refine wpAny_bind (wpAny_callSpecial?_slot (name := Str.ofString "__getitem__") ht.typeIs PyProof.Rows.slot_tuple_getitem
    (wpAny_call_entry PyProof.Rows.slot_tuple_getitem ht.typeIs entry_tuple_getitem ?_ (args_tuple_getitem _ _)))
  show wpAny _ _ (Builtin.Tuple.tupleItemsOf (.ref t) >>= _) _ _ s
  refine wpAny_bind (tupleItemsOf_ ht ?_)
  refine wpAny_bind (wpAny_typeOf hTs ?_)
  rw [if_pos (by decide)]
  refine wpAny_bind (sliceApplied_step hs pl pu h0 ?_)
  have hno : ¬ (((Builtin.Slice.sliceAdjust lo hi st items.size).1 == 0 && st == 1 && Builtin.Slice.slicePlaces (Builtin.Slice.sliceAdjust lo hi st items.size).1 (Builtin.Slice.sliceAdjust lo hi st items.size).2 st == items.size) = true) := by
    intro q
    rw [Bool.and_eq_true, Bool.and_eq_true] at q
    exact h1 (eq_of_beq q.1.2)
  show wpAny _ _ (if ((Builtin.Slice.sliceAdjust lo hi st items.size).1 == 0 && st == 1 && Builtin.Slice.slicePlaces (Builtin.Slice.sliceAdjust lo hi st items.size).1 (Builtin.Slice.sliceAdjust lo hi st items.size).2 st == items.size) = true then _ else _) _ _ s
  rw [if_neg hno]
  have e : ((List.range (Builtin.Slice.slicePlaces (Builtin.Slice.sliceAdjust lo hi st items.size).1 (Builtin.Slice.sliceAdjust lo hi st items.size).2 st)).filterMap fun (m : Nat) => items[((Builtin.Slice.sliceAdjust lo hi st items.size).1 + (m : Int) * st).toNat]?).toArray = (pickD items.toList lo hi st).toArray := by
    unfold pickD
    rw [Array.length_toList]
    simp only [Array.getElem?_toList]
  rw [e]
  first
    | exact wpAny_bind (m := Builtin.Tuple.tupleExact _) (wpAny_newObj_type (wpAny_pure ⟨_, rfl, wpAny_pure h⟩) htake)
    | exact wpAny_bind (m := Builtin.Tuple.tupleExact _) (wpAny_newObj_type (wpAny_bind (wpAny_pure (wpAny_pure ⟨_, rfl, wpAny_pure h⟩))) htake)
    | exact wpAny_bind (wpAny_bind (m := Builtin.Tuple.tupleExact _) (wpAny_newObj_type (wpAny_pure (wpAny_pure ⟨_, rfl, wpAny_pure h⟩)) htake))
    | exact wpAny_bind (wpAny_bind (m := Builtin.Tuple.tupleExact _) (wpAny_newObj_type (wpAny_pure ⟨_, rfl, wpAny_pure h⟩) htake))
end
theorem vals_filterMap {xs : List V} {us : List Value} (r : Vals xs us) (f : Nat → Nat) : ∀ (l : List Nat), Vals (l.filterMap fun m => xs[f m]?) (l.filterMap fun m => us[f m]?)
  | [] => .nil
  | m :: l => by
    rw [List.filterMap_cons, List.filterMap_cons]
    cases q : xs[f m]? with
    | none =>
      rw [r.none_of q]
      exact vals_filterMap r f l
    | some x =>
      obtain ⟨u, h1, h2⟩ := r.get q
      rw [h1]
      exact .cons h2 (vals_filterMap r f l)
theorem vals_pick {xs : List V} {us : List Value} (r : Vals xs us) (lo hi : Option Int) (st : Int) : Vals (pickD xs lo hi st) (pickD us lo hi st) := by
  unfold pickD
  rw [← r.length]
  exact vals_filterMap r _ _
section
variable {K : PySem.W.Frag} {T : CT} {H : Hp}
theorem Reps.filterMap {xs : List V} {us : List Dat} (r : Reps K T H xs us) (f : Nat → Nat) : ∀ (l : List Nat), Reps K T H (l.filterMap fun m => xs[f m]?) (l.filterMap fun m => us[f m]?)
  | [] => .nil
  | m :: l => by
    rw [List.filterMap_cons, List.filterMap_cons]
    cases q : us[f m]? with
    | none =>
      have : xs[f m]? = none := by
        have h1 := List.getElem?_eq_none_iff.mp q
        exact List.getElem?_eq_none_iff.mpr (by rw [r.length]; exact h1)
      rw [this]
      exact Reps.filterMap r f l
    | some d =>
      obtain ⟨u, h1, h2⟩ := r.get q
      rw [h1]
      exact .cons h2 (Reps.filterMap r f l)
theorem Reps.pick {xs : List V} {us : List Dat} (r : Reps K T H xs us) (lo hi : Option Int) (st : Int) : Reps K T H (pickD xs lo hi st) (pickD us lo hi st) := by
  unfold pickD
  rw [r.length]
  exact r.filterMap _ _
end
def tStep (K : PySem.W.Frag) (ta : TE) (tl th ts : TO) : TE := fun σ H Q => ta σ H fun x H1 => tl σ H1 fun l H2 => th σ H2 fun h H3 => ts σ H3 fun s H4 => ∃ a xs st, x = .ref a ∧ s = some st ∧ SqT K H4 a xs ∧ st ≠ 0 ∧ st ≠ 1 ∧ (pickD xs l h st).length ≤ sizeLine ∧ ∀ p, H4 p = none → Q (.ref p) (upd H4 p (.tup (pickD xs l h st)))
section
variable {X : Cx} {T : CT} {W : WX} {ow : List Nat} {e a b c : Expr} {pos p2 : Pos} {f fa : DEnv → Res Dat} {lo hi : Option Expr} {est : Expr} {fl fh fs : DEnv → Res (Option Int)}
theorem pe_step {ta : TE} {tl th ts : TO} (he : PE X e ta) (hl : PO X lo tl) (hh : PO X hi th) (hs : PO X (some est) ts) : PE X (.Subscript e (.Slice lo hi (some est) p2) pos) (tStep X.K ta tl th ts) := by
  refine ⟨fun pins s σ H Q I h => ?_⟩
  refine Subscript_ (thn (he.run pins s σ H _ I h) fun v s1 ⟨x, H1, I1, r1, q1⟩ => ?_)
  refine wpAny_Slice (thn (hl.run pins s1 σ H1 _ I1 q1) fun vl s2 ⟨l, H2, I2, pl, q2⟩ => thn (hh.run pins s2 σ H2 _ I2 q2) fun vu s3 ⟨u, H3, I3, pu, q3⟩ => thn (hs.run pins s3 σ H3 _ I3 q3) fun vs s4 ⟨o, H4, I4, ps, q4⟩ => ?_)
  obtain ⟨a, xs, st, rfl, rfl, hx, h0, h1, hlen, q⟩ := q4
  cases r1
  cases ps with
  | int _ tk =>
    have I5 : Inv X pins σ H4 { s4 with heap := s4.heap.push { cls := .type "slice", data := .fields #[vl, vu, .int st tk] } } := I4.kept (t' := s4.toks) fun b ob q => Heap.get?_push_of_some _ q
    obtain ⟨its, r, ht, hz⟩ := I5.tuple hx
    show wpAny (model X.prog X.w) X.A (subscriptTail e (.Slice lo hi (some est) p2) (.ref a) (.ref s4.heap.objs.size)) (EP X pins σ Q) X.xe { s4 with heap := s4.heap.push { cls := .type "slice", data := .fields #[vl, vu, .int st tk] } }
    have hpick := vals_pick r l u st
    refine tail_any (ops := [.ref a, .ref s4.heap.objs.size]) ht.typeIs (PyProof.Rows.slot_tuple_getitem.lookup) ?_ (by with_unfolding_all rfl)
    refine getItem_tuple_step ht (Heap.IsSliceOf.new _ vl vu (.int st tk)) pl pu h0 h1 ?_ (by rw [← hpick.length]; exact hlen)
    refine ⟨.ref _, _, I5.laid (t' := s4.toks) (o := .tup (pickD xs l u st)) (fun b ob q => Heap.get?_push_of_some _ q) (Nat.le_refl _) ?_, rfl, q _ (I5.hok.fresh (Nat.le_refl _))⟩
    exact ⟨hlen, _, hpick, ⟨_, Heap.get?_push_size _ rfl, rfl, _, rfl⟩⟩
def stepK (l h s : Option Int) : Dat → Option Dat
  | .tup xs => match s with
    | some st => if st ≠ 0 ∧ st ≠ 1 ∧ (pickD xs l h st).length ≤ 10000000 then some (.tup (pickD xs l h st)) else none
    | none => none
  | _ => none
def vStep (fa : DEnv → Res Dat) (fl fh fs : DEnv → Res (Option Int)) : DEnv → Res Dat := fun ρ => (fa ρ).bind fun x => (fl ρ).bind fun l => (fh ρ).bind fun h => (fs ρ).bind fun s => ofO (stepK l h s x)
theorem de_step (ha : DE X T W ow e fa) (hl : DO X T W ow lo fl) (hh : DO X T W ow hi fh) (hs : DO X T W ow (some est) fs) : DE X T W ow (.Subscript e (.Slice lo hi (some est) p2) pos) (vStep fa fl fh fs) := pe_imp (pe_step ha hl hh hs) fun σ H Q h => by
  obtain ⟨ρ, S, re, w⟩ := h
  refine Want.part re w fun x dx H1 w1 re1 e1 rx => ?_
  refine Want.partO re1 w1 fun l H2 w2 re2 e2 => ?_
  refine Want.partO re2 w2 fun h H3 w3 re3 e3 => ?_
  refine Want.partO re3 w3 fun s H4 w4 re4 e4 => ?_
  have rx4 := ((rx.mono (hide_mono e2)).mono (hide_mono e3)).mono (hide_mono e4)
  cases rx4 with
  | @tup p vs ds hs rs =>
    cases s with
    | none => exact w4.elim
    | some st =>
      have w5 : Want X.K T W σ H4 S (ofO (if st ≠ 0 ∧ st ≠ 1 ∧ (pickD ds l h st).length ≤ 10000000 then some (.tup (pickD ds l h st)) else none)) Q := w4
      by_cases z : st ≠ 0 ∧ st ≠ 1 ∧ (pickD ds l h st).length ≤ 10000000
      · rw [if_pos z] at w5
        have rp := rs.pick l h st
        refine ⟨p, vs, st, rfl, rfl, ex_t hide_ex hs, z.1, z.2.1, ?_, fun p2 np => w5 _ _ (Ex.new np) (rep_newT re4.mt np rp)⟩
        rw [rp.length]
        exact Nat.le_trans z.2.2 (by decide)
      · rw [if_neg z] at w5
        exact w5.elim
  | _ => exact w4.elim

/-! ### a dict of the module with written texts as keys, read -/
structure GD (K : PySem.W.Frag) (T : CT) (w : World) (mg : Str → Option Value) (x : Str) (tb : List (Str × Dat)) : Prop where
  ex : ∃ d, mg x = some (.ref d) ∧ ∀ k e, tb.lookup k = some e → ∃ v, KDct K w d k v ∧ ∀ H, Rep K T H v e
def tabD (tb : List (Str × Dat)) : Dat → Option Dat
  | .str z => tb.lookup z
  | _ => none
theorem de_tab {x : Str} {tb : List (Str × Dat)} {xp : Pos} (g : GD X.K T X.w X.mg x tb) (hb : DE X T W ow b f) (hg : Gl X x := by rfl) (hd : (x == ("__debug__" : Str)) = false := by decide) (hs : PlainIx b := by exact fun _ _ => rfl) : DE X T W ow (.Subscript (.Name x xp) b pos) (v1 (tabD tb) f) := by
  obtain ⟨d, h1, h2⟩ := g.ex
  refine pe_imp (pe_ix ix_kdict (pe_glob (v := .ref d) hg h1 rfl hd) hb hs) fun σ H Q h => ?_
  obtain ⟨ρ, S, re, w⟩ := h
  refine Want.part re w fun x dx H1 w1 re1 e1 rx => ?_
  cases rx with
  | str z =>
    have w2 : Want X.K T W σ H1 S (ofO (tb.lookup z)) Q := w1
    cases q : tb.lookup z with
    | none =>
      rw [q] at w2
      exact w2.elim
    | some e =>
      rw [q] at w2
      obtain ⟨v, h3, h4⟩ := h2 z e q
      exact ⟨d, z, v, rfl, rfl, h3, w2 v H1 (Ex.refl H1) (h4 _)⟩
  | _ => exact w1.elim
end
end Dl
/-! The D layer, part 9: chains, small words, the law's end. -/
namespace Dl
open PySem PySem.Spec PyProof.Rows L2
theorem hu65 {A : Around} {k : Nat} (hr : Room k A) : A.units + 65 < cLine := by have := hr.un; omega
theorem hu64 {A : Around} {k : Nat} (hr : Room k A) : A.units + 64 < cLine := by have := hr.un; omega
section
variable {X : Cx} {T : CT} {W : WX} {ow : List Nat} {e a b c : Expr} {pos p2 : Pos} {fa fb fc : DEnv → Res Dat}
theorem de_chain {op op' : CmpOp} {r r' : R2} {g h : Dat → Dat → Option Dat} (ho : OpR X (compareOp op) r) (rd : R2D X.K T r g) (ho' : OpR X (compareOp op') r') (rd' : R2D X.K T r' h) (ha : DE X T W ow a fa) (hb : DE X T W ow b fb) (hc : DE X T W ow c fc)
    (hm : lastMarks [op, op'] [b, c] = false := by rfl) : DE X T W ow (.Compare a [op, op'] [b, c] pos) (vChain g h fa fb fc) := pe_imp (pe_chain ho ho' ha hb hc hm) fun _ _ _ q => chain_read rd rd' q
theorem dt_chain {op op' : CmpOp} {r r' : R2} {g h : Dat → Dat → Option Dat} (ho : OpR X (compareOp op) r) (rd : R2D X.K T r g) (ho' : OpR X (compareOp op') r') (rd' : R2D X.K T r' h) (ha : DE X T W ow a fa) (hb : DE X T W ow b fb) (hc : DE X T W ow c fc)
    (hm : lastMarks [op, op'] [b, c] = false := by rfl) : DT X T W ow (.Compare a [op, op'] [b, c] pos) (vTest (vChain g h fa fb fc)) := pt_imp (pt_chain ho ho' ha hb hc hm) fun σ H Q q => by
  obtain ⟨ρ, S, re, w⟩ := q
  refine chain_read rd rd' (Q := fun x H' => ∃ k, x = .bl k ∧ Q k H') ?_
  exact test_read ⟨ρ, S, re, w⟩
end
theorem FnD.mk' {P : Program} {w : World} {K : PySem.W.Frag} {mg : Str → Option Value} {base : Heap} {T : CT} {k n : Nat} {x qual : Str} {st : Stmt} {f : Addr} {fd : FuncData} {ps : List Str} {F : List Dat → Res Dat} (hm : mg x = some (.ref f)) (Fu : Fun K x qual st f fd) (b : Binds K fd ps []) (h : FnOk P w K mg base (L2.CX P w) k f fd ps (spD K T n F)) :
    FnD P w K mg base T k x n F := ⟨f, fd, ps, hm, Fu.kp, b, h⟩
/-! ### the law -/
def spLaw (K : PySem.W.Frag) : Sp := fun vs H Q _ => ∃ (a : Addr) (ns : List Int), vs = [.ref a] ∧ SqL K H a (ns.map V.int) ∧ ns.length ≤ 63 ∧ ∀ H', Q (.bl true) H'
theorem law_imp {P : Program} {w : World} {K : PySem.W.Frag} {mg : Str → Option Value} {base : Heap} {T : CT} {k : Nat} {f : Addr} {fd : FuncData} {ps : List Str} {F : List Dat → Res Dat} (h : FnOk P w K mg base (L2.CX P w) k f fd ps (spD K T 1 F))
    (hl : ∀ ns : List Int, ns.length ≤ 63 → F [.frz (ns.map .int)] = .ok (.bl true)) : FnOk P w K mg base (L2.CX P w) k f fd ps (spLaw K) := h.imp fun vs H Q E q => by
  obtain ⟨a, ns, rfl, hs, hlen, hq⟩ := q
  refine ⟨rfl, [], [.frz (ns.map .int)], (fun _ z => by cases z), .one (.frz ?_ (Reps.of_ints ns)), ?_⟩
  · refine ex_l ?_ hs
    intro b o e
    exact hide_get e (by simp)
  · rw [hl ns hlen]
    intro v H' e r
    cases r
    exact hq H'
theorem walk_law {l : PySem.W.OpenLaw} {k : Nat} {q : Program} {loose : List Str} {XP : (Str → Option Value) → Heap → Prop} {YP : World → Heap → Prop} {d : DefRec} {K : Params → PySem.W.Frag} (hn : l.most = some 63) (hdf : d.params.defaults = []) (hr : Room k callerA)
    (hY : ∀ (w : World) (h : Heap), YP w h → (K w.params).In h)
    (F : ∀ (w : World) (mg : Str → Option Value) (fa : Addr) (h : Heap), (K w.params).In h → h.Ns mainGlobals mg → mg d.name = some (.ref fa) →
      ∃ fd : FuncData, (∀ (s : Shared) (u : Value), BindsTo s fd ⟨[u], []⟩ [("script", u)]) ∧ ∀ base : Heap, (K w.params).In base → base.Ns mainGlobals mg → FnOk l.prog w (K w.params) mg base (L2.CX l.prog w) k fa fd ["script"] (spLaw (K w.params))) :
    PySem.W.WalkO q loose XP YP l.row.toRowW d [] (fun f vs => PySem.call f vs) :=
  L2.walk_of (n := 63) (k := k) (x := "script") (CX := fun w => L2.CX l.prog w) (sp := fun w => spLaw (K w.params)) hn (by decide) hdf hr hY F (fun _ _ a ns hl _ hS => ⟨a, ns, rfl, hS, hl, fun _ => rfl⟩) fun w H s e s' z => by
    obtain ⟨_, _, _, _, _, _, _, _, _, _, _, _, h⟩ := z
    exact h
end Dl
namespace Dl
open PySem PySem.Spec PyProof.Rows L2
theorem aName_same {i : Nat} : ∀ (d : Dat) (ρ ρ' : DEnv) (j : Nat), aName i d ρ = some ρ' → j ∉ [i] → ρ'[j]? = ρ[j]? := fun d ρ ρ' j e h => by
  cases e
  exact List.getElem?_set_ne fun z => h (by rw [z]; exact List.mem_singleton_self _)
theorem asNil_same : ∀ (ds : List Dat) (ρ ρ' : DEnv) (j : Nat), asNil ds ρ = some ρ' → j ∉ ([] : List Nat) → ρ'[j]? = ρ[j]? := fun ds ρ ρ' j e _ => by
  cases ds with
  | nil => cases e; rfl
  | cons d ds => cases e
theorem asCons_same {f : Dat → DEnv → Option DEnv} {g : List Dat → DEnv → Option DEnv} {is js : List Nat} (hf : ∀ d ρ ρ' j, f d ρ = some ρ' → j ∉ is → ρ'[j]? = ρ[j]?) (hg : ∀ ds ρ ρ' j, g ds ρ = some ρ' → j ∉ js → ρ'[j]? = ρ[j]?) :
    ∀ (ds : List Dat) (ρ ρ' : DEnv) (j : Nat), asCons f g ds ρ = some ρ' → j ∉ is ++ js → ρ'[j]? = ρ[j]? := fun ds ρ ρ' j e h => by
  cases ds with
  | nil => cases e
  | cons d ds =>
    cases q : f d ρ with
    | none => simp only [asCons, q] at e; cases e
    | some ρ1 =>
      simp only [asCons, q] at e
      rw [hg _ _ _ _ e fun z => h (List.mem_append_right _ z), hf _ _ _ _ q fun z => h (List.mem_append_left _ z)]
theorem aTup_same {g : List Dat → DEnv → Option DEnv} {is : List Nat} (hg : ∀ ds ρ ρ' j, g ds ρ = some ρ' → j ∉ is → ρ'[j]? = ρ[j]?) :
    ∀ (d : Dat) (ρ ρ' : DEnv) (j : Nat), aTup g d ρ = some ρ' → j ∉ is → ρ'[j]? = ρ[j]? := fun d ρ ρ' j e h => by
  cases d with
  | tup ds => exact hg _ _ _ _ e h
  | lst ds => exact hg _ _ _ _ e h
  | _ => cases e
def range3D : List Dat → Res (List Dat)
  | [.int i, .int j, .int c] => if decide (c ≠ 0) && decide (c.natAbs < 1073741824) && Builtin.Range.small i j c then .ok (rngC i c (Builtin.Range.rangeSize i j c).toNat) else .stuck
  | _ => .stuck
section
variable {X : Cx} {T : CT} {W : WX} {ow : List Nat} {a b c tg : Expr} {pos p : Pos} {fs : DEnv → Res (List Dat)}
theorem di_range3 (hm : X.mg "range" = none) (ha : DA X T W ow [a, b, c] fs) (hg : Gl X "range" := by rfl) (hs : starEach [a, b, c] X.env = (false, eval a X.env) :: starEach [b, c] X.env := by rfl) (hpl : (backTo pos (starEach [b, c] X.env)).any (·.1) = false := by rfl) :
    DI X T W ow tg (.Call (.Name "range" p) [a, b, c] [] pos) (gA range3D fs) := pi_imp (pi_range3 hg hm ha hs hpl) fun σ H R h => by
  obtain ⟨ρ, S, re, w⟩ := h
  refine WantI.partA re w fun vs ds H1 w1 re1 e1 rs => ?_
  cases rs with
  | nil => exact w1.elim
  | cons r rs =>
    cases rs with
    | nil => cases r <;> exact w1.elim
    | cons r2 rs =>
      cases rs with
      | nil => cases r <;> cases r2 <;> exact w1.elim
      | cons r3 rs =>
        cases rs with
        | cons _ _ => cases r <;> cases r2 <;> cases r3 <;> exact w1.elim
        | nil =>
          cases r with
          | int i =>
            cases r2 with
            | int j =>
              cases r3 with
              | int k =>
                have w2 : WantI X.K T W σ H1 S (if decide (k ≠ 0) && decide (k.natAbs < 1073741824) && Builtin.Range.small i j k then .ok (rngC i k (Builtin.Range.rangeSize i j k).toNat) else .stuck) R := w1
                by_cases z : (decide (k ≠ 0) && decide (k.natAbs < 1073741824) && Builtin.Range.small i j k) = true
                · rw [if_pos z] at w2
                  rw [Bool.and_eq_true, Bool.and_eq_true] at z
                  exact ⟨i, j, k, _, rfl, ⟨of_decide_eq_true z.1.1, of_decide_eq_true z.1.2, z.2, rangeSize_toNat _ _ _⟩, w2 _ H1 (Ex.refl H1) src_rangeC⟩
                · rw [if_neg z] at w2
                  exact w2.elim
              | _ => exact w1.elim
            | _ => cases r3 <;> exact w1.elim
          | _ => cases r2 <;> cases r3 <;> exact w1.elim
end
end Dl
namespace Dl
open PySem
theorem look_cases {k a : Str} {e x : Dat} {l : List (Str × Dat)} (h : ((a, x) :: l).lookup k = some e) : (k = a ∧ e = x) ∨ l.lookup k = some e := by
  have h' : (match k == a with | true => some x | false => List.lookup k l) = some e := h
  cases z : (k == a) with
  | true =>
    rw [z] at h'
    exact .inl ⟨eq_of_beq z, (Option.some.inj h').symm⟩
  | false =>
    rw [z] at h'
    exact .inr h'
end Dl
/-! The D layer, part 11: several handlers, methods of texts. -/
namespace Dl
open PySem PySem.Spec PyProof.Rows L2
/-- the handlers, one after the other: the classes, the suite (which raises nothing) -/
abbrev HdL := List ((Nat → Bool) × (DEnv → DFlow))
def endT : DFlow → DFlow
  | .ex _ _ => .stuck
  | f => f
def handM : HdL → Nat → DEnv → DFlow
  | [], c, ρ => .ex c ρ
  | (m, G) :: r, c, ρ => if m c = true then endT (G ρ) else handM r c ρ
def sTryM (F : DEnv → DFlow) (hs : HdL) : DEnv → DFlow := fun ρ => match F ρ with
  | .ex c ρ' => handM hs c ρ'
  | f => f
inductive HdD (X : Cx) (T : CT) (ow' ob : List Nat) : List ExceptHandler → HdL → List (Value × (Addr → Value → Option Addr → TS)) → Prop
  | nil : HdD X T ow' ob [] [] []
  | cons {x : Str} {cv : Value} {m : Nat → Bool} {G : DEnv → DFlow} {b₀ : Stmt} {suite : List Stmt} {np pos' : Pos} {hds : List ExceptHandler} {l : HdL} {l' : List (Value × (Addr → Value → Option Addr → TS))} (hc : Names X x cv) (hm : ∀ c, PySem.W.exmOne X.K (T.exc c) cv = some (m c))
      (hsu : ∀ (a : Addr) (oe : Obj) (cls : Value) (d : Option Addr) (pn : List (Addr × Obj)), Zc cls d oe → (∃ vs, oe.data = .fields vs) → DSs (X.suite a ((a, oe) :: pn)) T wNo [] ow' ob (b₀ :: suite) G) (r : HdD X T ow' ob hds l l') :
      HdD X T ow' ob (.ExceptHandler (some (.Name x np)) none (b₀ :: suite) pos' :: hds) ((m, G) :: l) ((cv, fun _ _ _ => tDS X.K T wNo [] ow' ob G) :: l')
section
variable {X : Cx} {T : CT} {W : WX} {ow ow' ob : List Nat} {pos : Pos} {F : DEnv → DFlow} {body : List Stmt}
theorem HdD.ok {hds : List ExceptHandler} {l : HdL} {l' : List (Value × (Addr → Value → Option Addr → TS))} (h : HdD X T ow' ob hds l l') : HdsOk X hds l' := by
  induction h with
  | nil => exact .nil
  | cons hc hm hsu r ih => exact .cons hc (fun a oe cls d pn hz hf => hsu a oe cls d pn hz hf) ih
theorem wants_ext {K : PySem.W.Frag} {B H H1 : Hp} {B0 S S1 : List Addr} {D : Ends} {f : DFlow} (w : Wants K T W B B0 ow' ob H S D (endT f)) (e : Ex (hide H S) (hide H1 S1)) (hn : W = wNo ∨ True) : Wants K T wNo B B0 ow' ob H1 S1 D f := by
  cases f with
  | ex c ρ => exact w.elim
  | nx ρ => exact fun σ' H' S' r e' => w σ' H' S' r (e.trans e')
  | bk ρ => exact fun σ' H' S' r e' => w σ' H' S' r (e.trans e')
  | ct ρ => exact fun σ' H' S' r e' => w σ' H' S' r (e.trans e')
  | rt d => exact w
  | stuck => exact w
theorem ds_tryM {h₀ : ExceptHandler} {hds : List ExceptHandler} {l : HdL} {l' : List (Value × (Addr → Value → Option Addr → TS))} (hs : X.stack = X.env :: X.outer) (hf : X.env.frame = some X.env.locals) (tk : Takes X W)
    (hb : ∀ (W : WX) (pn : List (Addr × Obj)) (xe : Value → Shared → Prop), Takes (X.tr pn xe) W → PassesOwn (model X.prog X.w) X.A X.env xe → DSs (X.tr pn xe) T W ow ow' ob body F)
    (hh : HdD X T ow' ob (h₀ :: hds) l l') : DS X T W ow ow' ob (.Try body (h₀ :: hds) [] [] pos) (sTryM F l) :=
  ps_imp (ps_try_many (tb := fun W => tDS X.K T W ow ow' ob F) hs hf tk hb hh.ok) fun D σ H q => by
    obtain ⟨B, B0, ρ, S, rs, w⟩ := q
    refine ⟨B, B0, ρ, S, rs, ?_⟩
    unfold sTryM at w
    cases qF : F ρ with
    | ex c ρ' =>
      rw [qF] at w
      intro σ' H' rs' e'
      have w : Wants X.K T W B B0 ow' ob H S D (handM l c ρ') := w
      clear qF hb
      generalize h₀ :: hds = hl at hh
      induction hh with
      | nil => exact w σ' H' rs' e'
      | @cons x cv m G b₀ suite np pos' hds2 l2 l2' hc hm hsu r ih =>
        refine ⟨m c, hm c, fun hb' a _ => ?_, fun hb' => ?_⟩
        · have w2 : Wants X.K T W B B0 ow' ob H S D (endT (G ρ')) := by
            have z : handM ((m, G) :: l2) c ρ' = endT (G ρ') := if_pos hb'
            rw [z] at w
            exact w
          exact ⟨B, B0, ρ', B0, rs', wants_ext w2 e' (.inr trivial)⟩
        · have z : handM ((m, G) :: l2) c ρ' = handM l2 c ρ' := if_neg (by rw [hb']; decide)
          rw [z] at w
          exact ih w w
    | nx ρ2 => rw [qF] at w; exact w
    | bk ρ2 => rw [qF] at w; exact w
    | ct ρ2 => rw [qF] at w; exact w
    | rt d => rw [qF] at w; exact w
    | stuck => rw [qF] at w; exact w
end
/-! ### methods of a text, one argument -/
def vM1 (g : Dat → Dat → Option Dat) (fo fa : DEnv → Res Dat) : DEnv → Res Dat := fun ρ => (fo ρ).bind fun x => match x with
  | .str z => (fa ρ).bind fun y => ofO (g (.str z) y)
  | _ => .stuck
def MtD (K : PySem.W.Frag) (T : CT) (r : V → List V → Hp → VK → Prop) (g : Dat → Dat → Option Dat) : Prop := ∀ (S : List Addr) (H : Hp) (z : Str) (v : V) (dv d : Dat) (Q : VK), Rep K T (hide H S) v dv → g (.str z) dv = some d →
  (∀ v' H', Ex H H' → Rep K T (hide H' S) v' d → Q v' H') → r (.str z) [v] H Q
section
variable {X : Cx} {T : CT} {W : WX} {ow : List Nat} {o e : Expr} {fo fa : DEnv → Res Dat} {id : String} {name : Str} {apos pos : Pos} {r : V → List V → Hp → VK → Prop} {g : Dat → Dat → Option Dat}
theorem de_sm1 (slot : Slot "str" name id) (ty : typeOf (.builtin id) = pure (.type "method_descriptor")) (rule : MtR X id r) (rd : MtD X.K T r g) (ho : DE X T W ow o fo) (he : DE X T W ow e fa)
    (hs : starEach [e] X.env = [(false, eval e X.env)] := by rfl) (hbase : attributeBase o name X.env (eval o X.env) = eval o X.env := by rfl) (hline : (apos.endLine == pos.line) = true := by rfl) :
    DE X T W ow (.Call (.Attribute o name apos) [e] [] pos) (vM1 g fo fa) := pe_imp (pe_m1 slot ty rule ho he hs hbase hline) fun σ H Q h => by
  obtain ⟨ρ, S, re, w⟩ := h
  refine Want.part re w fun x dx H1 w1 re1 e1 rx => ?_
  cases rx with
  | str z =>
    refine ⟨⟨z, rfl⟩, ?_⟩
    refine Want.part re1 w1 fun y dy H2 w2 re2 e2 ry => ?_
    cases q : g (.str z) dy with
    | none => rw [q] at w2; exact w2.elim
    | some d =>
      rw [q] at w2
      exact rd _ H2 z y dy d Q ry q w2
  | _ => exact w1.elim
end
def sindexD : Dat → Dat → Option Dat
  | .str a, .str b => (Builtin.Str.occurrences a b 0 a.length 1).head?.map fun i => .int (i : Nat)
  | _, _ => none
theorem md_sindex {K : PySem.W.Frag} {T : CT} : MtD K T (fun x xs H Q => ∃ a b i rest, x = .str a ∧ xs = [.str b] ∧ Builtin.Str.occurrences a b 0 a.length 1 = i :: rest ∧ Q (.int (i : Nat)) H) sindexD := fun S H z v dv d Q rv e q => by
  cases rv with
  | str b =>
    have e : (Builtin.Str.occurrences z b 0 z.length 1).head?.map (fun i => Dat.int (i : Nat)) = some d := e
    cases ho : Builtin.Str.occurrences z b 0 z.length 1 with
    | nil => rw [ho] at e; cases e
    | cons i rest =>
      rw [ho] at e
      cases e
      exact ⟨z, b, i, rest, rfl, rfl, ho, q _ H (Ex.refl H) (.int _)⟩
  | _ => cases e
end Dl
/-! What the pure functions of the D layer compute: steps of loops, the draws. -/
namespace Dl
open PySem PySem.Spec PyProof.Rows L2
theorem seq_nx {F G : DEnv → DFlow} {ρ ρ' : DEnv} (h : F ρ = .nx ρ') : sSeq F G ρ = G ρ' := by unfold sSeq; rw [h]
theorem seq_rt {F G : DEnv → DFlow} {ρ : DEnv} {d : Dat} (h : F ρ = .rt d) : sSeq F G ρ = .rt d := by unfold sSeq; rw [h]
theorem seq_ex {F G : DEnv → DFlow} {ρ ρ' : DEnv} {c : Nat} (h : F ρ = .ex c ρ') : sSeq F G ρ = .ex c ρ' := by unfold sSeq; rw [h]
theorem asg_ok {i : Nat} {f : DEnv → Res Dat} {ρ : DEnv} {d : Dat} (h : f ρ = .ok d) : sAsg i f ρ = .nx (ρ.set i (some d)) := by unfold sAsg; rw [h]; rfl
theorem asgO_ok {i : Nat} {f : DEnv → Res (List Dat)} {ρ : DEnv} {d : List Dat} (h : f ρ = .ok d) : sAsgO i f ρ = .nx (ρ.set i (some (.lst d))) := by unfold sAsgO; rw [h]; rfl
theorem ret_ok {f : DEnv → Res Dat} {ρ : DEnv} {d : Dat} (h : f ρ = .ok d) : sRet f ρ = .rt d := by unfold sRet; rw [h]; rfl
theorem drop_ok {f : DEnv → Res Dat} {ρ : DEnv} {d : Dat} (h : f ρ = .ok d) : sDrop f ρ = .nx ρ := by unfold sDrop; rw [h]; rfl
theorem if_t {t : DEnv → Res Bool} {F G : DEnv → DFlow} {ρ : DEnv} (h : t ρ = .ok true) : sIf t F G ρ = F ρ := by unfold sIf; rw [h]; rfl
theorem if_f {t : DEnv → Res Bool} {F G : DEnv → DFlow} {ρ : DEnv} (h : t ρ = .ok false) : sIf t F G ρ = G ρ := by unfold sIf; rw [h]; rfl
theorem asgT_ok {asg : Dat → DEnv → Option DEnv} {f : DEnv → Res Dat} {ρ ρ' : DEnv} {d : Dat} (h : f ρ = .ok d) (ha : asg d ρ = some ρ') : sAsgT asg f ρ = .nx ρ' := by
  unfold sAsgT; rw [h]; show (match asg d ρ with | some ρ' => DFlow.nx ρ' | none => .stuck) = _; rw [ha]
theorem aug_ok {i : Nat} {g : Dat → Dat → Option Dat} {f : DEnv → Res Dat} {ρ : DEnv} {d e z : Dat} (hi : ρ[i]? = some (some d)) (h : f ρ = .ok e) (hz : g d e = some z) : sAug i g f ρ = .nx (ρ.set i (some z)) := by
  unfold sAug
  rw [hi]
  show rBind (f ρ) ρ _ = _
  rw [h]
  show (match g d e with | some z => DFlow.nx (ρ.set i (some z)) | none => .stuck) = _
  rw [hz]
theorem for_ok {g : DEnv → Res (List Dat)} {asg : Dat → DEnv → Option DEnv} {F : DEnv → DFlow} {ρ : DEnv} {l : List Dat} (h : g ρ = .ok l) : sFor g asg F ρ = forL asg F l ρ := by unfold sFor; rw [h]; rfl
theorem op_ok {g : Dat → Dat → Option Dat} {f1 f2 : DEnv → Res Dat} {ρ : DEnv} {x y z : Dat} (h1 : f1 ρ = .ok x) (h2 : f2 ρ = .ok y) (h : g x y = some z) : vOp g f1 f2 ρ = .ok z := by
  unfold vOp; rw [h1]; show (f2 ρ).bind _ = _; rw [h2]; show ofO (g x y) = _; rw [h]; rfl
theorem v1_ok {g : Dat → Option Dat} {f : DEnv → Res Dat} {ρ : DEnv} {x z : Dat} (h1 : f ρ = .ok x) (h : g x = some z) : v1 g f ρ = .ok z := by
  unfold v1; rw [h1]; show ofO (g x) = _; rw [h]; rfl
theorem cb_ok {g : List Dat → Option Dat} {fs : DEnv → Res (List Dat)} {ρ : DEnv} {l : List Dat} {z : Dat} (h1 : fs ρ = .ok l) (h : g l = some z) : vCB g fs ρ = .ok z := by
  unfold vCB; rw [h1]; show ofO (g l) = _; rw [h]; rfl
theorem call_ok {n : Nat} {F : List Dat → Res Dat} {fs : DEnv → Res (List Dat)} {ρ : DEnv} {l : List Dat} {r : Res Dat} (h1 : fs ρ = .ok l) (hl : l.length = n) (h : F l = r) : vCall n F fs ρ = r := by
  unfold vCall; rw [h1]; show (if l.length = n then F l else .stuck) = _; rw [if_pos hl]; exact h
theorem ac_ok {f : DEnv → Res Dat} {fs : DEnv → Res (List Dat)} {ρ : DEnv} {x : Dat} {l : List Dat} (h1 : f ρ = .ok x) (h2 : fs ρ = .ok l) : aCons f fs ρ = .ok (x :: l) := by
  unfold aCons; rw [h1]; show (fs ρ).bind _ = _; rw [h2]; rfl
theorem an_ok {ρ : DEnv} : aNil ρ = .ok [] := rfl
theorem tup_ok {fs : DEnv → Res (List Dat)} {ρ : DEnv} {l : List Dat} (h1 : fs ρ = .ok l) (hl : l.length ≤ 1000) : vTup fs ρ = .ok (.tup l) := by
  unfold vTup; rw [h1]; show (if l.length ≤ 1000 then _ else _) = _; rw [if_pos hl]
theorem lst_ok {fs : DEnv → Res (List Dat)} {ρ : DEnv} {l : List Dat} (h1 : fs ρ = .ok l) (hl : l.length ≤ 1000) : fLst fs ρ = .ok l := by
  unfold fLst; rw [h1]; show (if l.length ≤ 1000 then _ else _) = _; rw [if_pos hl]
theorem vl_ok {f : DEnv → Res (List Dat)} {ρ : DEnv} {l : List Dat} (h1 : f ρ = .ok l) : vL f ρ = .ok (.lst l) := by unfold vL; rw [h1]; rfl
theorem ga_ok {k : List Dat → Res (List Dat)} {fs : DEnv → Res (List Dat)} {ρ : DEnv} {l : List Dat} {r : Res (List Dat)} (h1 : fs ρ = .ok l) (h : k l = r) : gA k fs ρ = r := by unfold gA; rw [h1]; exact h
theorem gs_ok {f : DEnv → Res Dat} {ρ : DEnv} {x : Dat} {r : Res (List Dat)} (h1 : f ρ = .ok x) (h : itemsD x = r) : gSeq f ρ = r := by unfold gSeq; rw [h1]; exact h
theorem test_ok {f : DEnv → Res Dat} {ρ : DEnv} {b : Bool} (h : f ρ = .ok (.bl b)) : vTest f ρ = .ok b := by unfold vTest; rw [h]; rfl
theorem tru_ok {f : DEnv → Res Dat} {ρ : DEnv} {d : Dat} {b : Bool} (h : f ρ = .ok d) (ht : truD d = some b) : vTru f ρ = .ok b := by unfold vTru; rw [h]; show ofO (truD d) = _; rw [ht]; rfl
theorem not_ok {t : DEnv → Res Bool} {ρ : DEnv} {b : Bool} (h : t ρ = .ok b) : vNotT t ρ = .ok (!b) := by unfold vNotT; rw [h]; rfl
theorem or_f {t u : DEnv → Res Bool} {ρ : DEnv} (h : t ρ = .ok false) : vOrT t u ρ = u ρ := by unfold vOrT; rw [h]; rfl
theorem or_t {t u : DEnv → Res Bool} {ρ : DEnv} (h : t ρ = .ok true) : vOrT t u ρ = .ok true := by unfold vOrT; rw [h]; rfl
theorem and_t {t u : DEnv → Res Bool} {ρ : DEnv} (h : t ρ = .ok true) : vAndT t u ρ = u ρ := by unfold vAndT; rw [h]; rfl
theorem and_f {t u : DEnv → Res Bool} {ρ : DEnv} (h : t ρ = .ok false) : vAndT t u ρ = .ok false := by unfold vAndT; rw [h]; rfl
theorem vand_t {t u : DEnv → Res Dat} {ρ : DEnv} (h : t ρ = .ok (.bl true)) : vAnd t u ρ = u ρ := by unfold vAnd; rw [h]; rfl
theorem vand_f {t u : DEnv → Res Dat} {ρ : DEnv} (h : t ρ = .ok (.bl false)) : vAnd t u ρ = .ok (.bl false) := by unfold vAnd; rw [h]; rfl
theorem vor_f {t u : DEnv → Res Dat} {ρ : DEnv} (h : t ρ = .ok (.bl false)) : vOr t u ρ = u ρ := by unfold vOr; rw [h]; rfl
theorem vor_t {t u : DEnv → Res Dat} {ρ : DEnv} (h : t ρ = .ok (.bl true)) : vOr t u ρ = .ok (.bl true) := by unfold vOr; rw [h]; rfl
theorem vif_t {t : DEnv → Res Bool} {f g : DEnv → Res Dat} {ρ : DEnv} (h : t ρ = .ok true) : vIf t f g ρ = f ρ := by unfold vIf; rw [h]; rfl
theorem vif_f {t : DEnv → Res Bool} {f g : DEnv → Res Dat} {ρ : DEnv} (h : t ρ = .ok false) : vIf t f g ρ = g ρ := by unfold vIf; rw [h]; rfl
theorem sl_ok {f : DEnv → Res Dat} {fl fh : DEnv → Res (Option Int)} {ρ : DEnv} {x z : Dat} {l h : Option Int} (h1 : f ρ = .ok x) (h2 : fl ρ = .ok l) (h3 : fh ρ = .ok h) (e : slD x l h = some z) : vSl f fl fh ρ = .ok z := by
  unfold vSl; rw [h1]; show (fl ρ).bind _ = _; rw [h2]; show (fh ρ).bind _ = _; rw [h3]; show ofO (slD x l h) = _; rw [e]; rfl
theorem step_ok {f : DEnv → Res Dat} {fl fh fs : DEnv → Res (Option Int)} {ρ : DEnv} {x z : Dat} {l h s : Option Int} (h1 : f ρ = .ok x) (h2 : fl ρ = .ok l) (h3 : fh ρ = .ok h) (h4 : fs ρ = .ok s) (e : stepK l h s x = some z) : vStep f fl fh fs ρ = .ok z := by
  unfold vStep; rw [h1]; show (fl ρ).bind _ = _; rw [h2]; show (fh ρ).bind _ = _; rw [h3]; show (fs ρ).bind _ = _; rw [h4]; show ofO (stepK l h s x) = _; rw [e]; rfl
theorem os_ok {f : DEnv → Res Dat} {ρ : DEnv} {i : Int} (h : f ρ = .ok (.int i)) : oSome f ρ = .ok (some i) := by unfold oSome; rw [h]; rfl
theorem lc_ok {g : DEnv → Res (List Dat)} {asg : Dat → DEnv → Option DEnv} {vs : List Nat} {t : DEnv → Res Bool} {f : DEnv → Res Dat} {ρ : DEnv} {l : List Dat} {r : Res (List Dat)} (h : g ρ = .ok l) (hl : l.length ≤ 10000000) (hr : lcL asg t f (wipeD ρ vs) l = r) : vLc g asg vs t f ρ = r := by
  unfold vLc; rw [h]; show (if l.length ≤ 10000000 then _ else _) = _; rw [if_pos hl]; exact hr
/-- a comprehension without «if» -/
theorem lcL_map {asg : Dat → DEnv → Option DEnv} {f : DEnv → Res Dat} {ρ : DEnv} {g : Dat → Dat} : ∀ {l : List Dat}, (∀ d ∈ l, ∃ ρ1, asg d ρ = some ρ1 ∧ f ρ1 = .ok (g d)) → lcL asg tYesD f ρ l = .ok (l.map g)
  | [], _ => rfl
  | d :: r, h => by
    obtain ⟨ρ1, e1, e2⟩ := h d (List.mem_cons_self ..)
    have ih := lcL_map (asg := asg) (f := f) (ρ := ρ) (g := g) (l := r) fun e he => h e (List.mem_cons_of_mem _ he)
    unfold lcL
    rw [e1]
    show (noExc (f ρ1)).bind (fun y => (lcL asg tYesD f ρ r).bind fun ys => .ok (y :: ys)) = _
    rw [e2, ih]
    rfl
theorem lcL_of {α : Type} {asg : Dat → DEnv → Option DEnv} {f : DEnv → Res Dat} {ρ : DEnv} {e : α → Dat} {g : α → Dat} {l : List α} (h : ∀ a ∈ l, ∃ ρ1, asg (e a) ρ = some ρ1 ∧ f ρ1 = .ok (g a)) : lcL asg tYesD f ρ (l.map e) = .ok (l.map g) := by
  induction l with
  | nil => rfl
  | cons a r ih =>
    obtain ⟨ρ1, e1, e2⟩ := h a (List.mem_cons_self ..)
    have ih := ih fun e he => h e (List.mem_cons_of_mem _ he)
    rw [List.map_cons, List.map_cons]
    unfold lcL
    rw [e1]
    show (noExc (f ρ1)).bind (fun y => (lcL asg tYesD f ρ (r.map e)).bind fun ys => .ok (y :: ys)) = _
    rw [e2, ih]
    rfl
/-- a loop by its state -/
theorem forL_inv {asg : Dat → DEnv → Option DEnv} {F : DEnv → DFlow} : ∀ {l : List Dat} {ρ : DEnv} (P : Nat → DEnv → Prop), P 0 ρ → (∀ k d ρ, l[k]? = some d → P k ρ → ∃ ρ1 ρ2, asg d ρ = some ρ1 ∧ (F ρ1 = .nx ρ2 ∨ F ρ1 = .ct ρ2) ∧ P (k + 1) ρ2) → ∃ ρ', forL asg F l ρ = .nx ρ' ∧ P l.length ρ'
  | [], ρ, P, h0, _ => ⟨ρ, rfl, h0⟩
  | d :: r, ρ, P, h0, hs => by
    obtain ⟨ρ1, ρ2, e1, e2, p⟩ := hs 0 d ρ rfl h0
    obtain ⟨ρ', e, q⟩ := forL_inv (asg := asg) (F := F) (l := r) (ρ := ρ2) (fun k => P (k + 1)) p fun k d ρ hk hp => hs (k + 1) d ρ (by rw [List.getElem?_cons_succ]; exact hk) hp
    refine ⟨ρ', ?_, by rw [List.length_cons]; exact q⟩
    unfold forL
    rw [e1]
    show (match F ρ1 with | .nx ρ2 => forL asg F r ρ2 | .ct ρ2 => forL asg F r ρ2 | .bk ρ2 => .nx ρ2 | f => f) = _
    rcases e2 with e2 | e2 <;> rw [e2] <;> exact e
/-- … that returns at item m -/
theorem forL_ret {asg : Dat → DEnv → Option DEnv} {F : DEnv → DFlow} {x : Dat} : ∀ {l : List Dat} {ρ : DEnv} {m : Nat} (P : Nat → DEnv → Prop), m < l.length → P 0 ρ → (∀ k d ρ, l[k]? = some d → k < m → P k ρ → ∃ ρ1 ρ2, asg d ρ = some ρ1 ∧ (F ρ1 = .nx ρ2 ∨ F ρ1 = .ct ρ2) ∧ P (k + 1) ρ2) →
    (∀ d ρ, l[m]? = some d → P m ρ → ∃ ρ1, asg d ρ = some ρ1 ∧ F ρ1 = .rt x) → forL asg F l ρ = .rt x
  | [], ρ, m, P, hm, _, _, _ => by cases hm
  | d :: r, ρ, 0, P, hm, h0, _, hr => by
    obtain ⟨ρ1, e1, e2⟩ := hr d ρ rfl h0
    unfold forL
    rw [e1]
    show (match F ρ1 with | .nx ρ2 => forL asg F r ρ2 | .ct ρ2 => forL asg F r ρ2 | .bk ρ2 => .nx ρ2 | f => f) = _
    rw [e2]
  | d :: r, ρ, m + 1, P, hm, h0, hs, hr => by
    obtain ⟨ρ1, ρ2, e1, e2, p⟩ := hs 0 d ρ rfl (Nat.succ_pos _) h0
    have ih := forL_ret (asg := asg) (F := F) (x := x) (l := r) (ρ := ρ2) (m := m) (fun k => P (k + 1)) (by rw [List.length_cons] at hm; omega) p
      (fun k d ρ hk hkm hp => hs (k + 1) d ρ (by rw [List.getElem?_cons_succ]; exact hk) (by omega) hp) fun d ρ hk hp => hr d ρ (by rw [List.getElem?_cons_succ]; exact hk) hp
    unfold forL
    rw [e1]
    show (match F ρ1 with | .nx ρ2 => forL asg F r ρ2 | .ct ρ2 => forL asg F r ρ2 | .bk ρ2 => .nx ρ2 | f => f) = _
    rcases e2 with e2 | e2 <;> rw [e2] <;> exact ih
theorem whileL_t {t : DEnv → Res Bool} {F : DEnv → DFlow} {n : Nat} {ρ ρ2 : DEnv} (h : t ρ = .ok true) (hf : F ρ = .nx ρ2) : whileL t F (n + 1) ρ = whileL t F n ρ2 := by
  show rBind (t ρ) ρ _ = _
  rw [h]
  show (match F ρ with | .nx ρ2 => whileL t F n ρ2 | .ct ρ2 => whileL t F n ρ2 | .bk ρ2 => .nx ρ2 | f => f) = _
  rw [hf]
theorem whileL_f {t : DEnv → Res Bool} {F : DEnv → DFlow} {n : Nat} {ρ : DEnv} (h : t ρ = .ok false) : whileL t F (n + 1) ρ = .nx ρ := by
  show rBind (t ρ) ρ _ = _
  rw [h]
  rfl
theorem run_rt {m : Nat} {F : DEnv → DFlow} {ds : List Dat} {d : Dat} (h : F (startD m ds) = .rt d) : runD m F ds = .ok d := by unfold runD; rw [h]; rfl
theorem run_nx {m : Nat} {F : DEnv → DFlow} {ds : List Dat} {ρ : DEnv} (h : F (startD m ds) = .nx ρ) : runD m F ds = .ok .non := by unfold runD; rw [h]; rfl
theorem rng_get {lo : Int} {n k : Nat} {d : Dat} (h : (rng lo n)[k]? = some d) : k < n ∧ d = .int (lo + k) := by
  unfold rng at h
  rw [List.getElem?_map] at h
  by_cases z : k < n
  · rw [List.getElem?_range z] at h
    exact ⟨z, (Option.some.inj h).symm⟩
  · rw [List.getElem?_eq_none (by rw [List.length_range]; omega)] at h
    cases h
theorem rng_len {lo : Int} {n : Nat} : (rng lo n).length = n := by unfold rng; rw [List.length_map, List.length_range]
end Dl
/-! What the laws draw from the script. -/
namespace Dl
open PySem PySem.Spec PyProof.Rows L2
theorem mul_c {i j : Int} (h : j.natAbs < 2 ^ 64) : mulD (.int i) (.int j) = some (.int (i * j)) := by
  show (if mulOk i j = true then _ else _) = _
  rw [if_pos]
  unfold mulOk
  rw [decide_eq_true h]
  simp
theorem mod_c {i j : Int} (h : 0 < j) : modD (.int i) (.int j) = some (.int (i % j)) := by
  show (modI i j).map _ = _
  unfold modI
  rw [if_pos h]
  rfl
theorem pow1018 : powD (.int 10) (.int 18) = some (.int 1000000000000000000) := by
  show (powI 10 18).map _ = _
  have : powI 10 18 = some 1000000000000000000 := by decide +kernel
  rw [this]
  rfl
theorem fdiv_c {i j : Int} (h : 0 < j) (h2 : j.natAbs.log2 < 9000) : fdivD (.int i) (.int j) = some (.int (i / j)) := by
  show (fdivI i j).map _ = _
  unfold fdivI
  rw [if_pos h, if_pos h2]
  rfl
def Drawn (ds : List Int) : Prop := ∀ d ∈ ds, 0 ≤ d ∧ d < 65521
theorem Drawn.snoc {ds : List Int} {d : Int} (h : Drawn ds) (h1 : 0 ≤ d) (h2 : d < 65521) : Drawn (ds ++ [d]) := fun e he => by
  rcases List.mem_append.mp he with z | z
  · exact h e z
  · rw [List.mem_singleton] at z
    subst z
    exact ⟨h1, h2⟩
theorem app_ok {i : Nat} {f : DEnv → Res Dat} {ρ : DEnv} {d : Dat} {l : List Dat} (hi : ρ[i]? = some (some (.lst l))) (h : f ρ = .ok d) (hl : l.length < 10000000) : sApp i f ρ = .nx (ρ.set i (some (.lst (l ++ [d])))) := by
  unfold sApp
  rw [hi]
  show rBind (f ρ) ρ _ = _
  rw [h]
  show (if l.length < 10000000 then _ else _) = _
  rw [if_pos hl]
/-- the inner loop's turn -/
def G1 : DEnv → DFlow := sIf (vTest (vOp gtD (vVar 5) (vC (.int 0)))) (sSeq (sApp 2 (vOp modD (vCB intD (aCons (vVar 5) (aNil))) (vC (.int 1009)))) (sAsg 5 (vOp fdivD (vVar 5) (vC (.int 1009))))) (sNop)
def G2 : DEnv → DFlow := sSeq (sAsg 5 (vCB absD (aCons (vVar 4) (aNil)))) (sSeq (sAsg 3 (vOp modD (vCB intD (aCons (vOp addD (vOp addD (vOp mulD (vVar 3) (vC (.int 48271))) (vVar 5)) (vC (.int 11))) (aNil))) (vC (.int 2147483647)))) (sIf (vTest (vOp geD (vVar 5) (vOp powD (vC (.int 10)) (vC (.int 18))))) (sFor (gA range1D (aCons (vC (.int 60)) (aNil))) (aName 6) G1) (sApp 2 (vOp modD (vOp fdivD (vCB intD (aCons (vOp addD (vOp mulD (vVar 3) (vC (.int 16807))) (vC (.int 5))) (aNil))) (vC (.int 3))) (vC (.int 65521))))))
def G3 : DEnv → DFlow := sIf (vTest (vOp ltD (vCB lenD (aCons (vVar 2) (aNil))) (vVar 1))) (sSeq (sAsg 3 (vOp modD (vCB intD (aCons (vOp addD (vOp addD (vOp mulD (vVar 3) (vC (.int 69621))) (vVar 6)) (vC (.int 1))) (aNil))) (vC (.int 2147483647)))) (sApp 2 (vOp modD (vOp fdivD (vCB intD (aCons (vVar 3) (aNil))) (vC (.int 7))) (vC (.int 65521))))) (sNop)
def Gd : DEnv → DFlow := sSeq (sAsgO 2 (fLst (aNil))) (sSeq (sAsg 3 (vC (.int 7))) (sSeq (sFor (gSeq (vSl (vVar 0) (oNone) (oSome (vC (.int 63))))) (aName 4) G2) (sSeq (sFor (gA range1D (aCons (vVar 1) (aNil))) (aName 6) G3) (sRet (vSl (vVar 2) (oNone) (oSome (vVar 1)))))))
theorem g1_turn {a b x y : Option Dat} {ds : List Int} {s n : Int} (hd : Drawn ds) (hl : ds.length < 10000000) : ∃ (ds' : List Int) (n' : Int), G1 [a, b, some (.lst (ds.map .int)), some (.int s), x, some (.int n), y] = .nx [a, b, some (.lst (ds'.map .int)), some (.int s), x, some (.int n'), y] ∧ Drawn ds' ∧ ds'.length ≤ ds.length + 1 := by
  by_cases z : 0 < n
  · refine ⟨ds ++ [n % 1009], n / 1009, ?_, hd.snoc (Int.emod_nonneg _ (by decide)) (by have := Int.emod_lt_of_pos n (show (0 : Int) < 1009 by decide); omega), by rw [List.length_append]; exact Nat.le_refl _⟩
    unfold G1
    rw [if_t (by exact test_ok (op_ok (x := .int n) (y := .int 0) rfl rfl (by show some (Dat.bl (decide (0 < n))) = _; rw [decide_eq_true z])))]
    rw [seq_nx (app_ok (l := ds.map .int) rfl (op_ok (x := .int n) (y := .int 1009) rfl rfl (mod_c (by decide))) (by rw [List.length_map]; exact hl))]
    rw [asg_ok (op_ok (x := .int n) (y := .int 1009) rfl rfl (fdiv_c (by decide) (by decide)))]
    rw [List.map_append]
    rfl
  · refine ⟨ds, n, ?_, hd, Nat.le_succ _⟩
    unfold G1
    rw [if_f (by exact test_ok (op_ok (x := .int n) (y := .int 0) rfl rfl (by show some (Dat.bl (decide (0 < n))) = _; rw [decide_eq_false z])))]
    rfl
theorem g2_turn {a b x y : Option Dat} {ds : List Int} {s c : Int} (hd : Drawn ds) (hl : ds.length < 100000) : ∃ (ds' : List Int) (s' n' : Int) (y' : Option Dat), G2 [a, b, some (.lst (ds.map .int)), some (.int s), some (.int c), x, y] = .nx [a, b, some (.lst (ds'.map .int)), some (.int s'), some (.int c), some (.int n'), y'] ∧ Drawn ds' ∧ ds'.length ≤ ds.length + 60 := by
  unfold G2
  have e1 : ∀ G, sSeq (sAsg 5 (vCB absD (aCons (vVar 4) (aNil)))) G [a, b, some (.lst (ds.map .int)), some (.int s), some (.int c), x, y] = G [a, b, some (.lst (ds.map .int)), some (.int s), some (.int c), some (.int (if c < 0 then -c else c)), y] := fun G => seq_nx rfl
  rw [e1]
  generalize (if c < 0 then -c else c) = n
  rw [seq_nx (ρ' := [a, b, some (.lst (ds.map .int)), some (.int ((s * 48271 + n + 11) % 2147483647)), some (.int c), some (.int n), y]) (asg_ok (op_ok (x := .int (s * 48271 + n + 11)) (y := .int 2147483647)
    (cb_ok (ac_ok (op_ok (op_ok (op_ok (x := .int s) (y := .int 48271) rfl rfl (mul_c (by decide))) (y := .int n) rfl rfl) (y := .int 11) rfl rfl) an_ok) rfl) rfl (mod_c (by decide))))]
  generalize (s * 48271 + n + 11) % 2147483647 = s'
  have ht : vTest (vOp geD (vVar 5) (vOp powD (vC (.int 10)) (vC (.int 18)))) [a, b, some (.lst (ds.map .int)), some (.int s'), some (.int c), some (.int n), y] = .ok (decide (1000000000000000000 ≤ n)) :=
    test_ok (op_ok (x := .int n) (y := .int 1000000000000000000) rfl (op_ok (x := .int 10) (y := .int 18) rfl rfl pow1018) rfl)
  by_cases z : 1000000000000000000 ≤ n
  · rw [decide_eq_true z] at ht
    rw [if_t ht, for_ok (l := rng 0 60) rfl]
    obtain ⟨ρ', e, p⟩ := forL_inv (asg := aName 6) (F := G1) (l := rng 0 60) (ρ := [a, b, some (.lst (ds.map .int)), some (.int s'), some (.int c), some (.int n), y])
      (fun k ρ => ∃ (ds' : List Int) (n' : Int) (y' : Option Dat), ρ = [a, b, some (.lst (ds'.map .int)), some (.int s'), some (.int c), some (.int n'), y'] ∧ Drawn ds' ∧ ds'.length ≤ ds.length + k ∧ k ≤ 60) ⟨ds, n, y, rfl, hd, Nat.le_refl _, by decide⟩ fun k d ρ hk hp => by
        obtain ⟨ds', n', y', rfl, h1, h2, h3⟩ := hp
        obtain ⟨ds2, n2, e2, h4, h5⟩ := g1_turn (a := a) (b := b) (x := some (.int c)) (y := some d) (s := s') (n := n') h1 (by omega)
        have hk' := (rng_get hk).1
        exact ⟨_, _, rfl, .inl e2, ds2, n2, _, rfl, h4, by omega, by omega⟩
    obtain ⟨ds', n', y', rfl, h1, h2, h3⟩ := p
    exact ⟨ds', s', n', y', e, h1, by rw [rng_len] at h2; exact h2⟩
  · rw [decide_eq_false z] at ht
    rw [if_f ht]
    refine ⟨ds ++ [(s' * 16807 + 5) / 3 % 65521], s', n, y, ?_, hd.snoc (Int.emod_nonneg _ (by decide)) (Int.emod_lt_of_pos _ (by decide)), by rw [List.length_append, List.length_singleton]; omega⟩
    rw [app_ok (l := ds.map .int) rfl (op_ok (x := .int ((s' * 16807 + 5) / 3)) (y := .int 65521) (op_ok (x := .int (s' * 16807 + 5)) (y := .int 3)
      (cb_ok (ac_ok (op_ok (op_ok (x := .int s') (y := .int 16807) rfl rfl (mul_c (by decide))) (y := .int 5) rfl rfl) an_ok) rfl) rfl (fdiv_c (by decide) (by decide))) rfl (mod_c (by decide))) (by rw [List.length_map]; omega)]
    rw [List.map_append]
    rfl
theorem g3_turn {a x y : Option Dat} {m : Nat} {ds : List Int} {s k : Int} (hd : Drawn ds) (hl : ds.length < 100000) : ∃ (ds' : List Int) (s' : Int), G3 [a, some (.int m), some (.lst (ds.map .int)), some (.int s), x, y, some (.int k)] = .nx [a, some (.int m), some (.lst (ds'.map .int)), some (.int s'), x, y, some (.int k)] ∧ Drawn ds' ∧ (ds.length < m → ds'.length = ds.length + 1) ∧ (m ≤ ds.length → ds'.length = ds.length) := by
  unfold G3
  have ht : vTest (vOp ltD (vCB lenD (aCons (vVar 2) (aNil))) (vVar 1)) [a, some (.int m), some (.lst (ds.map .int)), some (.int s), x, y, some (.int k)] = .ok (decide (((ds.map Dat.int).length : Int) < m)) := rfl
  rw [List.length_map] at ht
  by_cases z : ds.length < m
  · rw [decide_eq_true (by omega)] at ht
    rw [if_t ht]
    refine ⟨ds ++ [(s * 69621 + k + 1) % 2147483647 / 7 % 65521], (s * 69621 + k + 1) % 2147483647, ?_, hd.snoc (Int.emod_nonneg _ (by decide)) (Int.emod_lt_of_pos _ (by decide)), fun _ => by rw [List.length_append]; rfl, fun h => by omega⟩
    rw [seq_nx (ρ' := [a, some (.int m), some (.lst (ds.map .int)), some (.int ((s * 69621 + k + 1) % 2147483647)), x, y, some (.int k)]) (asg_ok (op_ok (x := .int (s * 69621 + k + 1)) (y := .int 2147483647)
      (cb_ok (ac_ok (op_ok (op_ok (op_ok (x := .int s) (y := .int 69621) rfl rfl (mul_c (by decide))) (y := .int k) rfl rfl) (y := .int 1) rfl rfl) an_ok) rfl) rfl (mod_c (by decide))))]
    generalize (s * 69621 + k + 1) % 2147483647 = s'
    rw [app_ok (l := ds.map .int) rfl (op_ok (x := .int (s' / 7)) (y := .int 65521) (op_ok (x := .int s') (y := .int 7)
      (cb_ok (ac_ok rfl an_ok) rfl) rfl (fdiv_c (by decide) (by decide))) rfl (mod_c (by decide))) (by rw [List.length_map]; omega)]
    rw [List.map_append]
    rfl
  · rw [decide_eq_false (by omega)] at ht
    rw [if_f ht]
    exact ⟨ds, s, rfl, hd, fun h => absurd h z, fun _ => rfl⟩
theorem cut_pre {α : Type} (l : List α) (k : Nat) : cutD l none (some (k : Int)) = l.take k := by
  unfold cutD
  rw [HT.sIx_nat]
  show (l.drop 0).take (min k l.length - 0) = _
  rw [List.drop_zero, Nat.sub_zero]
  by_cases z : k ≤ l.length
  · rw [Nat.min_eq_left z]
  · rw [Nat.min_eq_right (by omega), List.take_of_length_le (Nat.le_refl _), List.take_of_length_le (by omega)]
/-- the draws: m numbers below 65521 -/
theorem draws_eq {m : Nat} (hm : m ≤ 10000) (ns : List Int) : ∃ ds : List Int, runD 7 Gd [.frz (ns.map .int), .int m] = .ok (.lst (ds.map .int)) ∧ ds.length = m ∧ Drawn ds := by
  have e0 : startD 7 [.frz (ns.map .int), .int m] = [some (.frz (ns.map .int)), some (.int m), none, none, none, none, none] := rfl
  obtain ⟨ρ', e, ds, s, x, y, z, rfl, h1, h2⟩ := forL_inv (asg := aName 4) (F := G2) (l := (ns.take 63).map .int) (ρ := [some (.frz (ns.map .int)), some (.int m), some (.lst []), some (.int 7), none, none, none])
    (fun k ρ => ∃ (ds : List Int) (s : Int) (x y z : Option Dat), ρ = [some (.frz (ns.map .int)), some (.int m), some (.lst (ds.map .int)), some (.int s), x, y, z] ∧ Drawn ds ∧ ds.length ≤ 60 * k) ⟨[], 7, none, none, none, rfl, (fun _ h => by cases h), Nat.le_refl _⟩ fun k d ρ hk hp => by
      obtain ⟨ds, s, x, y, z, rfl, h1, h2⟩ := hp
      have hk2 : k < 63 := by
        have := (List.getElem?_eq_some_iff.mp hk).1
        rw [List.length_map, List.length_take] at this
        omega
      rw [List.getElem?_map] at hk
      cases q : (ns.take 63)[k]? with
      | none => rw [q] at hk; cases hk
      | some c =>
        rw [q] at hk
        cases hk
        obtain ⟨ds', s', n', y', e2, h3, h4⟩ := g2_turn (a := some (.frz (ns.map .int))) (b := some (.int m)) (x := y) (y := z) (s := s) (c := c) h1 (by omega)
        exact ⟨_, _, rfl, .inl e2, ds', s', _, _, _, rfl, h3, by omega⟩
  have hl : ((ns.take 63).map Dat.int).length ≤ 63 := by rw [List.length_map, List.length_take]; omega
  obtain ⟨ρ2, e2, ds2, s2, x2, y2, z2, rfl, h3, h4, h5, h6⟩ := forL_inv (asg := aName 6) (F := G3) (l := rng 0 m) (ρ := [some (.frz (ns.map .int)), some (.int m), some (.lst (ds.map .int)), some (.int s), x, y, z])
    (fun k ρ => ∃ (ds : List Int) (s : Int) (x y z : Option Dat), ρ = [some (.frz (ns.map .int)), some (.int m), some (.lst (ds.map .int)), some (.int s), x, y, z] ∧ Drawn ds ∧ ds.length ≤ 3780 + k ∧ (k ≤ ds.length ∨ m ≤ ds.length) ∧ k ≤ m) ⟨ds, s, x, y, z, rfl, h1, by omega, .inl (Nat.zero_le _), Nat.zero_le _⟩ fun k d ρ hk hp => by
      obtain ⟨ds, s, x, y, z, rfl, h1, h2, h3, h4⟩ := hp
      obtain ⟨hk', rfl⟩ := rng_get hk
      obtain ⟨ds', s', e2, h5, h6, h7⟩ := g3_turn (a := some (.frz (ns.map .int))) (x := x) (y := y) (m := m) (s := s) (k := 0 + (k : Nat)) h1 (by omega)
      refine ⟨_, _, rfl, .inl e2, ds', s', _, _, _, rfl, h5, ?_, ?_, by omega⟩
      · by_cases z : ds.length < m
        · rw [h6 z]; omega
        · rw [h7 (by omega)]; omega
      · by_cases z : ds.length < m
        · rw [h6 z]; omega
        · rw [h7 (by omega)]; omega
  rw [rng_len] at h4 h5
  refine ⟨ds2.take m, ?_, by rw [List.length_take]; omega, fun d hd => h3 d (List.mem_of_mem_take hd)⟩
  refine run_rt ?_
  rw [e0]
  unfold Gd
  refine (seq_nx (ρ' := [some (.frz (ns.map .int)), some (.int m), some (.lst []), none, none, none, none]) rfl).trans ?_
  refine (seq_nx (ρ' := [some (.frz (ns.map .int)), some (.int m), some (.lst []), some (.int 7), none, none, none]) rfl).trans ?_
  rw [seq_nx (ρ' := [some (.frz (ns.map .int)), some (.int m), some (.lst (ds.map .int)), some (.int s), x, y, z])]
  · rw [seq_nx (ρ' := [some (.frz (ns.map .int)), some (.int m), some (.lst (ds2.map .int)), some (.int s2), x2, y2, z2])]
    · rw [ret_ok (sl_ok (x := .lst (ds2.map .int)) (l := none) (h := some (m : Int)) rfl rfl (os_ok rfl) rfl)]
      rw [cut_pre, List.map_take]
    · rw [for_ok (l := rng 0 m)]
      · exact e2
      · refine ga_ok (ac_ok (x := .int m) rfl an_ok) ?_
        show (if big62 (m : Int) = true then Res.ok (rng 0 (m : Int).toNat) else .stuck) = _
        rw [if_pos, Int.toNat_natCast]
        unfold big62
        rw [decide_eq_true, decide_eq_true] <;> first | rfl | omega
  · rw [for_ok (l := (ns.take 63).map .int)]
    · exact e
    · refine gs_ok (sl_ok (x := .frz (ns.map .int)) (l := none) (h := some ((63 : Nat) : Int)) rfl rfl (os_ok rfl) rfl) ?_
      rw [cut_pre, List.map_take]
      rfl
end Dl
namespace Lw
open PySem PySem.Spec PyProof.Rows L2 Dl
def top (i : Nat) : Stmt := PySem.Challenge.pw_creasewrit_k54_rows_of_halves.main.body.getD i (.Pass ⟨0, 0, 0, 0⟩)
def tab_OTHERS : List (Str × Dat) := [("M", .str "V"), ("V", .str "M"), ("?", .str "?")]
def m_BadFolds (c : Nat) : Bool := [false, false, true, false].getD c false
def m_BadPlace (c : Nat) : Bool := [true, true, false, false].getD c true
def m_BadRow (c : Nat) : Bool := [false, false, false, true].getD c false
abbrev s_is_whole : Stmt := top 9
abbrev N_is_whole : List Str := ["value", "least", "most"]
def F_is_whole : DEnv → DFlow := sRet (vAnd (v1 (isiD "int") (vVar 0)) (vAnd (v1 notD (v1 (isiD "bool") (vVar 0))) (vChain leD leD (vVar 1) (vVar 0) (vVar 2))))
def D_is_whole : List Dat → Res Dat := runD 3 F_is_whole
abbrev s_two_to : Stmt := top 15
abbrev N_two_to : List Str := ["count", "found", "_turn"]
def F_two_to : DEnv → DFlow := sSeq (sAsg 1 (vC (.int 1))) (sSeq (sFor (gA range1D (aCons (vVar 0) (aNil))) (aName 2) (sAug 1 (intOp imulI) (vC (.int 2)))) (sRet (vVar 1)))
def D_two_to : List Dat → Res Dat := runD 3 F_two_to
abbrev s_check_folds : Stmt := top 16
abbrev N_check_folds : List Str := ["folds", "most", "fold"]
def F_check_folds : DEnv → DFlow := sSeq (sIf (vOrT (vNotT (vTru (v1 (isiD "tuple") (vVar 0)))) (vTest (vOp gtD (vCB lenD (aCons (vVar 0) (aNil))) (vVar 1)))) (sRaise 2) (sNop)) (sIf (vNotT (vTru (vCB allD (aCons (vL (vLc (gSeq (vVar 0)) (aName 2) [2] (tYesD) (vAnd (v1 (isiD "str") (vVar 2)) (vOp (inD false) (vVar 2) (vTup (aCons (vC (.str "over")) (aCons (vC (.str "under")) (aNil)))))))) (aNil))))) (sRaise 2) (sNop))
def D_check_folds : List Dat → Res Dat := runD 3 F_check_folds
abbrev s_are_creases : Stmt := top 17
abbrev N_are_creases : List Str := ["row", "one"]
def F_are_creases : DEnv → DFlow := sRet (vAnd (v1 (isiD "tuple") (vVar 0)) (vCB allD (aCons (vL (vLc (gSeq (vVar 0)) (aName 1) [1] (tYesD) (vAnd (v1 (isiD "str") (vVar 1)) (vOp (inD false) (vVar 1) (vTup (aCons (vC (.str "M")) (aCons (vC (.str "V")) (aNil)))))))) (aNil))))
def D_are_creases : List Dat → Res Dat := runD 2 F_are_creases
abbrev s_level_of : Stmt := top 18
abbrev N_level_of : List Str := ["number", "level"]
def F_level_of : DEnv → DFlow := sSeq (sIf (vOrT (vNotT (vTru (v1 (isiD "int") (vVar 0)))) (vOrT (vTru (v1 (isiD "bool") (vVar 0))) (vTest (vOp ltD (vVar 0) (vC (.int 1)))))) (sRaise 1) (sNop)) (sSeq (sAsg 1 (vC (.int 0))) (sSeq (sWhile 1000000 (vTest (vOp eqD (vOp modD (vVar 0) (vC (.int 2))) (vC (.int 0)))) (sSeq (sAug 0 (intOp ifdivI) (vC (.int 2))) (sAug 1 iaddD (vC (.int 1))))) (sRet (vTup (aCons (vVar 1) (aCons (vOp fdivD (vVar 0) (vC (.int 2))) (aNil)))))))
def D_level_of : List Dat → Res Dat := runD 2 F_level_of
abbrev s__crease : Stmt := top 19
abbrev N__crease : List Str := ["folds", "number", "level", "turn", "first"]
def F__crease : DEnv → DFlow := sSeq (sAsgT (aTup (asCons (aName 2) (asCons (aName 3) (asNil)))) (vCall 1 D_level_of (aCons (vVar 1) (aNil)))) (sSeq (sAsg 4 (vIf (vTest (vOp eqD (vOp ixD (vVar 0) (vOp subD (vOp subD (vCB lenD (aCons (vVar 0) (aNil))) (vC (.int 1))) (vVar 2))) (vC (.str "over")))) (vC (.str "V")) (vC (.str "M")))) (sRet (vIf (vTest (vOp eqD (vOp modD (vVar 3) (vC (.int 2))) (vC (.int 0)))) (vVar 4) (v1 (tabD tab_OTHERS) (vVar 4)))))
def D__crease : List Dat → Res Dat := runD 5 F__crease
abbrev s_halved : Stmt := top 20
abbrev N_halved : List Str := ["folds", "number"]
def F_halved : DEnv → DFlow := sSeq (sDrop (vCall 2 D_check_folds (aCons (vVar 0) (aCons (vC (.int 12)) (aNil))))) (sRet (vCB tupleD (aCons (vL (vLc (gA range2D (aCons (vC (.int 1)) (aCons (vCall 1 D_two_to (aCons (vCB lenD (aCons (vVar 0) (aNil))) (aNil))) (aNil)))) (aName 1) [1] (tYesD) (vCall 2 D__crease (aCons (vVar 0) (aCons (vVar 1) (aNil)))))) (aNil))))
def D_halved : List Dat → Res Dat := runD 2 F_halved
abbrev s_crease_at : Stmt := top 21
abbrev N_crease_at : List Str := ["folds", "number"]
def F_crease_at : DEnv → DFlow := sSeq (sDrop (vCall 2 D_check_folds (aCons (vVar 0) (aCons (vC (.int 300)) (aNil))))) (sSeq (sIf (vNotT (vTru (vCall 3 D_is_whole (aCons (vVar 1) (aCons (vC (.int 1)) (aCons (vOp subD (vCall 1 D_two_to (aCons (vCB lenD (aCons (vVar 0) (aNil))) (aNil))) (vC (.int 1))) (aNil))))))) (sRaise 1) (sNop)) (sRet (vCall 2 D__crease (aCons (vVar 0) (aCons (vVar 1) (aNil))))))
def D_crease_at : List Dat → Res Dat := runD 2 F_crease_at
abbrev s__check_row : Stmt := top 22
abbrev N__check_row : List Str := ["row", "level", "turn"]
def F__check_row : DEnv → DFlow := sSeq (sIf (vOrT (vNotT (vTru (vCall 1 D_are_creases (aCons (vVar 0) (aNil))))) (vTest (vOp geD (vCB lenD (aCons (vVar 0) (aNil))) (vCall 1 D_two_to (aCons (vC (.int 12)) (aNil)))))) (sRaise 3) (sNop)) (sSeq (sAsgT (aTup (asCons (aName 1) (asCons (aName 2) (asNil)))) (vCall 1 D_level_of (aCons (vOp addD (vCB lenD (aCons (vVar 0) (aNil))) (vC (.int 1))) (aNil)))) (sSeq (sIf (vTest (vOp gtD (vVar 2) (vC (.int 0)))) (sRaise 3) (sNop)) (sRet (vVar 1))))
def D__check_row : List Dat → Res Dat := runD 3 F__check_row
abbrev s__are_clashing : Stmt := top 23
abbrev N__are_clashing : List Str := ["row", "first", "second"]
def F__are_clashing : DEnv → DFlow := sRet (vOp neD (vOp eqD (vOp modD (vOp subD (vOp ixD (vCall 1 D_level_of (aCons (vVar 1) (aNil))) (vC (.int 1))) (vOp ixD (vCall 1 D_level_of (aCons (vVar 2) (aNil))) (vC (.int 1)))) (vC (.int 2))) (vC (.int 0))) (vOp eqD (vOp ixD (vVar 0) (vOp subD (vVar 1) (vC (.int 1)))) (vOp ixD (vVar 0) (vOp subD (vVar 2) (vC (.int 1))))))
def D__are_clashing : List Dat → Res Dat := runD 3 F__are_clashing
abbrev s_folds_of : Stmt := top 24
abbrev N_folds_of : List Str := ["row", "count", "number", "first", "firsts", "place", "crease"]
def F_folds_of : DEnv → DFlow := sSeq (sAsg 1 (vCall 1 D__check_row (aCons (vVar 0) (aNil)))) (sSeq (sFor (gA range2D (aCons (vC (.int 1)) (aCons (vOp addD (vCB lenD (aCons (vVar 0) (aNil))) (vC (.int 1))) (aNil)))) (aName 2) (sSeq (sAsg 3 (vCall 1 D_two_to (aCons (vOp ixD (vCall 1 D_level_of (aCons (vVar 2) (aNil))) (vC (.int 0))) (aNil)))) (sIf (vTru (vCall 3 D__are_clashing (aCons (vVar 0) (aCons (vVar 3) (aCons (vVar 2) (aNil)))))) (sRet (vTup (aCons (vC (.str "clash")) (aCons (vTup (aCons (vVar 3) (aCons (vVar 2) (aNil)))) (aNil))))) (sNop)))) (sSeq (sAsgO 4 (vLc (gA range2D (aCons (vC (.int 1)) (aCons (vOp addD (vVar 1) (vC (.int 1))) (aNil)))) (aName 5) [5] (tYesD) (vOp ixD (vVar 0) (vOp subD (vCall 1 D_two_to (aCons (vOp subD (vVar 1) (vVar 5)) (aNil))) (vC (.int 1)))))) (sRet (vTup (aCons (vC (.str "folds")) (aCons (vCB tupleD (aCons (vL (vLc (gSeq (vVar 4)) (aName 6) [6] (tYesD) (vIf (vTest (vOp eqD (vVar 6) (vC (.str "V")))) (vC (.str "over")) (vC (.str "under"))))) (aNil))) (aNil)))))))
def D_folds_of : List Dat → Res Dat := runD 7 F_folds_of
abbrev s_clash_fault : Stmt := top 25
abbrev N_clash_fault : List Str := ["row", "clash", "first", "second", "one"]
def F_clash_fault : DEnv → DFlow := sSeq (sDrop (vCall 1 D__check_row (aCons (vVar 0) (aNil)))) (sSeq (sIf (vOrT (vNotT (vTru (v1 (isiD "tuple") (vVar 1)))) (vOrT (vTest (vOp neD (vCB lenD (aCons (vVar 1) (aNil))) (vC (.int 2)))) (vNotT (vTru (vCB allD (aCons (vL (vLc (gSeq (vVar 1)) (aName 4) [4] (tYesD) (vCall 3 D_is_whole (aCons (vVar 4) (aCons (vC (.int 1)) (aCons (vCB lenD (aCons (vVar 0) (aNil))) (aNil))))))) (aNil))))))) (sRet (vC (.str "form"))) (sNop)) (sSeq (sAsgT (aTup (asCons (aName 2) (asCons (aName 3) (asNil)))) (vVar 1)) (sSeq (sIf (vTest (vOp geD (vVar 2) (vVar 3))) (sRet (vC (.str "form"))) (sNop)) (sSeq (sIf (vTest (vOp neD (vOp ixD (vCall 1 D_level_of (aCons (vVar 2) (aNil))) (vC (.int 0))) (vOp ixD (vCall 1 D_level_of (aCons (vVar 3) (aNil))) (vC (.int 0))))) (sRet (vC (.str "level"))) (sNop)) (sRet (vIf (vTru (vCall 3 D__are_clashing (aCons (vVar 0) (aCons (vVar 2) (aCons (vVar 3) (aNil)))))) (vC .non) (vC (.str "fits"))))))))
def D_clash_fault : List Dat → Res Dat := runD 5 F_clash_fault
abbrev s__law_draws : Stmt := top 27
abbrev N__law_draws : List Str := ["script", "many", "draws", "seed", "cell", "number", "k"]
def F__law_draws : DEnv → DFlow := sSeq (sAsgO 2 (fLst (aNil))) (sSeq (sAsg 3 (vC (.int 7))) (sSeq (sFor (gSeq (vSl (vVar 0) (oNone) (oSome (vC (.int 63))))) (aName 4) (sSeq (sAsg 5 (vCB absD (aCons (vVar 4) (aNil)))) (sSeq (sAsg 3 (vOp modD (vCB intD (aCons (vOp addD (vOp addD (vOp mulD (vVar 3) (vC (.int 48271))) (vVar 5)) (vC (.int 11))) (aNil))) (vC (.int 2147483647)))) (sIf (vTest (vOp geD (vVar 5) (vOp powD (vC (.int 10)) (vC (.int 18))))) (sFor (gA range1D (aCons (vC (.int 60)) (aNil))) (aName 6) (sIf (vTest (vOp gtD (vVar 5) (vC (.int 0)))) (sSeq (sApp 2 (vOp modD (vCB intD (aCons (vVar 5) (aNil))) (vC (.int 1009)))) (sAsg 5 (vOp fdivD (vVar 5) (vC (.int 1009))))) (sNop))) (sApp 2 (vOp modD (vOp fdivD (vCB intD (aCons (vOp addD (vOp mulD (vVar 3) (vC (.int 16807))) (vC (.int 5))) (aNil))) (vC (.int 3))) (vC (.int 65521)))))))) (sSeq (sFor (gA range1D (aCons (vVar 1) (aNil))) (aName 6) (sIf (vTest (vOp ltD (vCB lenD (aCons (vVar 2) (aNil))) (vVar 1))) (sSeq (sAsg 3 (vOp modD (vCB intD (aCons (vOp addD (vOp addD (vOp mulD (vVar 3) (vC (.int 69621))) (vVar 6)) (vC (.int 1))) (aNil))) (vC (.int 2147483647)))) (sApp 2 (vOp modD (vOp fdivD (vCB intD (aCons (vVar 3) (aNil))) (vC (.int 7))) (vC (.int 65521))))) (sNop))) (sRet (vSl (vVar 2) (oNone) (oSome (vVar 1)))))))
def D__law_draws : List Dat → Res Dat := runD 7 F__law_draws
abbrev s__law_folds : Stmt := top 28
abbrev N__law_folds : List Str := ["draws", "most", "k"]
def F__law_folds : DEnv → DFlow := sRet (vCB tupleD (aCons (vL (vLc (gA range1D (aCons (vOp modD (vCB intD (aCons (vOp ixD (vVar 0) (vC (.int 0))) (aNil))) (vOp addD (vVar 1) (vC (.int 1)))) (aNil))) (aName 2) [2] (tYesD) (vOp ixD (vL (fLst (aCons (vC (.str "over")) (aCons (vC (.str "under")) (aNil))))) (vOp modD (vOp fdivD (vCB intD (aCons (vOp ixD (vVar 0) (vOp addD (vC (.int 1)) (vVar 2))) (aNil))) (vC (.int 3))) (vC (.int 2)))))) (aNil)))
def D__law_folds : List Dat → Res Dat := runD 3 F__law_folds
abbrev s__law_row : Stmt := top 29
abbrev N__law_row : List Str := ["folds", "row", "fold", "longer", "sign", "k"]
def F__law_row : DEnv → DFlow := sSeq (sAsg 1 (vL (fLst (aNil)))) (sSeq (sFor (gSeq (vVar 0)) (aName 2) (sSeq (sParO 3 4 (fLst (aNil)) (vOp ixD (vL (fLst (aCons (vC (.str "V")) (aCons (vC (.str "M")) (aNil))))) (vCB intD (aCons (vOp eqD (vVar 2) (vC (.str "under"))) (aNil))))) (sSeq (sFor (gA range1D (aCons (vOp addD (vCB lenD (aCons (vVar 1) (aNil))) (vC (.int 1))) (aNil))) (aName 5) (sSeq (sApp 3 (vVar 4)) (sSeq (sAsg 4 (vOp ixD (vL (fLst (aCons (vC (.str "V")) (aCons (vC (.str "M")) (aNil))))) (vCB intD (aCons (vOp eqD (vVar 4) (vC (.str "V"))) (aNil))))) (sExt 3 (vSl (vVar 1) (oSome (vVar 5)) (oSome (vOp addD (vVar 5) (vC (.int 1))))))))) (sAsg 1 (vVar 3))))) (sRet (vCB tupleD (aCons (vVar 1) (aNil)))))
def D__law_row : List Dat → Res Dat := runD 6 F__law_row
abbrev s__law_level : Stmt := top 30
abbrev N__law_level : List Str := ["number", "level"]
def F__law_level : DEnv → DFlow := sSeq (sAsg 1 (vC (.int 0))) (sSeq (sWhile 1000000 (vTest (vOp eqD (vOp modD (vVar 0) (vC (.int 2))) (vC (.int 0)))) (sPar 1 0 (vOp addD (vVar 1) (vC (.int 1))) (vOp fdivD (vVar 0) (vC (.int 2))))) (sRet (vTup (aCons (vVar 1) (aCons (vOp fdivD (vVar 0) (vC (.int 2))) (aNil))))))
def D__law_level : List Dat → Res Dat := runD 2 F__law_level
abbrev s__law_crease : Stmt := top 31
abbrev N__law_crease : List Str := ["folds", "number", "level", "turn"]
def F__law_crease : DEnv → DFlow := sSeq (sAsgT (aTup (asCons (aName 2) (asCons (aName 3) (asNil)))) (vCall 1 D__law_level (aCons (vVar 1) (aNil)))) (sRet (vOp ixD (vC (.str "VM")) (vOp modD (vOp addD (vCB intD (aCons (vOp eqD (vOp ixD (vVar 0) (vOp subD (vOp subD (vCB lenD (aCons (vVar 0) (aNil))) (vC (.int 1))) (vVar 2))) (vC (.str "under"))) (aNil))) (vVar 3)) (vC (.int 2)))))
def D__law_crease : List Dat → Res Dat := runD 4 F__law_crease
abbrev s__law_due : Stmt := top 32
abbrev N__law_due : List Str := ["row", "m", "k", "one", "two"]
def F__law_due : DEnv → DFlow := sSeq (sFor (gA range2D (aCons (vC (.int 1)) (aCons (vOp addD (vCB lenD (aCons (vVar 0) (aNil))) (vC (.int 1))) (aNil)))) (aName 1) (sFor (gA range2D (aCons (vC (.int 1)) (aCons (vVar 1) (aNil)))) (aName 2) (sSeq (sPar 3 4 (vCall 1 D__law_level (aCons (vVar 2) (aNil))) (vCall 1 D__law_level (aCons (vVar 1) (aNil)))) (sIf (vAndT (vTest (vOp eqD (vOp ixD (vVar 3) (vC (.int 0))) (vOp ixD (vVar 4) (vC (.int 0))))) (vTest (vOp neD (vOp eqD (vOp modD (vOp subD (vOp ixD (vVar 3) (vC (.int 1))) (vOp ixD (vVar 4) (vC (.int 1)))) (vC (.int 2))) (vC (.int 0))) (vOp eqD (vOp ixD (vVar 0) (vOp subD (vVar 2) (vC (.int 1)))) (vOp ixD (vVar 0) (vOp subD (vVar 1) (vC (.int 1)))))))) (sRet (vTup (aCons (vVar 2) (aCons (vVar 1) (aNil))))) (sNop))))) (sRet (vC .non))
def D__law_due : List Dat → Res Dat := runD 5 F__law_due
abbrev s__law_clash : Stmt := top 33
abbrev N__law_clash : List Str := ["row", "clash", "one", "two"]
def F__law_clash : DEnv → DFlow := sSeq (sIf (vOrT (vNotT (vTru (v1 (isiD "tuple") (vVar 1)))) (vTest (vOp neD (vCB lenD (aCons (vVar 1) (aNil))) (vC (.int 2))))) (sRet (vC (.str "form"))) (sNop)) (sSeq (sIf (vOrT (vNotT (vTru (vCB allD (aCons (vL (vLc (gSeq (vVar 1)) (aName 2) [2] (tYesD) (vAnd (v1 (isiD "int") (vVar 2)) (vAnd (v1 notD (v1 (isiD "bool") (vVar 2))) (vChain leD leD (vC (.int 1)) (vVar 2) (vCB lenD (aCons (vVar 0) (aNil)))))))) (aNil))))) (vTest (vOp geD (vOp ixD (vVar 1) (vC (.int 0))) (vOp ixD (vVar 1) (vC (.int 1)))))) (sRet (vC (.str "form"))) (sNop)) (sSeq (sPar 2 3 (vCall 1 D__law_level (aCons (vOp ixD (vVar 1) (vC (.int 0))) (aNil))) (vCall 1 D__law_level (aCons (vOp ixD (vVar 1) (vC (.int 1))) (aNil)))) (sSeq (sIf (vTest (vOp neD (vOp ixD (vVar 2) (vC (.int 0))) (vOp ixD (vVar 3) (vC (.int 0))))) (sRet (vC (.str "level"))) (sNop)) (sRet (vIf (vTest (vOp neD (vOp eqD (vOp modD (vOp subD (vOp ixD (vVar 2) (vC (.int 1))) (vOp ixD (vVar 3) (vC (.int 1)))) (vC (.int 2))) (vC (.int 0))) (vOp eqD (vOp ixD (vVar 0) (vOp subD (vOp ixD (vVar 1) (vC (.int 0))) (vC (.int 1)))) (vOp ixD (vVar 0) (vOp subD (vOp ixD (vVar 1) (vC (.int 1))) (vC (.int 1))))))) (vC .non) (vC (.str "fits")))))))
def D__law_clash : List Dat → Res Dat := runD 4 F__law_clash
abbrev s__law_error : Stmt := top 34
abbrev N__law_error : List Str := ["call", "one", "two"]
def F__law_error : DEnv → DFlow := sSeq (sTryM (sIf (vTest (vOp eqD (vVar 0) (vC (.int 0)))) (sDrop (vCall 1 D_halved (aCons (vVar 1) (aNil)))) (sIf (vTest (vOp eqD (vVar 0) (vC (.int 1)))) (sDrop (vCall 2 D_crease_at (aCons (vVar 1) (aCons (vVar 2) (aNil))))) (sIf (vTest (vOp eqD (vVar 0) (vC (.int 2)))) (sDrop (vCall 1 D_level_of (aCons (vVar 1) (aNil)))) (sIf (vTest (vOp eqD (vVar 0) (vC (.int 3)))) (sDrop (vCall 1 D_folds_of (aCons (vVar 1) (aNil)))) (sDrop (vCall 2 D_clash_fault (aCons (vVar 1) (aCons (vVar 2) (aNil))))))))) [(m_BadFolds, sRet (vC (.str "folds"))), (m_BadPlace, sRet (vC (.str "place"))), (m_BadRow, sRet (vC (.str "row")))]) (sRet (vC (.str "none")))
def D__law_error : List Dat → Res Dat := runD 3 F__law_error
abbrev s__law_are_great : Stmt := top 35
abbrev N__law_are_great : List Str := ["draws", "folds", "top", "fold", "k", "number"]
def F__law_are_great : DEnv → DFlow := sSeq (sAsg 1 (vCB tupleD (aCons (vL (vLc (gA range1D (aCons (vOp addD (vC (.int 1)) (vOp modD (vCB intD (aCons (vOp ixD (vVar 0) (vC (.int 40))) (aNil))) (vC (.int 300)))) (aNil))) (aName 4) [4] (tYesD) (vOp ixD (vL (fLst (aCons (vC (.str "over")) (aCons (vC (.str "under")) (aNil))))) (vOp modD (vOp fdivD (vCB intD (aCons (vOp ixD (vVar 0) (vOp modD (vVar 4) (vC (.int 40)))) (aNil))) (vOp addD (vC (.int 1)) (vOp fdivD (vVar 4) (vC (.int 40))))) (vC (.int 2)))))) (aNil)))) (sSeq (sAsg 2 (vC (.int 1))) (sSeq (sFor (gSeq (vVar 1)) (aName 3) (sAsg 2 (vOp mulD (vVar 2) (vC (.int 2))))) (sSeq (sFor (gA range1D (aCons (vC (.int 4)) (aNil))) (aName 4) (sSeq (sAsg 5 (vC (.int 1))) (sSeq (sIf (vTest (vOp gtD (vVar 2) (vC (.int 2)))) (sAsg 5 (vOp addD (vC (.int 1)) (vOp modD (vOp mulD (vOp addD (vOp mulD (vOp mulD (vCB intD (aCons (vOp ixD (vVar 0) (vOp addD (vC (.int 41)) (vVar 4))) (aNil))) (vC (.int 65521))) (vC (.int 65521))) (vCB intD (aCons (vOp ixD (vVar 0) (vOp addD (vC (.int 46)) (vVar 4))) (aNil)))) (vOp ixD (vL (fLst (aCons (vC (.int 1)) (aCons (vOp addD (vOp fdivD (vVar 2) (vC (.int 65536))) (vC (.int 1))) (aCons (vOp fdivD (vVar 2) (vC (.int 2))) (aNil)))))) (vOp modD (vVar 4) (vC (.int 3))))) (vOp subD (vVar 2) (vC (.int 1)))))) (sNop)) (sIf (vOrT (vTest (vOp neD (vCall 2 D_crease_at (aCons (vVar 1) (aCons (vVar 5) (aNil)))) (vCall 2 D__law_crease (aCons (vVar 1) (aCons (vVar 5) (aNil)))))) (vTest (vOp neD (vCall 1 D_level_of (aCons (vVar 5) (aNil))) (vCall 1 D__law_level (aCons (vVar 5) (aNil)))))) (sRet (vC (.bl false))) (sNop))))) (sRet (vAnd (vOp eqD (vCall 2 D_crease_at (aCons (vVar 1) (aCons (vOp fdivD (vVar 2) (vC (.int 2))) (aNil)))) (vOp ixD (vL (fLst (aCons (vC (.str "V")) (aCons (vC (.str "M")) (aNil))))) (vCB intD (aCons (vOp eqD (vOp ixD (vVar 1) (vC (.int 0))) (vC (.str "under"))) (aNil))))) (vOp eqD (vCall 3 D__law_error (aCons (vC (.int 1)) (aCons (vVar 1) (aCons (vVar 2) (aNil))))) (vC (.str "place"))))))))
def D__law_are_great : List Dat → Res Dat := runD 6 F__law_are_great
abbrev s_law : Stmt := top 36
abbrev N_law : List Str := ["script", "draws", "folds", "row", "turn", "at", "due", "told", "pairs", "k", "wrong", "pair"]
def F_law : DEnv → DFlow := sSeq (sAsg 1 (vCall 2 D__law_draws (aCons (vVar 0) (aCons (vC (.int 60)) (aNil))))) (sSeq (sAsg 2 (vCall 2 D__law_folds (aCons (vVar 1) (aCons (vC (.int 6)) (aNil))))) (sSeq (sAsg 3 (vCall 1 D__law_row (aCons (vVar 2) (aNil)))) (sSeq (sIf (vOrT (vTest (vOp neD (vCall 1 D_halved (aCons (vVar 2) (aNil))) (vVar 3))) (vTest (vOp neD (vL (vLc (gA range2D (aCons (vC (.int 1)) (aCons (vOp addD (vCB lenD (aCons (vVar 3) (aNil))) (vC (.int 1))) (aNil)))) (aName 9) [9] (tYesD) (vCall 2 D_crease_at (aCons (vVar 2) (aCons (vVar 9) (aNil)))))) (vCB listD (aCons (vVar 3) (aNil)))))) (sRet (vC (.bl false))) (sNop)) (sSeq (sFor (gA range1D (aCons (vOp modD (vCB intD (aCons (vOp ixD (vVar 1) (vC (.int 20))) (aNil))) (vC (.int 3))) (aNil))) (aName 4) (sIf (vTest (vOp gtD (vCB lenD (aCons (vVar 3) (aNil))) (vC (.int 0)))) (sSeq (sAsg 5 (vOp modD (vCB intD (aCons (vOp ixD (vVar 1) (vOp addD (vC (.int 21)) (vVar 4))) (aNil))) (vCB lenD (aCons (vVar 3) (aNil))))) (sAsg 3 (vOp addD (vOp addD (vSl (vVar 3) (oNone) (oSome (vVar 5))) (vTup (aCons (vOp ixD (vC (.str "VM")) (vM1 sindexD (vC (.str "MV")) (vOp ixD (vVar 3) (vVar 5)))) (aNil)))) (vSl (vVar 3) (oSome (vOp addD (vVar 5) (vC (.int 1)))) (oNone))))) (sNop))) (sSeq (sIf (vTest (vOp eqD (vOp modD (vCB intD (aCons (vOp ixD (vVar 1) (vC (.int 24))) (aNil))) (vC (.int 4))) (vC (.int 0)))) (sAsg 3 (vCB tupleD (aCons (vL (vLc (gA range1D (aCons (vCB lenD (aCons (vVar 3) (aNil))) (aNil))) (aName 9) [9] (tYesD) (vOp ixD (vC (.str "MV")) (vOp modD (vOp fdivD (vCB intD (aCons (vOp ixD (vVar 1) (vOp addD (vC (.int 25)) (vOp modD (vVar 9) (vC (.int 9))))) (aNil))) (vOp addD (vC (.int 1)) (vOp fdivD (vVar 9) (vC (.int 9))))) (vC (.int 2)))))) (aNil)))) (sNop)) (sSeq (sPar 6 7 (vCall 1 D__law_due (aCons (vVar 3) (aNil))) (vCall 1 D_folds_of (aCons (vVar 3) (aNil)))) (sSeq (sIf (vOrT (vAndT (vTest (vOp isND (vVar 6) (vC .non))) (vOrT (vTest (vOp neD (vOp ixD (vVar 7) (vC (.int 0))) (vC (.str "folds")))) (vTest (vOp neD (vCall 1 D__law_row (aCons (vOp ixD (vVar 7) (vC (.int 1))) (aNil))) (vVar 3))))) (vAndT (vTest (vOp notND (vVar 6) (vC .non))) (vTest (vOp neD (vVar 7) (vTup (aCons (vC (.str "clash")) (aCons (vVar 6) (aNil)))))))) (sRet (vC (.bl false))) (sNop)) (sSeq (sAsgO 8 (vIfF (vTest (vOp notND (vVar 6) (vC .non))) (fLst (aCons (vOp ixD (vVar 7) (vC (.int 1))) (aNil))) (fLst (aNil)))) (sSeq (sFor (gA range1D (aCons (vC (.int 8)) (aNil))) (aName 9) (sApp 8 (vTup (aCons (vOp modD (vCB intD (aCons (vOp ixD (vVar 1) (vOp addD (vC (.int 35)) (vVar 9))) (aNil))) (vOp addD (vCB lenD (aCons (vVar 3) (aNil))) (vC (.int 2)))) (aCons (vOp modD (vCB intD (aCons (vOp ixD (vVar 1) (vOp addD (vC (.int 44)) (vVar 9))) (aNil))) (vOp addD (vCB lenD (aCons (vVar 3) (aNil))) (vC (.int 2)))) (aNil)))))) (sSeq (sIf (vNotT (vTru (vCB allD (aCons (vL (vLc (gSeq (vOp addD (vVar 8) (vL (fLst (aCons (vC .non) (aCons (vTup (aCons (vC (.int 1)) (aNil))) (aCons (vL (fLst (aCons (vC (.int 1)) (aCons (vC (.int 3)) (aNil))))) (aCons (vTup (aCons (vC (.bl true)) (aCons (vC (.int 3)) (aNil)))) (aCons (vTup (aCons (vC (.int 1)) (aCons (vC (.int 2)) (aCons (vC (.int 3)) (aNil))))) (aCons (vTup (aCons (vC (.str "1")) (aCons (vC (.int 3)) (aNil)))) (aNil))))))))))) (aName 11) [11] (tYesD) (vOp eqD (vCall 2 D_clash_fault (aCons (vVar 3) (aCons (vVar 11) (aNil)))) (vCall 2 D__law_clash (aCons (vVar 3) (aCons (vVar 11) (aNil))))))) (aNil))))) (sRet (vC (.bl false))) (sNop)) (sSeq (sFor (gSeq (vTup (aCons (vC .non) (aCons (vL (fLst (aCons (vC (.str "over")) (aNil)))) (aCons (vTup (aCons (vC (.str "Over")) (aNil))) (aCons (vTup (aCons (vC (.str "over")) (aCons (vC (.int 1)) (aNil)))) (aNil))))))) (aName 10) (sIf (vOrT (vTest (vOp neD (vCall 3 D__law_error (aCons (vC (.int 0)) (aCons (vVar 10) (aCons (vC (.int 0)) (aNil))))) (vC (.str "folds")))) (vTest (vOp neD (vCall 3 D__law_error (aCons (vC (.int 1)) (aCons (vVar 10) (aCons (vC .non) (aNil))))) (vC (.str "folds"))))) (sRet (vC (.bl false))) (sNop))) (sSeq (sIf (vOrT (vTest (vOp neD (vCall 3 D__law_error (aCons (vC (.int 0)) (aCons (vOp mulD (vTup (aCons (vC (.str "over")) (aNil))) (vC (.int 13))) (aCons (vC (.int 0)) (aNil))))) (vC (.str "folds")))) (vTest (vOp neD (vCall 3 D__law_error (aCons (vC (.int 1)) (aCons (vOp mulD (vTup (aCons (vC (.str "over")) (aNil))) (vC (.int 301))) (aCons (vC (.int 1)) (aNil))))) (vC (.str "folds"))))) (sRet (vC (.bl false))) (sNop)) (sSeq (sIf (vTest (vOp neD (vL (vLc (gSeq (vTup (aCons (vC (.int 0)) (aCons (v1 negD (vC (.int 2))) (aCons (vC (.bl true)) (aCons (vC .non) (aCons (vC (.str "1")) (aNil)))))))) (aName 10) [10] (tYesD) (vCall 3 D__law_error (aCons (vC (.int 2)) (aCons (vVar 10) (aCons (vC (.int 0)) (aNil))))))) (vOp mulD (vL (fLst (aCons (vC (.str "place")) (aNil)))) (vC (.int 5))))) (sRet (vC (.bl false))) (sNop)) (sSeq (sIf (vTest (vOp neD (vL (vLc (gSeq (vTup (aCons (vC (.int 0)) (aCons (vC (.int 8)) (aCons (vC (.bl true)) (aCons (vC .non) (aNil))))))) (aName 10) [10] (tYesD) (vCall 3 D__law_error (aCons (vC (.int 1)) (aCons (vOp mulD (vTup (aCons (vC (.str "over")) (aNil))) (vC (.int 3))) (aCons (vVar 10) (aNil))))))) (vOp mulD (vL (fLst (aCons (vC (.str "place")) (aNil)))) (vC (.int 4))))) (sRet (vC (.bl false))) (sNop)) (sSeq (sFor (gSeq (vTup (aCons (vC .non) (aCons (vTup (aCons (vC (.str "V")) (aCons (vC (.str "V")) (aNil)))) (aCons (vL (fLst (aCons (vC (.str "V")) (aNil)))) (aCons (vTup (aCons (vC (.str "v")) (aNil))) (aCons (vTup (aCons (vC (.str "V")) (aCons (vC (.str "M")) (aCons (vC .non) (aNil))))) (aCons (vTup (aCons (vC (.str "?")) (aNil))) (aCons (vC (.str "V")) (aNil)))))))))) (aName 10) (sIf (vOrT (vTest (vOp neD (vCall 3 D__law_error (aCons (vC (.int 3)) (aCons (vVar 10) (aCons (vC (.int 0)) (aNil))))) (vC (.str "row")))) (vTest (vOp neD (vCall 3 D__law_error (aCons (vC (.int 4)) (aCons (vVar 10) (aCons (vTup (aCons (vC (.int 1)) (aCons (vC (.int 2)) (aNil)))) (aNil))))) (vC (.str "row"))))) (sRet (vC (.bl false))) (sNop))) (sRet (vAnd (vOp eqD (vCall 1 D_folds_of (aCons (vTup (aNil)) (aNil))) (vTup (aCons (vC (.str "folds")) (aCons (vTup (aNil)) (aNil))))) (vCall 1 D__law_are_great (aCons (vVar 1) (aNil))))))))))))))))))))
def D_law : List Dat → Res Dat := runD 12 F_law
end Lw
namespace Lw
open PySem PySem.Spec PyProof.Rows L2 Dl
structure Txt (K : PySem.W.Frag) (mg : Str → Option Value) (T : CT) (w : World) : Prop where
  b_abs : mg "abs" = none
  b_all : mg "all" = none
  b_bool : mg "bool" = none
  b_int : mg "int" = none
  b_isinstance : mg "isinstance" = none
  b_len : mg "len" = none
  b_list : mg "list" = none
  b_range : mg "range" = none
  b_str : mg "str" = none
  b_tuple : mg "tuple" = none
  g_MOUNTAIN : GC K T mg "MOUNTAIN" (.str "M")
  g_VALLEY : GC K T mg "VALLEY" (.str "V")
  g_OVER : GC K T mg "OVER" (.str "over")
  g_UNDER : GC K T mg "UNDER" (.str "under")
  g_MOST_FOLDS : GC K T mg "MOST_FOLDS" (.int 300)
  g_MOST_WHOLE : GC K T mg "MOST_WHOLE" (.int 12)
  t_OTHERS : GD K T w mg "OTHERS" tab_OTHERS
  e_BadPlace : ExD K T mg 1 "BadPlace"
  e_BadFolds : ExD K T mg 2 "BadFolds"
  e_BadRow : ExD K T mg 3 "BadRow"
  n_BadFolds : mg "BadFolds" = some (T.exc 2)
  x_BadFolds : ∀ c, PySem.W.exmOne K (T.exc c) (T.exc 2) = some (m_BadFolds c)
  n_BadPlace : mg "BadPlace" = some (T.exc 1)
  x_BadPlace : ∀ c, PySem.W.exmOne K (T.exc c) (T.exc 1) = some (m_BadPlace c)
  n_BadRow : mg "BadRow" = some (T.exc 3)
  x_BadRow : ∀ c, PySem.W.exmOne K (T.exc c) (T.exc 3) = some (m_BadRow c)
section
variable {P : Program} {w : World} {K : PySem.W.Frag} {mg : Str → Option Value} {base : Heap} {T : CT}
theorem sc_is_whole : FnScope N_is_whole ["value", "least", "most"] (defScope s_is_whole) := ⟨rfl, rfl, rfl, by decide +kernel, rfl, by decide +kernel, by decide +kernel⟩
theorem ok_is_whole (tx : Txt K mg T w) {f : Addr} {fd : FuncData} (Fu : Fun K "is_whole" "is_whole" s_is_whole f fd) : FnOk P w K mg base (L2.CX P w) 1 f fd ["value", "least", "most"] (spD K T 3 D_is_whole) :=
  fn_D (ow' := []) Fu sc_is_whole rfl fun cdv A outer s H E hr => by
    have tk : Takes (cxOf (L2.CX P w) P w K mg base N_is_whole "is_whole" (defScope s_is_whole) f cdv A outer s H E) (fun cls d _ H => E cls d H) := takes_of rfl rfl rfl rfl
    have hpo := passes_of (X := cxOf (L2.CX P w) P w K mg base N_is_whole "is_whole" (defScope s_is_whole) f cdv A outer s H E) rfl
    exact dss_one (ds_ret (de_and (de_isi kit_int tx.b_isinstance tx.b_int (by decide +kernel) (de_var 0)) (de_and (de_not (de_isi kit_bool tx.b_isinstance tx.b_bool (by decide +kernel) (de_var 0))) (de_one (de_chain op_le rd_cmp op_le rd_cmp (de_var 1) (de_var 0) (de_var 2))))))
theorem sc_two_to : FnScope N_two_to ["count"] (defScope s_two_to) := ⟨rfl, rfl, rfl, by decide +kernel, rfl, by decide +kernel, by decide +kernel⟩
theorem ok_two_to (tx : Txt K mg T w) {f : Addr} {fd : FuncData} (Fu : Fun K "two_to" "two_to" s_two_to f fd) : FnOk P w K mg base (L2.CX P w) 1 f fd ["count"] (spD K T 1 D_two_to) :=
  fn_D (ow' := []) Fu sc_two_to rfl fun cdv A outer s H E hr => by
    have tk : Takes (cxOf (L2.CX P w) P w K mg base N_two_to "two_to" (defScope s_two_to) f cdv A outer s H E) (fun cls d _ H => E cls d H) := takes_of rfl rfl rfl rfl
    have hpo := passes_of (X := cxOf (L2.CX P w) P w K mg base N_two_to "two_to" (defScope s_two_to) f cdv A outer s H E) rfl
    exact dss_cons (ds_asg (i := 1) (ow' := []) sc_two_to.nd (de_int) (by decide) (by decide)) (dss_cons (ds_for hpo rfl (di_range1 tx.b_range (da_cons (de_var 0) (da_nil))) (dg_name (i := 2) sc_two_to.nd) (by decide) aName_same (dss_one (ds_aug (i := 1) sc_two_to.nd iop_mul rd_imul (de_int)))) (dss_one (ds_ret (de_var 1))))
theorem sc_check_folds : FnScope N_check_folds ["folds", "most"] (defScope s_check_folds) := ⟨rfl, rfl, rfl, by decide +kernel, rfl, by decide +kernel, by decide +kernel⟩
theorem ok_check_folds (tx : Txt K mg T w) {f : Addr} {fd : FuncData} (Fu : Fun K "check_folds" "check_folds" s_check_folds f fd) : FnOk P w K mg base (L2.CX P w) 1 f fd ["folds", "most"] (spD K T 2 D_check_folds) :=
  fn_D (ow' := []) Fu sc_check_folds rfl fun cdv A outer s H E hr => by
    have tk : Takes (cxOf (L2.CX P w) P w K mg base N_check_folds "check_folds" (defScope s_check_folds) f cdv A outer s H E) (fun cls d _ H => E cls d H) := takes_of rfl rfl rfl rfl
    have hpo := passes_of (X := cxOf (L2.CX P w) P w K mg base N_check_folds "check_folds" (defScope s_check_folds) f cdv A outer s H E) rfl
    exact dss_cons (ds_if (DW.dt (dw_or (dt_not (dt_truth (de_isi kit_tuple tx.b_isinstance tx.b_tuple (by decide +kernel) (de_var 0)))) (dw_or1 (dt_cmp op_gt rd_cmp (de_callB call_len rc_len tx.b_len (by decide +kernel) (da_cons (de_var 0) (da_nil))) (de_var 1) (nomark _))))) (dss_one (ds_raise tx.e_BadFolds rfl tk)) (dss_nil)) (dss_one (ds_if (dt_not (dt_truth (de_callB (cr_all rfl) rc_all tx.b_all (by decide +kernel) (da_cons (de_f (df_lc (own := [("fold", 2)]) rfl sc_check_folds.nd (di_seq (de_var 0)) (blkOk_by (own := [("fold", 2)]) (N := N_check_folds) (sc := defScope s_check_folds) (by decide +kernel)) (by decide) (fun _ _ _ _ _ => dg_name (i := 2) sc_check_folds.nd) (fun _ _ _ _ _ => dts_nil) (fun _ _ _ _ _ => de_and (de_isi kit_str tx.b_isinstance tx.b_str (by decide +kernel) (de_var 2)) (de_one (de_cmp (op_inAll (hu65 hr)) rd_in (de_var 2) (de_tup (da_cons (de_glob tx.g_OVER) (da_cons (de_glob tx.g_UNDER) (da_nil)))) (by rfl)))))) (da_nil))))) (dss_one (ds_raise tx.e_BadFolds rfl tk)) (dss_nil)))
theorem sc_are_creases : FnScope N_are_creases ["row"] (defScope s_are_creases) := ⟨rfl, rfl, rfl, by decide +kernel, rfl, by decide +kernel, by decide +kernel⟩
theorem ok_are_creases (tx : Txt K mg T w) {f : Addr} {fd : FuncData} (Fu : Fun K "are_creases" "are_creases" s_are_creases f fd) : FnOk P w K mg base (L2.CX P w) 1 f fd ["row"] (spD K T 1 D_are_creases) :=
  fn_D (ow' := []) Fu sc_are_creases rfl fun cdv A outer s H E hr => by
    have tk : Takes (cxOf (L2.CX P w) P w K mg base N_are_creases "are_creases" (defScope s_are_creases) f cdv A outer s H E) (fun cls d _ H => E cls d H) := takes_of rfl rfl rfl rfl
    have hpo := passes_of (X := cxOf (L2.CX P w) P w K mg base N_are_creases "are_creases" (defScope s_are_creases) f cdv A outer s H E) rfl
    exact dss_one (ds_ret (de_and (de_isi kit_tuple tx.b_isinstance tx.b_tuple (by decide +kernel) (de_var 0)) (de_one (de_callB (cr_all rfl) rc_all tx.b_all (by decide +kernel) (da_cons (de_f (df_lc (own := [("one", 1)]) rfl sc_are_creases.nd (di_seq (de_var 0)) (blkOk_by (own := [("one", 1)]) (N := N_are_creases) (sc := defScope s_are_creases) (by decide +kernel)) (by decide) (fun _ _ _ _ _ => dg_name (i := 1) sc_are_creases.nd) (fun _ _ _ _ _ => dts_nil) (fun _ _ _ _ _ => de_and (de_isi kit_str tx.b_isinstance tx.b_str (by decide +kernel) (de_var 1)) (de_one (de_cmp (op_inAll (hu65 hr)) rd_in (de_var 1) (de_tup (da_cons (de_glob tx.g_MOUNTAIN) (da_cons (de_glob tx.g_VALLEY) (da_nil)))) (by rfl)))))) (da_nil))))))
theorem sc_level_of : FnScope N_level_of ["number"] (defScope s_level_of) := ⟨rfl, rfl, rfl, by decide +kernel, rfl, by decide +kernel, by decide +kernel⟩
theorem ok_level_of (tx : Txt K mg T w) {f : Addr} {fd : FuncData} (Fu : Fun K "level_of" "level_of" s_level_of f fd) : FnOk P w K mg base (L2.CX P w) 1 f fd ["number"] (spD K T 1 D_level_of) :=
  fn_D (ow' := []) Fu sc_level_of rfl fun cdv A outer s H E hr => by
    have tk : Takes (cxOf (L2.CX P w) P w K mg base N_level_of "level_of" (defScope s_level_of) f cdv A outer s H E) (fun cls d _ H => E cls d H) := takes_of rfl rfl rfl rfl
    have hpo := passes_of (X := cxOf (L2.CX P w) P w K mg base N_level_of "level_of" (defScope s_level_of) f cdv A outer s H E) rfl
    exact dss_cons (ds_if (DW.dt (dw_or (dt_not (dt_truth (de_isi kit_int tx.b_isinstance tx.b_int (by decide +kernel) (de_var 0)))) (dw_or (dt_truth (de_isi kit_bool tx.b_isinstance tx.b_bool (by decide +kernel) (de_var 0))) (dw_or1 (dt_cmp op_lt rd_cmp (de_var 0) (de_int) (nomark _)))))) (dss_one (ds_raise tx.e_BadPlace rfl tk)) (dss_nil)) (dss_cons (ds_asg (i := 1) (ow' := []) sc_level_of.nd (de_int) (by decide) (by decide)) (dss_cons (ds_while 1000000 hpo (dt_cmp (op_eqD (hu64 hr)) rd_eq (de_op op_modAll rd_mod (de_var 0) (de_int)) (de_int) (nomark _)) (dss_cons (ds_aug (i := 0) sc_level_of.nd iop_fdivW rd_ifdiv (de_int)) (dss_one (ds_aug (i := 1) sc_level_of.nd iop_addAll rd_iadd (de_int))))) (dss_one (ds_ret (de_tup (da_cons (de_var 1) (da_cons (de_op op_fdivAll rd_fdiv (de_var 0) (de_int)) (da_nil))))))))
theorem sc__crease : FnScope N__crease ["folds", "number"] (defScope s__crease) := ⟨rfl, rfl, rfl, by decide +kernel, rfl, by decide +kernel, by decide +kernel⟩
theorem ok__crease (tx : Txt K mg T w) (c_level_of : FnD P w K mg base T 1 "level_of" 1 D_level_of) {f : Addr} {fd : FuncData} (Fu : Fun K "_crease" "_crease" s__crease f fd) : FnOk P w K mg base (L2.CX P w) 2 f fd ["folds", "number"] (spD K T 2 D__crease) :=
  fn_D (ow' := []) Fu sc__crease rfl fun cdv A outer s H E hr => by
    have tk : Takes (cxOf (L2.CX P w) P w K mg base N__crease "_crease" (defScope s__crease) f cdv A outer s H E) (fun cls d _ H => E cls d H) := takes_of rfl rfl rfl rfl
    have hpo := passes_of (X := cxOf (L2.CX P w) P w K mg base N__crease "_crease" (defScope s__crease) f cdv A outer s H E) rfl
    exact dss_cons (ds_asgT (ow' := []) (de_call c_level_of hr (by decide) (passAt tk) (da_cons (de_var 1) (da_nil))) (dg_tup rfl (dgs_cons (dg_name (i := 2) sc__crease.nd) (dgs_cons (dg_name (i := 3) sc__crease.nd) (dgs_nil))) (asCons_len (asCons_len (fun _ _ _ h => asNil_len h)))) (by decide) (by decide) (aTup_same (asCons_same (aName_same) (asCons_same (aName_same) (asNil_same))))) (dss_cons (ds_asg (i := 4) (ow' := []) sc__crease.nd (de_if (dt_cmp (op_eqD (hu64 hr)) rd_eq (de_ix (de_var 0) (de_op op_sub rd_sub (de_op op_sub rd_sub (de_callB call_len rc_len tx.b_len (by decide +kernel) (da_cons (de_var 0) (da_nil))) (de_int)) (de_var 2))) (de_glob tx.g_OVER) (nomark _)) (de_glob tx.g_VALLEY) (de_glob tx.g_MOUNTAIN)) (by decide) (by decide)) (dss_one (ds_ret (de_if (dt_cmp (op_eqD (hu64 hr)) rd_eq (de_op op_modAll rd_mod (de_var 3) (de_int)) (de_int) (nomark _)) (de_var 4) (de_tab tx.t_OTHERS (de_var 4))))))
theorem sc_halved : FnScope N_halved ["folds"] (defScope s_halved) := ⟨rfl, rfl, rfl, by decide +kernel, rfl, by decide +kernel, by decide +kernel⟩
theorem ok_halved (tx : Txt K mg T w) (c__crease : FnD P w K mg base T 2 "_crease" 2 D__crease) (c_check_folds : FnD P w K mg base T 1 "check_folds" 2 D_check_folds) (c_two_to : FnD P w K mg base T 1 "two_to" 1 D_two_to) {f : Addr} {fd : FuncData} (Fu : Fun K "halved" "halved" s_halved f fd) : FnOk P w K mg base (L2.CX P w) 3 f fd ["folds"] (spD K T 1 D_halved) :=
  fn_D (ow' := []) Fu sc_halved rfl fun cdv A outer s H E hr => by
    have tk : Takes (cxOf (L2.CX P w) P w K mg base N_halved "halved" (defScope s_halved) f cdv A outer s H E) (fun cls d _ H => E cls d H) := takes_of rfl rfl rfl rfl
    have hpo := passes_of (X := cxOf (L2.CX P w) P w K mg base N_halved "halved" (defScope s_halved) f cdv A outer s H E) rfl
    exact dss_cons (ds_drop (de_call c_check_folds hr (by decide) (passAt tk) (da_cons (de_var 0) (da_cons (de_glob tx.g_MOST_WHOLE) (da_nil))))) (dss_one (ds_ret (de_callTy call_tuple_of rc_tuple tx.b_tuple (by decide +kernel) (da_cons (de_f (df_lc (own := [("number", 1)]) rfl sc_halved.nd (di_range2 tx.b_range (da_cons (de_int) (da_cons (de_call c_two_to hr (by decide) (passAt tk) (da_cons (de_callB call_len rc_len tx.b_len (by decide +kernel) (da_cons (de_var 0) (da_nil))) (da_nil))) (da_nil)))) (blkOk_by (own := [("number", 1)]) (N := N_halved) (sc := defScope s_halved) (by decide +kernel)) (by decide) (fun _ _ _ _ _ => dg_name (i := 1) sc_halved.nd) (fun _ _ _ _ _ => dts_nil) (fun _ _ _ _ _ => de_call c__crease hr (by decide) passNo (da_cons (de_var 0) (da_cons (de_var 1) (da_nil)))))) (da_nil)))))
theorem sc_crease_at : FnScope N_crease_at ["folds", "number"] (defScope s_crease_at) := ⟨rfl, rfl, rfl, by decide +kernel, rfl, by decide +kernel, by decide +kernel⟩
theorem ok_crease_at (tx : Txt K mg T w) (c__crease : FnD P w K mg base T 2 "_crease" 2 D__crease) (c_check_folds : FnD P w K mg base T 1 "check_folds" 2 D_check_folds) (c_is_whole : FnD P w K mg base T 1 "is_whole" 3 D_is_whole) (c_two_to : FnD P w K mg base T 1 "two_to" 1 D_two_to) {f : Addr} {fd : FuncData} (Fu : Fun K "crease_at" "crease_at" s_crease_at f fd) : FnOk P w K mg base (L2.CX P w) 3 f fd ["folds", "number"] (spD K T 2 D_crease_at) :=
  fn_D (ow' := []) Fu sc_crease_at rfl fun cdv A outer s H E hr => by
    have tk : Takes (cxOf (L2.CX P w) P w K mg base N_crease_at "crease_at" (defScope s_crease_at) f cdv A outer s H E) (fun cls d _ H => E cls d H) := takes_of rfl rfl rfl rfl
    have hpo := passes_of (X := cxOf (L2.CX P w) P w K mg base N_crease_at "crease_at" (defScope s_crease_at) f cdv A outer s H E) rfl
    exact dss_cons (ds_drop (de_call c_check_folds hr (by decide) (passAt tk) (da_cons (de_var 0) (da_cons (de_glob tx.g_MOST_FOLDS) (da_nil))))) (dss_cons (ds_if (dt_not (dt_truth (de_call c_is_whole hr (by decide) (passAt tk) (da_cons (de_var 1) (da_cons (de_int) (da_cons (de_op op_sub rd_sub (de_call c_two_to hr (by decide) (passAt tk) (da_cons (de_callB call_len rc_len tx.b_len (by decide +kernel) (da_cons (de_var 0) (da_nil))) (da_nil))) (de_int)) (da_nil))))))) (dss_one (ds_raise tx.e_BadPlace rfl tk)) (dss_nil)) (dss_one (ds_ret (de_call c__crease hr (by decide) (passAt tk) (da_cons (de_var 0) (da_cons (de_var 1) (da_nil)))))))
theorem sc__check_row : FnScope N__check_row ["row"] (defScope s__check_row) := ⟨rfl, rfl, rfl, by decide +kernel, rfl, by decide +kernel, by decide +kernel⟩
theorem ok__check_row (tx : Txt K mg T w) (c_are_creases : FnD P w K mg base T 1 "are_creases" 1 D_are_creases) (c_level_of : FnD P w K mg base T 1 "level_of" 1 D_level_of) (c_two_to : FnD P w K mg base T 1 "two_to" 1 D_two_to) {f : Addr} {fd : FuncData} (Fu : Fun K "_check_row" "_check_row" s__check_row f fd) : FnOk P w K mg base (L2.CX P w) 2 f fd ["row"] (spD K T 1 D__check_row) :=
  fn_D (ow' := []) Fu sc__check_row rfl fun cdv A outer s H E hr => by
    have tk : Takes (cxOf (L2.CX P w) P w K mg base N__check_row "_check_row" (defScope s__check_row) f cdv A outer s H E) (fun cls d _ H => E cls d H) := takes_of rfl rfl rfl rfl
    have hpo := passes_of (X := cxOf (L2.CX P w) P w K mg base N__check_row "_check_row" (defScope s__check_row) f cdv A outer s H E) rfl
    exact dss_cons (ds_if (DW.dt (dw_or (dt_not (dt_truth (de_call c_are_creases hr (by decide) (passAt tk) (da_cons (de_var 0) (da_nil))))) (dw_or1 (dt_cmp op_ge rd_cmp (de_callB call_len rc_len tx.b_len (by decide +kernel) (da_cons (de_var 0) (da_nil))) (de_call c_two_to hr (by decide) (passAt tk) (da_cons (de_glob tx.g_MOST_WHOLE) (da_nil))) (nomark _))))) (dss_one (ds_raise tx.e_BadRow rfl tk)) (dss_nil)) (dss_cons (ds_asgT (ow' := []) (de_call c_level_of hr (by decide) (passAt tk) (da_cons (de_op op_addAll rd_add (de_callB call_len rc_len tx.b_len (by decide +kernel) (da_cons (de_var 0) (da_nil))) (de_int)) (da_nil))) (dg_tup rfl (dgs_cons (dg_name (i := 1) sc__check_row.nd) (dgs_cons (dg_name (i := 2) sc__check_row.nd) (dgs_nil))) (asCons_len (asCons_len (fun _ _ _ h => asNil_len h)))) (by decide) (by decide) (aTup_same (asCons_same (aName_same) (asCons_same (aName_same) (asNil_same))))) (dss_cons (ds_if (dt_cmp op_gt rd_cmp (de_var 2) (de_int) (nomark _)) (dss_one (ds_raise tx.e_BadRow rfl tk)) (dss_nil)) (dss_one (ds_ret (de_var 1)))))
theorem sc__are_clashing : FnScope N__are_clashing ["row", "first", "second"] (defScope s__are_clashing) := ⟨rfl, rfl, rfl, by decide +kernel, rfl, by decide +kernel, by decide +kernel⟩
theorem ok__are_clashing (tx : Txt K mg T w) (c_level_of : FnD P w K mg base T 1 "level_of" 1 D_level_of) {f : Addr} {fd : FuncData} (Fu : Fun K "_are_clashing" "_are_clashing" s__are_clashing f fd) : FnOk P w K mg base (L2.CX P w) 2 f fd ["row", "first", "second"] (spD K T 3 D__are_clashing) :=
  fn_D (ow' := []) Fu sc__are_clashing rfl fun cdv A outer s H E hr => by
    have tk : Takes (cxOf (L2.CX P w) P w K mg base N__are_clashing "_are_clashing" (defScope s__are_clashing) f cdv A outer s H E) (fun cls d _ H => E cls d H) := takes_of rfl rfl rfl rfl
    have hpo := passes_of (X := cxOf (L2.CX P w) P w K mg base N__are_clashing "_are_clashing" (defScope s__are_clashing) f cdv A outer s H E) rfl
    exact dss_one (ds_ret (de_cmp (op_neD (hu64 hr)) rd_ne (de_cmp (op_eqD (hu64 hr)) rd_eq (de_op op_modAll rd_mod (de_op op_sub rd_sub (de_ix (de_call c_level_of hr (by decide) (passAt tk) (da_cons (de_var 1) (da_nil))) (de_int)) (de_ix (de_call c_level_of hr (by decide) (passAt tk) (da_cons (de_var 2) (da_nil))) (de_int))) (de_int)) (de_int) (nomark _)) (de_cmp (op_eqD (hu64 hr)) rd_eq (de_ix (de_var 0) (de_op op_sub rd_sub (de_var 1) (de_int))) (de_ix (de_var 0) (de_op op_sub rd_sub (de_var 2) (de_int))) (nomark _)) (nomark _)))
theorem sc_folds_of : FnScope N_folds_of ["row"] (defScope s_folds_of) := ⟨rfl, rfl, rfl, by decide +kernel, rfl, by decide +kernel, by decide +kernel⟩
theorem ok_folds_of (tx : Txt K mg T w) (c__are_clashing : FnD P w K mg base T 2 "_are_clashing" 3 D__are_clashing) (c__check_row : FnD P w K mg base T 2 "_check_row" 1 D__check_row) (c_level_of : FnD P w K mg base T 1 "level_of" 1 D_level_of) (c_two_to : FnD P w K mg base T 1 "two_to" 1 D_two_to) {f : Addr} {fd : FuncData} (Fu : Fun K "folds_of" "folds_of" s_folds_of f fd) : FnOk P w K mg base (L2.CX P w) 3 f fd ["row"] (spD K T 1 D_folds_of) :=
  fn_D (ow' := []) Fu sc_folds_of rfl fun cdv A outer s H E hr => by
    have tk : Takes (cxOf (L2.CX P w) P w K mg base N_folds_of "folds_of" (defScope s_folds_of) f cdv A outer s H E) (fun cls d _ H => E cls d H) := takes_of rfl rfl rfl rfl
    have hpo := passes_of (X := cxOf (L2.CX P w) P w K mg base N_folds_of "folds_of" (defScope s_folds_of) f cdv A outer s H E) rfl
    exact dss_cons (ds_asg (i := 1) (ow' := []) sc_folds_of.nd (de_call c__check_row hr (by decide) (passAt tk) (da_cons (de_var 0) (da_nil))) (by decide) (by decide)) (dss_cons (ds_for hpo rfl (di_range2 tx.b_range (da_cons (de_int) (da_cons (de_op op_addAll rd_add (de_callB call_len rc_len tx.b_len (by decide +kernel) (da_cons (de_var 0) (da_nil))) (de_int)) (da_nil)))) (dg_name (i := 2) sc_folds_of.nd) (by decide) aName_same (dss_cons (ds_asg (i := 3) (ow' := []) sc_folds_of.nd (de_call c_two_to hr (by decide) (passAt tk) (da_cons (de_ix (de_call c_level_of hr (by decide) (passAt tk) (da_cons (de_var 2) (da_nil))) (de_int)) (da_nil))) (by decide) (by decide)) (dss_one (ds_if (dt_truth (de_call c__are_clashing hr (by decide) (passAt tk) (da_cons (de_var 0) (da_cons (de_var 3) (da_cons (de_var 2) (da_nil)))))) (dss_one (ds_ret (de_tup (da_cons (de_str) (da_cons (de_tup (da_cons (de_var 3) (da_cons (de_var 2) (da_nil)))) (da_nil)))))) (dss_nil))))) (dss_cons (ds_asgLc (own := [("place", 5)]) (i := 4) (ow' := []) rfl sc_folds_of.nd rfl (sw_true rfl rfl rfl (by decide +kernel)) (di_range2 tx.b_range (da_cons (de_int) (da_cons (de_op op_addAll rd_add (de_var 1) (de_int)) (da_nil)))) (blkOk_by (own := [("place", 5)]) (N := N_folds_of) (sc := defScope s_folds_of) (by decide +kernel)) (by decide) (fun _ _ _ _ _ => dg_name (i := 5) sc_folds_of.nd) (fun _ _ _ _ _ => dts_nil) (fun _ _ _ _ _ => de_ix (de_var 0) (de_op op_sub rd_sub (de_call c_two_to hr (by decide) passNo (da_cons (de_op op_sub rd_sub (de_var 1) (de_var 5)) (da_nil))) (de_int))) (by decide) (by decide)) (dss_in (ow' := []) (dss_one (ds_ret (de_tup (da_cons (de_str) (da_cons (de_callTy call_tuple_of rc_tuple tx.b_tuple (by decide +kernel) (da_cons (de_f (df_lc (own := [("crease", 6)]) rfl sc_folds_of.nd (di_seq (de_var 4)) (blkOk_by (own := [("crease", 6)]) (N := N_folds_of) (sc := defScope s_folds_of) (by decide +kernel)) (by decide) (fun _ _ _ _ _ => dg_name (i := 6) sc_folds_of.nd) (fun _ _ _ _ _ => dts_nil) (fun _ _ _ _ _ => de_if (dt_cmp (op_eqD (hu64 hr)) rd_eq (de_var 6) (de_glob tx.g_VALLEY) (nomark _)) (de_glob tx.g_OVER) (de_glob tx.g_UNDER)))) (da_nil))) (da_nil)))))) (by decide))))
theorem sc_clash_fault : FnScope N_clash_fault ["row", "clash"] (defScope s_clash_fault) := ⟨rfl, rfl, rfl, by decide +kernel, rfl, by decide +kernel, by decide +kernel⟩
theorem ok_clash_fault (tx : Txt K mg T w) (c__are_clashing : FnD P w K mg base T 2 "_are_clashing" 3 D__are_clashing) (c__check_row : FnD P w K mg base T 2 "_check_row" 1 D__check_row) (c_is_whole : FnD P w K mg base T 1 "is_whole" 3 D_is_whole) (c_level_of : FnD P w K mg base T 1 "level_of" 1 D_level_of) {f : Addr} {fd : FuncData} (Fu : Fun K "clash_fault" "clash_fault" s_clash_fault f fd) : FnOk P w K mg base (L2.CX P w) 3 f fd ["row", "clash"] (spD K T 2 D_clash_fault) :=
  fn_D (ow' := []) Fu sc_clash_fault rfl fun cdv A outer s H E hr => by
    have tk : Takes (cxOf (L2.CX P w) P w K mg base N_clash_fault "clash_fault" (defScope s_clash_fault) f cdv A outer s H E) (fun cls d _ H => E cls d H) := takes_of rfl rfl rfl rfl
    have hpo := passes_of (X := cxOf (L2.CX P w) P w K mg base N_clash_fault "clash_fault" (defScope s_clash_fault) f cdv A outer s H E) rfl
    exact dss_cons (ds_drop (de_call c__check_row hr (by decide) (passAt tk) (da_cons (de_var 0) (da_nil)))) (dss_cons (ds_if (DW.dt (dw_or (dt_not (dt_truth (de_isi kit_tuple tx.b_isinstance tx.b_tuple (by decide +kernel) (de_var 1)))) (dw_or (dt_cmp (op_neD (hu64 hr)) rd_ne (de_callB call_len rc_len tx.b_len (by decide +kernel) (da_cons (de_var 1) (da_nil))) (de_int) (nomark _)) (dw_or1 (dt_not (dt_truth (de_callB (cr_all rfl) rc_all tx.b_all (by decide +kernel) (da_cons (de_f (df_lc (own := [("one", 4)]) rfl sc_clash_fault.nd (di_seq (de_var 1)) (blkOk_by (own := [("one", 4)]) (N := N_clash_fault) (sc := defScope s_clash_fault) (by decide +kernel)) (by decide) (fun _ _ _ _ _ => dg_name (i := 4) sc_clash_fault.nd) (fun _ _ _ _ _ => dts_nil) (fun _ _ _ _ _ => de_call c_is_whole hr (by decide) passNo (da_cons (de_var 4) (da_cons (de_int) (da_cons (de_callB call_len rc_len tx.b_len (by decide +kernel) (da_cons (de_var 0) (da_nil))) (da_nil))))))) (da_nil))))))))) (dss_one (ds_ret (de_str))) (dss_nil)) (dss_cons (ds_asgT (ow' := []) (de_var 1) (dg_tup rfl (dgs_cons (dg_name (i := 2) sc_clash_fault.nd) (dgs_cons (dg_name (i := 3) sc_clash_fault.nd) (dgs_nil))) (asCons_len (asCons_len (fun _ _ _ h => asNil_len h)))) (by decide) (by decide) (aTup_same (asCons_same (aName_same) (asCons_same (aName_same) (asNil_same))))) (dss_cons (ds_if (dt_cmp op_ge rd_cmp (de_var 2) (de_var 3) (nomark _)) (dss_one (ds_ret (de_str))) (dss_nil)) (dss_cons (ds_if (dt_cmp (op_neD (hu64 hr)) rd_ne (de_ix (de_call c_level_of hr (by decide) (passAt tk) (da_cons (de_var 2) (da_nil))) (de_int)) (de_ix (de_call c_level_of hr (by decide) (passAt tk) (da_cons (de_var 3) (da_nil))) (de_int)) (nomark _)) (dss_one (ds_ret (de_str))) (dss_nil)) (dss_one (ds_ret (de_if (dt_truth (de_call c__are_clashing hr (by decide) (passAt tk) (da_cons (de_var 0) (da_cons (de_var 2) (da_cons (de_var 3) (da_nil)))))) (de_non) (de_str))))))))
theorem sc__law_draws : FnScope N__law_draws ["script", "many"] (defScope s__law_draws) := ⟨rfl, rfl, rfl, by decide +kernel, rfl, by decide +kernel, by decide +kernel⟩
theorem ok__law_draws (tx : Txt K mg T w) {f : Addr} {fd : FuncData} (Fu : Fun K "_law_draws" "_law_draws" s__law_draws f fd) : FnOk P w K mg base (L2.CX P w) 1 f fd ["script", "many"] (spD K T 2 D__law_draws) :=
  fn_D (ow' := []) Fu sc__law_draws rfl fun cdv A outer s H E hr => by
    have tk : Takes (cxOf (L2.CX P w) P w K mg base N__law_draws "_law_draws" (defScope s__law_draws) f cdv A outer s H E) (fun cls d _ H => E cls d H) := takes_of rfl rfl rfl rfl
    have hpo := passes_of (X := cxOf (L2.CX P w) P w K mg base N__law_draws "_law_draws" (defScope s__law_draws) f cdv A outer s H E) rfl
    exact dss_cons (ds_asgO (i := 2) (ow' := []) sc__law_draws.nd (df_lst (da_nil)) (by decide) (by decide)) (dss_cons (ds_asg (i := 3) (ow' := [2]) sc__law_draws.nd (de_int) (by decide) (by decide)) (dss_cons (ds_for hpo rfl (di_seq (de_slice (de_var 0) (do_none) (do_some (de_int)))) (dg_name (i := 4) sc__law_draws.nd) (by decide) aName_same (dss_cons (ds_asg (i := 5) (ow' := [2]) sc__law_draws.nd (de_callB call_abs rc_abs tx.b_abs (by decide +kernel) (da_cons (de_var 4) (da_nil))) (by decide) (by decide)) (dss_cons (ds_asg (i := 3) (ow' := [2]) sc__law_draws.nd (de_op op_modAll rd_mod (de_callTy call_int1 rc_int tx.b_int (by decide +kernel) (da_cons (de_op op_addAll rd_add (de_op op_addAll rd_add (de_op op_mulAll rd_mul (de_var 3) (de_int)) (de_var 5)) (de_int)) (da_nil))) (de_int)) (by decide) (by decide)) (dss_one (ds_if (dt_cmp op_ge rd_cmp (de_var 5) (de_op op_pow rd_pow (de_int) (de_int)) (nomark _)) (dss_one (ds_for hpo rfl (di_range1 tx.b_range (da_cons (de_int) (da_nil))) (dg_name (i := 6) sc__law_draws.nd) (by decide) aName_same (dss_one (ds_if (dt_cmp op_gt rd_cmp (de_var 5) (de_int) (nomark _)) (dss_cons (ds_app (i := 2) (de_op op_modAll rd_mod (de_callTy call_int1 rc_int tx.b_int (by decide +kernel) (da_cons (de_var 5) (da_nil))) (de_int))) (dss_one (ds_asg (i := 5) (ow' := [2]) sc__law_draws.nd (de_op op_fdivAll rd_fdiv (de_var 5) (de_int)) (by decide) (by decide)))) (dss_nil))))) (dss_one (ds_app (i := 2) (de_op op_modAll rd_mod (de_op op_fdivAll rd_fdiv (de_callTy call_int1 rc_int tx.b_int (by decide +kernel) (da_cons (de_op op_addAll rd_add (de_op op_mulAll rd_mul (de_var 3) (de_int)) (de_int)) (da_nil))) (de_int)) (de_int))))))))) (dss_cons (ds_for hpo rfl (di_range1 tx.b_range (da_cons (de_var 1) (da_nil))) (dg_name (i := 6) sc__law_draws.nd) (by decide) aName_same (dss_one (ds_if (dt_un (ow' := []) (dt_cmp op_lt rd_cmp (de_callB call_len rc_len tx.b_len (by decide +kernel) (da_cons (de_var 2) (da_nil))) (de_var 1) (nomark _))) (dss_cons (ds_asg (i := 3) (ow' := [2]) sc__law_draws.nd (de_op op_modAll rd_mod (de_callTy call_int1 rc_int tx.b_int (by decide +kernel) (da_cons (de_op op_addAll rd_add (de_op op_addAll rd_add (de_op op_mulAll rd_mul (de_var 3) (de_int)) (de_var 6)) (de_int)) (da_nil))) (de_int)) (by decide) (by decide)) (dss_one (ds_app (i := 2) (de_op op_modAll rd_mod (de_op op_fdivAll rd_fdiv (de_callTy call_int1 rc_int tx.b_int (by decide +kernel) (da_cons (de_var 3) (da_nil))) (de_int)) (de_int))))) (dss_nil)))) (dss_in (ow' := []) (dss_one (ds_ret (de_slice (de_var 2) (do_none) (do_some (de_var 1))))) (by decide)))))
theorem sc__law_folds : FnScope N__law_folds ["draws", "most"] (defScope s__law_folds) := ⟨rfl, rfl, rfl, by decide +kernel, rfl, by decide +kernel, by decide +kernel⟩
theorem ok__law_folds (tx : Txt K mg T w) {f : Addr} {fd : FuncData} (Fu : Fun K "_law_folds" "_law_folds" s__law_folds f fd) : FnOk P w K mg base (L2.CX P w) 1 f fd ["draws", "most"] (spD K T 2 D__law_folds) :=
  fn_D (ow' := []) Fu sc__law_folds rfl fun cdv A outer s H E hr => by
    have tk : Takes (cxOf (L2.CX P w) P w K mg base N__law_folds "_law_folds" (defScope s__law_folds) f cdv A outer s H E) (fun cls d _ H => E cls d H) := takes_of rfl rfl rfl rfl
    have hpo := passes_of (X := cxOf (L2.CX P w) P w K mg base N__law_folds "_law_folds" (defScope s__law_folds) f cdv A outer s H E) rfl
    exact dss_one (ds_ret (de_callTy call_tuple_of rc_tuple tx.b_tuple (by decide +kernel) (da_cons (de_f (df_lc (own := [("k", 2)]) rfl sc__law_folds.nd (di_range1 tx.b_range (da_cons (de_op op_modAll rd_mod (de_callTy call_int1 rc_int tx.b_int (by decide +kernel) (da_cons (de_ix (de_var 0) (de_int)) (da_nil))) (de_op op_addAll rd_add (de_var 1) (de_int))) (da_nil))) (blkOk_by (own := [("k", 2)]) (N := N__law_folds) (sc := defScope s__law_folds) (by decide +kernel)) (by decide) (fun _ _ _ _ _ => dg_name (i := 2) sc__law_folds.nd) (fun _ _ _ _ _ => dts_nil) (fun _ _ _ _ _ => de_ix (de_f (df_lst (da_cons (de_str) (da_cons (de_str) (da_nil))))) (de_op op_modAll rd_mod (de_op op_fdivAll rd_fdiv (de_callTy call_int1 rc_int tx.b_int (by decide +kernel) (da_cons (de_ix (de_var 0) (de_op op_addAll rd_add (de_int) (de_var 2))) (da_nil))) (de_int)) (de_int))))) (da_nil))))
theorem sc__law_row : FnScope N__law_row ["folds"] (defScope s__law_row) := ⟨rfl, rfl, rfl, by decide +kernel, rfl, by decide +kernel, by decide +kernel⟩
theorem ok__law_row (tx : Txt K mg T w) {f : Addr} {fd : FuncData} (Fu : Fun K "_law_row" "_law_row" s__law_row f fd) : FnOk P w K mg base (L2.CX P w) 1 f fd ["folds"] (spD K T 1 D__law_row) :=
  fn_D (ow' := []) Fu sc__law_row rfl fun cdv A outer s H E hr => by
    have tk : Takes (cxOf (L2.CX P w) P w K mg base N__law_row "_law_row" (defScope s__law_row) f cdv A outer s H E) (fun cls d _ H => E cls d H) := takes_of rfl rfl rfl rfl
    have hpo := passes_of (X := cxOf (L2.CX P w) P w K mg base N__law_row "_law_row" (defScope s__law_row) f cdv A outer s H E) rfl
    exact dss_cons (ds_asg (i := 1) (ow' := []) sc__law_row.nd (de_f (df_lst (da_nil))) (by decide) (by decide)) (dss_cons (ds_for hpo rfl (di_seq (de_var 0)) (dg_name (i := 2) sc__law_row.nd) (by decide) aName_same (dss_cons (ds_parO (i := 3) (j := 4) (ow' := []) rfl sc__law_row.nd (df_lst (da_nil)) (de_ix (de_f (df_lst (da_cons (de_str) (da_cons (de_str) (da_nil))))) (de_callTy call_int1 rc_int tx.b_int (by decide +kernel) (da_cons (de_cmp (op_eqD (hu64 hr)) rd_eq (de_var 2) (de_str) (nomark _)) (da_nil)))) (by decide) (by decide) (by decide) rfl) (dss_cons (ds_for hpo rfl (di_range1 tx.b_range (da_cons (de_op op_addAll rd_add (de_callB call_len rc_len tx.b_len (by decide +kernel) (da_cons (de_var 1) (da_nil))) (de_int)) (da_nil))) (dg_name (i := 5) sc__law_row.nd) (by decide) aName_same (dss_cons (ds_app (i := 3) (de_var 4)) (dss_cons (ds_asg (i := 4) (ow' := [3]) sc__law_row.nd (de_ix (de_f (df_lst (da_cons (de_str) (da_cons (de_str) (da_nil))))) (de_callTy call_int1 rc_int tx.b_int (by decide +kernel) (da_cons (de_cmp (op_eqD (hu64 hr)) rd_eq (de_var 4) (de_str) (nomark _)) (da_nil)))) (by decide) (by decide)) (dss_one (ds_ext (i := 3) (de_slice (de_var 1) (do_some (de_var 5)) (do_some (de_op op_addAll rd_add (de_var 5) (de_int))))))))) (dss_in (ow' := []) (dss_one (ds_asg (i := 1) (ow' := []) sc__law_row.nd (de_var 3) (by decide) (by decide))) (by decide))))) (dss_one (ds_ret (de_callTy call_tuple_of rc_tuple tx.b_tuple (by decide +kernel) (da_cons (de_var 1) (da_nil))))))
theorem sc__law_level : FnScope N__law_level ["number"] (defScope s__law_level) := ⟨rfl, rfl, rfl, by decide +kernel, rfl, by decide +kernel, by decide +kernel⟩
theorem ok__law_level (tx : Txt K mg T w) {f : Addr} {fd : FuncData} (Fu : Fun K "_law_level" "_law_level" s__law_level f fd) : FnOk P w K mg base (L2.CX P w) 1 f fd ["number"] (spD K T 1 D__law_level) :=
  fn_D (ow' := []) Fu sc__law_level rfl fun cdv A outer s H E hr => by
    have tk : Takes (cxOf (L2.CX P w) P w K mg base N__law_level "_law_level" (defScope s__law_level) f cdv A outer s H E) (fun cls d _ H => E cls d H) := takes_of rfl rfl rfl rfl
    have hpo := passes_of (X := cxOf (L2.CX P w) P w K mg base N__law_level "_law_level" (defScope s__law_level) f cdv A outer s H E) rfl
    exact dss_cons (ds_asg (i := 1) (ow' := []) sc__law_level.nd (de_int) (by decide) (by decide)) (dss_cons (ds_while 1000000 hpo (dt_cmp (op_eqD (hu64 hr)) rd_eq (de_op op_modAll rd_mod (de_var 0) (de_int)) (de_int) (nomark _)) (dss_one (ds_par (i := 1) (j := 0) (ow' := []) rfl sc__law_level.nd (de_op op_addAll rd_add (de_var 1) (de_int)) (de_op op_fdivAll rd_fdiv (de_var 0) (de_int)) (by decide) (by decide) (by decide) rfl))) (dss_one (ds_ret (de_tup (da_cons (de_var 1) (da_cons (de_op op_fdivAll rd_fdiv (de_var 0) (de_int)) (da_nil)))))))
theorem sc__law_crease : FnScope N__law_crease ["folds", "number"] (defScope s__law_crease) := ⟨rfl, rfl, rfl, by decide +kernel, rfl, by decide +kernel, by decide +kernel⟩
theorem ok__law_crease (tx : Txt K mg T w) (c__law_level : FnD P w K mg base T 1 "_law_level" 1 D__law_level) {f : Addr} {fd : FuncData} (Fu : Fun K "_law_crease" "_law_crease" s__law_crease f fd) : FnOk P w K mg base (L2.CX P w) 2 f fd ["folds", "number"] (spD K T 2 D__law_crease) :=
  fn_D (ow' := []) Fu sc__law_crease rfl fun cdv A outer s H E hr => by
    have tk : Takes (cxOf (L2.CX P w) P w K mg base N__law_crease "_law_crease" (defScope s__law_crease) f cdv A outer s H E) (fun cls d _ H => E cls d H) := takes_of rfl rfl rfl rfl
    have hpo := passes_of (X := cxOf (L2.CX P w) P w K mg base N__law_crease "_law_crease" (defScope s__law_crease) f cdv A outer s H E) rfl
    exact dss_cons (ds_asgT (ow' := []) (de_call c__law_level hr (by decide) (passAt tk) (da_cons (de_var 1) (da_nil))) (dg_tup rfl (dgs_cons (dg_name (i := 2) sc__law_crease.nd) (dgs_cons (dg_name (i := 3) sc__law_crease.nd) (dgs_nil))) (asCons_len (asCons_len (fun _ _ _ h => asNil_len h)))) (by decide) (by decide) (aTup_same (asCons_same (aName_same) (asCons_same (aName_same) (asNil_same))))) (dss_one (ds_ret (de_ix (de_str) (de_op op_modAll rd_mod (de_op op_addAll rd_add (de_callTy call_int1 rc_int tx.b_int (by decide +kernel) (da_cons (de_cmp (op_eqD (hu64 hr)) rd_eq (de_ix (de_var 0) (de_op op_sub rd_sub (de_op op_sub rd_sub (de_callB call_len rc_len tx.b_len (by decide +kernel) (da_cons (de_var 0) (da_nil))) (de_int)) (de_var 2))) (de_str) (nomark _)) (da_nil))) (de_var 3)) (de_int)))))
theorem sc__law_due : FnScope N__law_due ["row"] (defScope s__law_due) := ⟨rfl, rfl, rfl, by decide +kernel, rfl, by decide +kernel, by decide +kernel⟩
theorem ok__law_due (tx : Txt K mg T w) (c__law_level : FnD P w K mg base T 1 "_law_level" 1 D__law_level) {f : Addr} {fd : FuncData} (Fu : Fun K "_law_due" "_law_due" s__law_due f fd) : FnOk P w K mg base (L2.CX P w) 2 f fd ["row"] (spD K T 1 D__law_due) :=
  fn_D (ow' := []) Fu sc__law_due rfl fun cdv A outer s H E hr => by
    have tk : Takes (cxOf (L2.CX P w) P w K mg base N__law_due "_law_due" (defScope s__law_due) f cdv A outer s H E) (fun cls d _ H => E cls d H) := takes_of rfl rfl rfl rfl
    have hpo := passes_of (X := cxOf (L2.CX P w) P w K mg base N__law_due "_law_due" (defScope s__law_due) f cdv A outer s H E) rfl
    exact dss_cons (ds_for hpo rfl (di_range2 tx.b_range (da_cons (de_int) (da_cons (de_op op_addAll rd_add (de_callB call_len rc_len tx.b_len (by decide +kernel) (da_cons (de_var 0) (da_nil))) (de_int)) (da_nil)))) (dg_name (i := 1) sc__law_due.nd) (by decide) aName_same (dss_one (ds_for hpo rfl (di_range2 tx.b_range (da_cons (de_int) (da_cons (de_var 1) (da_nil)))) (dg_name (i := 2) sc__law_due.nd) (by decide) aName_same (dss_cons (ds_par (i := 3) (j := 4) (ow' := []) rfl sc__law_due.nd (de_call c__law_level hr (by decide) (passAt tk) (da_cons (de_var 2) (da_nil))) (de_call c__law_level hr (by decide) (passAt tk) (da_cons (de_var 1) (da_nil))) (by decide) (by decide) (by decide) rfl) (dss_one (ds_if (DW.dt (dw_and (dt_cmp (op_eqD (hu64 hr)) rd_eq (de_ix (de_var 3) (de_int)) (de_ix (de_var 4) (de_int)) (nomark _)) (dw_and1 (dt_cmp (op_neD (hu64 hr)) rd_ne (de_cmp (op_eqD (hu64 hr)) rd_eq (de_op op_modAll rd_mod (de_op op_sub rd_sub (de_ix (de_var 3) (de_int)) (de_ix (de_var 4) (de_int))) (de_int)) (de_int) (nomark _)) (de_cmp (op_eqD (hu64 hr)) rd_eq (de_ix (de_var 0) (de_op op_sub rd_sub (de_var 2) (de_int))) (de_ix (de_var 0) (de_op op_sub rd_sub (de_var 1) (de_int))) (nomark _)) (nomark _))))) (dss_one (ds_ret (de_tup (da_cons (de_var 2) (da_cons (de_var 1) (da_nil)))))) (dss_nil))))))) (dss_one (ds_ret (de_non)))
theorem sc__law_clash : FnScope N__law_clash ["row", "clash"] (defScope s__law_clash) := ⟨rfl, rfl, rfl, by decide +kernel, rfl, by decide +kernel, by decide +kernel⟩
theorem ok__law_clash (tx : Txt K mg T w) (c__law_level : FnD P w K mg base T 1 "_law_level" 1 D__law_level) {f : Addr} {fd : FuncData} (Fu : Fun K "_law_clash" "_law_clash" s__law_clash f fd) : FnOk P w K mg base (L2.CX P w) 2 f fd ["row", "clash"] (spD K T 2 D__law_clash) :=
  fn_D (ow' := []) Fu sc__law_clash rfl fun cdv A outer s H E hr => by
    have tk : Takes (cxOf (L2.CX P w) P w K mg base N__law_clash "_law_clash" (defScope s__law_clash) f cdv A outer s H E) (fun cls d _ H => E cls d H) := takes_of rfl rfl rfl rfl
    have hpo := passes_of (X := cxOf (L2.CX P w) P w K mg base N__law_clash "_law_clash" (defScope s__law_clash) f cdv A outer s H E) rfl
    exact dss_cons (ds_if (DW.dt (dw_or (dt_not (dt_truth (de_isi kit_tuple tx.b_isinstance tx.b_tuple (by decide +kernel) (de_var 1)))) (dw_or1 (dt_cmp (op_neD (hu64 hr)) rd_ne (de_callB call_len rc_len tx.b_len (by decide +kernel) (da_cons (de_var 1) (da_nil))) (de_int) (nomark _))))) (dss_one (ds_ret (de_str))) (dss_nil)) (dss_cons (ds_if (DW.dt (dw_or (dt_not (dt_truth (de_callB (cr_all rfl) rc_all tx.b_all (by decide +kernel) (da_cons (de_f (df_lc (own := [("one", 2)]) rfl sc__law_clash.nd (di_seq (de_var 1)) (blkOk_by (own := [("one", 2)]) (N := N__law_clash) (sc := defScope s__law_clash) (by decide +kernel)) (by decide) (fun _ _ _ _ _ => dg_name (i := 2) sc__law_clash.nd) (fun _ _ _ _ _ => dts_nil) (fun _ _ _ _ _ => de_and (de_isi kit_int tx.b_isinstance tx.b_int (by decide +kernel) (de_var 2)) (de_and (de_not (de_isi kit_bool tx.b_isinstance tx.b_bool (by decide +kernel) (de_var 2))) (de_one (de_chain op_le rd_cmp op_le rd_cmp (de_int) (de_var 2) (de_callB call_len rc_len tx.b_len (by decide +kernel) (da_cons (de_var 0) (da_nil))))))))) (da_nil))))) (dw_or1 (dt_cmp op_ge rd_cmp (de_ix (de_var 1) (de_int)) (de_ix (de_var 1) (de_int)) (nomark _))))) (dss_one (ds_ret (de_str))) (dss_nil)) (dss_cons (ds_par (i := 2) (j := 3) (ow' := []) rfl sc__law_clash.nd (de_call c__law_level hr (by decide) (passAt tk) (da_cons (de_ix (de_var 1) (de_int)) (da_nil))) (de_call c__law_level hr (by decide) (passAt tk) (da_cons (de_ix (de_var 1) (de_int)) (da_nil))) (by decide) (by decide) (by decide) rfl) (dss_cons (ds_if (dt_cmp (op_neD (hu64 hr)) rd_ne (de_ix (de_var 2) (de_int)) (de_ix (de_var 3) (de_int)) (nomark _)) (dss_one (ds_ret (de_str))) (dss_nil)) (dss_one (ds_ret (de_if (dt_cmp (op_neD (hu64 hr)) rd_ne (de_cmp (op_eqD (hu64 hr)) rd_eq (de_op op_modAll rd_mod (de_op op_sub rd_sub (de_ix (de_var 2) (de_int)) (de_ix (de_var 3) (de_int))) (de_int)) (de_int) (nomark _)) (de_cmp (op_eqD (hu64 hr)) rd_eq (de_ix (de_var 0) (de_op op_sub rd_sub (de_ix (de_var 1) (de_int)) (de_int))) (de_ix (de_var 0) (de_op op_sub rd_sub (de_ix (de_var 1) (de_int)) (de_int))) (nomark _)) (nomark _)) (de_non) (de_str)))))))
theorem sc__law_error : FnScope N__law_error ["call", "one", "two"] (defScope s__law_error) := ⟨rfl, rfl, rfl, by decide +kernel, rfl, by decide +kernel, by decide +kernel⟩
theorem ok__law_error (tx : Txt K mg T w) (c_clash_fault : FnD P w K mg base T 3 "clash_fault" 2 D_clash_fault) (c_crease_at : FnD P w K mg base T 3 "crease_at" 2 D_crease_at) (c_folds_of : FnD P w K mg base T 3 "folds_of" 1 D_folds_of) (c_halved : FnD P w K mg base T 3 "halved" 1 D_halved) (c_level_of : FnD P w K mg base T 1 "level_of" 1 D_level_of) {f : Addr} {fd : FuncData} (Fu : Fun K "_law_error" "_law_error" s__law_error f fd) : FnOk P w K mg base (L2.CX P w) 4 f fd ["call", "one", "two"] (spD K T 3 D__law_error) :=
  fn_D (ow' := []) Fu sc__law_error rfl fun cdv A outer s H E hr => by
    have tk : Takes (cxOf (L2.CX P w) P w K mg base N__law_error "_law_error" (defScope s__law_error) f cdv A outer s H E) (fun cls d _ H => E cls d H) := takes_of rfl rfl rfl rfl
    have hpo := passes_of (X := cxOf (L2.CX P w) P w K mg base N__law_error "_law_error" (defScope s__law_error) f cdv A outer s H E) rfl
    exact dss_cons (ds_tryM rfl rfl tk (fun W pn xe tk2 hpo2 => dss_one (ds_if (dt_cmp (op_eqD (hu64 hr)) rd_eq (de_var 0) (de_int) (nomark _)) (dss_one (ds_drop (de_call c_halved hr (by decide) (passAt tk2) (da_cons (de_var 1) (da_nil))))) (dss_one (ds_if (dt_cmp (op_eqD (hu64 hr)) rd_eq (de_var 0) (de_int) (nomark _)) (dss_one (ds_drop (de_call c_crease_at hr (by decide) (passAt tk2) (da_cons (de_var 1) (da_cons (de_var 2) (da_nil)))))) (dss_one (ds_if (dt_cmp (op_eqD (hu64 hr)) rd_eq (de_var 0) (de_int) (nomark _)) (dss_one (ds_drop (de_call c_level_of hr (by decide) (passAt tk2) (da_cons (de_var 1) (da_nil))))) (dss_one (ds_if (dt_cmp (op_eqD (hu64 hr)) rd_eq (de_var 0) (de_int) (nomark _)) (dss_one (ds_drop (de_call c_folds_of hr (by decide) (passAt tk2) (da_cons (de_var 1) (da_nil))))) (dss_one (ds_drop (de_call c_clash_fault hr (by decide) (passAt tk2) (da_cons (de_var 1) (da_cons (de_var 2) (da_nil)))))))))))))) (.cons ⟨rfl, by decide, Or.inl tx.n_BadFolds⟩ tx.x_BadFolds (fun a oe cls d pn hz hf => dss_one (ds_ret (de_str))) (.cons ⟨rfl, by decide, Or.inl tx.n_BadPlace⟩ tx.x_BadPlace (fun a oe cls d pn hz hf => dss_one (ds_ret (de_str))) (.cons ⟨rfl, by decide, Or.inl tx.n_BadRow⟩ tx.x_BadRow (fun a oe cls d pn hz hf => dss_one (ds_ret (de_str))) (.nil))))) (dss_one (ds_ret (de_str)))
theorem sc__law_are_great : FnScope N__law_are_great ["draws"] (defScope s__law_are_great) := ⟨rfl, rfl, rfl, by decide +kernel, rfl, by decide +kernel, by decide +kernel⟩
theorem ok__law_are_great (tx : Txt K mg T w) (c__law_crease : FnD P w K mg base T 2 "_law_crease" 2 D__law_crease) (c__law_error : FnD P w K mg base T 4 "_law_error" 3 D__law_error) (c__law_level : FnD P w K mg base T 1 "_law_level" 1 D__law_level) (c_crease_at : FnD P w K mg base T 3 "crease_at" 2 D_crease_at) (c_level_of : FnD P w K mg base T 1 "level_of" 1 D_level_of) {f : Addr} {fd : FuncData} (Fu : Fun K "_law_are_great" "_law_are_great" s__law_are_great f fd) : FnOk P w K mg base (L2.CX P w) 5 f fd ["draws"] (spD K T 1 D__law_are_great) :=
  fn_D (ow' := []) Fu sc__law_are_great rfl fun cdv A outer s H E hr => by
    have tk : Takes (cxOf (L2.CX P w) P w K mg base N__law_are_great "_law_are_great" (defScope s__law_are_great) f cdv A outer s H E) (fun cls d _ H => E cls d H) := takes_of rfl rfl rfl rfl
    have hpo := passes_of (X := cxOf (L2.CX P w) P w K mg base N__law_are_great "_law_are_great" (defScope s__law_are_great) f cdv A outer s H E) rfl
    exact dss_cons (ds_asg (i := 1) (ow' := []) sc__law_are_great.nd (de_callTy call_tuple_of rc_tuple tx.b_tuple (by decide +kernel) (da_cons (de_f (df_lc (own := [("k", 4)]) rfl sc__law_are_great.nd (di_range1 tx.b_range (da_cons (de_op op_addAll rd_add (de_int) (de_op op_modAll rd_mod (de_callTy call_int1 rc_int tx.b_int (by decide +kernel) (da_cons (de_ix (de_var 0) (de_int)) (da_nil))) (de_int))) (da_nil))) (blkOk_by (own := [("k", 4)]) (N := N__law_are_great) (sc := defScope s__law_are_great) (by decide +kernel)) (by decide) (fun _ _ _ _ _ => dg_name (i := 4) sc__law_are_great.nd) (fun _ _ _ _ _ => dts_nil) (fun _ _ _ _ _ => de_ix (de_f (df_lst (da_cons (de_str) (da_cons (de_str) (da_nil))))) (de_op op_modAll rd_mod (de_op op_fdivAll rd_fdiv (de_callTy call_int1 rc_int tx.b_int (by decide +kernel) (da_cons (de_ix (de_var 0) (de_op op_modAll rd_mod (de_var 4) (de_int))) (da_nil))) (de_op op_addAll rd_add (de_int) (de_op op_fdivAll rd_fdiv (de_var 4) (de_int)))) (de_int))))) (da_nil))) (by decide) (by decide)) (dss_cons (ds_asg (i := 2) (ow' := []) sc__law_are_great.nd (de_int) (by decide) (by decide)) (dss_cons (ds_for hpo rfl (di_seq (de_var 1)) (dg_name (i := 3) sc__law_are_great.nd) (by decide) aName_same (dss_one (ds_asg (i := 2) (ow' := []) sc__law_are_great.nd (de_op op_mulAll rd_mul (de_var 2) (de_int)) (by decide) (by decide)))) (dss_cons (ds_for hpo rfl (di_range1 tx.b_range (da_cons (de_int) (da_nil))) (dg_name (i := 4) sc__law_are_great.nd) (by decide) aName_same (dss_cons (ds_asg (i := 5) (ow' := []) sc__law_are_great.nd (de_int) (by decide) (by decide)) (dss_cons (ds_if (dt_cmp op_gt rd_cmp (de_var 2) (de_int) (nomark _)) (dss_one (ds_asg (i := 5) (ow' := []) sc__law_are_great.nd (de_op op_addAll rd_add (de_int) (de_op op_modAll rd_mod (de_op op_mulAll rd_mul (de_op op_addAll rd_add (de_op op_mulAll rd_mul (de_op op_mulAll rd_mul (de_callTy call_int1 rc_int tx.b_int (by decide +kernel) (da_cons (de_ix (de_var 0) (de_op op_addAll rd_add (de_int) (de_var 4))) (da_nil))) (de_int)) (de_int)) (de_callTy call_int1 rc_int tx.b_int (by decide +kernel) (da_cons (de_ix (de_var 0) (de_op op_addAll rd_add (de_int) (de_var 4))) (da_nil)))) (de_ix (de_f (df_lst (da_cons (de_int) (da_cons (de_op op_addAll rd_add (de_op op_fdivAll rd_fdiv (de_var 2) (de_int)) (de_int)) (da_cons (de_op op_fdivAll rd_fdiv (de_var 2) (de_int)) (da_nil)))))) (de_op op_modAll rd_mod (de_var 4) (de_int)))) (de_op op_sub rd_sub (de_var 2) (de_int)))) (by decide) (by decide))) (dss_nil)) (dss_one (ds_if (DW.dt (dw_or (dt_cmp (op_neD (hu64 hr)) rd_ne (de_call c_crease_at hr (by decide) (passAt tk) (da_cons (de_var 1) (da_cons (de_var 5) (da_nil)))) (de_call c__law_crease hr (by decide) (passAt tk) (da_cons (de_var 1) (da_cons (de_var 5) (da_nil)))) (nomark _)) (dw_or1 (dt_cmp (op_neD (hu64 hr)) rd_ne (de_call c_level_of hr (by decide) (passAt tk) (da_cons (de_var 5) (da_nil))) (de_call c__law_level hr (by decide) (passAt tk) (da_cons (de_var 5) (da_nil))) (nomark _))))) (dss_one (ds_ret (de_bl))) (dss_nil)))))) (dss_one (ds_ret (de_and (de_cmp (op_eqD (hu64 hr)) rd_eq (de_call c_crease_at hr (by decide) (passAt tk) (da_cons (de_var 1) (da_cons (de_op op_fdivAll rd_fdiv (de_var 2) (de_int)) (da_nil)))) (de_ix (de_f (df_lst (da_cons (de_str) (da_cons (de_str) (da_nil))))) (de_callTy call_int1 rc_int tx.b_int (by decide +kernel) (da_cons (de_cmp (op_eqD (hu64 hr)) rd_eq (de_ix (de_var 1) (de_int)) (de_str) (nomark _)) (da_nil)))) (nomark _)) (de_one (de_cmp (op_eqD (hu64 hr)) rd_eq (de_call c__law_error hr (by decide) (passAt tk) (da_cons (de_int) (da_cons (de_var 1) (da_cons (de_var 2) (da_nil))))) (de_str) (nomark _)))))))))
theorem sc_law : FnScope N_law ["script"] (defScope s_law) := ⟨rfl, rfl, rfl, by decide +kernel, rfl, by decide +kernel, by decide +kernel⟩
theorem ok_law (tx : Txt K mg T w) (c__law_are_great : FnD P w K mg base T 5 "_law_are_great" 1 D__law_are_great) (c__law_clash : FnD P w K mg base T 2 "_law_clash" 2 D__law_clash) (c__law_draws : FnD P w K mg base T 1 "_law_draws" 2 D__law_draws) (c__law_due : FnD P w K mg base T 2 "_law_due" 1 D__law_due) (c__law_error : FnD P w K mg base T 4 "_law_error" 3 D__law_error) (c__law_folds : FnD P w K mg base T 1 "_law_folds" 2 D__law_folds) (c__law_row : FnD P w K mg base T 1 "_law_row" 1 D__law_row) (c_clash_fault : FnD P w K mg base T 3 "clash_fault" 2 D_clash_fault) (c_crease_at : FnD P w K mg base T 3 "crease_at" 2 D_crease_at) (c_folds_of : FnD P w K mg base T 3 "folds_of" 1 D_folds_of) (c_halved : FnD P w K mg base T 3 "halved" 1 D_halved) {f : Addr} {fd : FuncData} (Fu : Fun K "law" "law" s_law f fd) : FnOk P w K mg base (L2.CX P w) 6 f fd ["script"] (spD K T 1 D_law) :=
  fn_D (ow' := []) Fu sc_law rfl fun cdv A outer s H E hr => by
    have tk : Takes (cxOf (L2.CX P w) P w K mg base N_law "law" (defScope s_law) f cdv A outer s H E) (fun cls d _ H => E cls d H) := takes_of rfl rfl rfl rfl
    have hpo := passes_of (X := cxOf (L2.CX P w) P w K mg base N_law "law" (defScope s_law) f cdv A outer s H E) rfl
    exact dss_cons (ds_asg (i := 1) (ow' := []) sc_law.nd (de_call c__law_draws hr (by decide) (passAt tk) (da_cons (de_var 0) (da_cons (de_int) (da_nil)))) (by decide) (by decide)) (dss_cons (ds_asg (i := 2) (ow' := []) sc_law.nd (de_call c__law_folds hr (by decide) (passAt tk) (da_cons (de_var 1) (da_cons (de_int) (da_nil)))) (by decide) (by decide)) (dss_cons (ds_asg (i := 3) (ow' := []) sc_law.nd (de_call c__law_row hr (by decide) (passAt tk) (da_cons (de_var 2) (da_nil))) (by decide) (by decide)) (dss_cons (ds_if (DW.dt (dw_or (dt_cmp (op_neD (hu64 hr)) rd_ne (de_call c_halved hr (by decide) (passAt tk) (da_cons (de_var 2) (da_nil))) (de_var 3) (nomark _)) (dw_or1 (dt_cmp (op_neD (hu64 hr)) rd_ne (de_f (df_lc (own := [("k", 9)]) rfl sc_law.nd (di_range2 tx.b_range (da_cons (de_int) (da_cons (de_op op_addAll rd_add (de_callB call_len rc_len tx.b_len (by decide +kernel) (da_cons (de_var 3) (da_nil))) (de_int)) (da_nil)))) (blkOk_by (own := [("k", 9)]) (N := N_law) (sc := defScope s_law) (by decide +kernel)) (by decide) (fun _ _ _ _ _ => dg_name (i := 9) sc_law.nd) (fun _ _ _ _ _ => dts_nil) (fun _ _ _ _ _ => de_call c_crease_at hr (by decide) passNo (da_cons (de_var 2) (da_cons (de_var 9) (da_nil)))))) (de_callTy call_list_of rc_listOf tx.b_list (by decide +kernel) (da_cons (de_var 3) (da_nil))) (nomark _))))) (dss_one (ds_ret (de_bl))) (dss_nil)) (dss_cons (ds_for hpo rfl (di_range1 tx.b_range (da_cons (de_op op_modAll rd_mod (de_callTy call_int1 rc_int tx.b_int (by decide +kernel) (da_cons (de_ix (de_var 1) (de_int)) (da_nil))) (de_int)) (da_nil))) (dg_name (i := 4) sc_law.nd) (by decide) aName_same (dss_one (ds_if (dt_cmp op_gt rd_cmp (de_callB call_len rc_len tx.b_len (by decide +kernel) (da_cons (de_var 3) (da_nil))) (de_int) (nomark _)) (dss_cons (ds_asg (i := 5) (ow' := []) sc_law.nd (de_op op_modAll rd_mod (de_callTy call_int1 rc_int tx.b_int (by decide +kernel) (da_cons (de_ix (de_var 1) (de_op op_addAll rd_add (de_int) (de_var 4))) (da_nil))) (de_callB call_len rc_len tx.b_len (by decide +kernel) (da_cons (de_var 3) (da_nil)))) (by decide) (by decide)) (dss_one (ds_asg (i := 3) (ow' := []) sc_law.nd (de_op op_addAll rd_add (de_op op_addAll rd_add (de_slice (de_var 3) (do_none) (do_some (de_var 5))) (de_tup (da_cons (de_ix (de_str) (de_sm1 F.slot_str_index F.type_str_index mt_sindex md_sindex (de_str) (de_ix (de_var 3) (de_var 5)))) (da_nil)))) (de_slice (de_var 3) (do_some (de_op op_addAll rd_add (de_var 5) (de_int))) (do_none))) (by decide) (by decide)))) (dss_nil)))) (dss_cons (ds_if (dt_cmp (op_eqD (hu64 hr)) rd_eq (de_op op_modAll rd_mod (de_callTy call_int1 rc_int tx.b_int (by decide +kernel) (da_cons (de_ix (de_var 1) (de_int)) (da_nil))) (de_int)) (de_int) (nomark _)) (dss_one (ds_asg (i := 3) (ow' := []) sc_law.nd (de_callTy call_tuple_of rc_tuple tx.b_tuple (by decide +kernel) (da_cons (de_f (df_lc (own := [("k", 9)]) rfl sc_law.nd (di_range1 tx.b_range (da_cons (de_callB call_len rc_len tx.b_len (by decide +kernel) (da_cons (de_var 3) (da_nil))) (da_nil))) (blkOk_by (own := [("k", 9)]) (N := N_law) (sc := defScope s_law) (by decide +kernel)) (by decide) (fun _ _ _ _ _ => dg_name (i := 9) sc_law.nd) (fun _ _ _ _ _ => dts_nil) (fun _ _ _ _ _ => de_ix (de_str) (de_op op_modAll rd_mod (de_op op_fdivAll rd_fdiv (de_callTy call_int1 rc_int tx.b_int (by decide +kernel) (da_cons (de_ix (de_var 1) (de_op op_addAll rd_add (de_int) (de_op op_modAll rd_mod (de_var 9) (de_int)))) (da_nil))) (de_op op_addAll rd_add (de_int) (de_op op_fdivAll rd_fdiv (de_var 9) (de_int)))) (de_int))))) (da_nil))) (by decide) (by decide))) (dss_nil)) (dss_cons (ds_par (i := 6) (j := 7) (ow' := []) rfl sc_law.nd (de_call c__law_due hr (by decide) (passAt tk) (da_cons (de_var 3) (da_nil))) (de_call c_folds_of hr (by decide) (passAt tk) (da_cons (de_var 3) (da_nil))) (by decide) (by decide) (by decide) rfl) (dss_cons (ds_if (DW.dt (dw_or (DW.dt (dw_and (dt_cmp op_isN rd_isN (de_var 6) (de_non) (nomark _)) (dw_and1 (DW.dt (dw_or (dt_cmp (op_neD (hu64 hr)) rd_ne (de_ix (de_var 7) (de_int)) (de_str) (nomark _)) (dw_or1 (dt_cmp (op_neD (hu64 hr)) rd_ne (de_call c__law_row hr (by decide) (passAt tk) (da_cons (de_ix (de_var 7) (de_int)) (da_nil))) (de_var 3) (nomark _)))))))) (dw_or1 (DW.dt (dw_and (dt_cmp op_notN rd_notN (de_var 6) (de_non) (nomark _)) (dw_and1 (dt_cmp (op_neD (hu64 hr)) rd_ne (de_var 7) (de_tup (da_cons (de_str) (da_cons (de_var 6) (da_nil)))) (nomark _)))))))) (dss_one (ds_ret (de_bl))) (dss_nil)) (dss_cons (ds_asgO (i := 8) (ow' := []) sc_law.nd (df_if (dt_cmp op_notN rd_notN (de_var 6) (de_non) (nomark _)) (df_lst (da_cons (de_ix (de_var 7) (de_int)) (da_nil))) (df_lst (da_nil))) (by decide) (by decide)) (dss_cons (ds_for hpo rfl (di_range1 tx.b_range (da_cons (de_int) (da_nil))) (dg_name (i := 9) sc_law.nd) (by decide) aName_same (dss_one (ds_app (i := 8) (de_tup (da_cons (de_op op_modAll rd_mod (de_callTy call_int1 rc_int tx.b_int (by decide +kernel) (da_cons (de_ix (de_var 1) (de_op op_addAll rd_add (de_int) (de_var 9))) (da_nil))) (de_op op_addAll rd_add (de_callB call_len rc_len tx.b_len (by decide +kernel) (da_cons (de_var 3) (da_nil))) (de_int))) (da_cons (de_op op_modAll rd_mod (de_callTy call_int1 rc_int tx.b_int (by decide +kernel) (da_cons (de_ix (de_var 1) (de_op op_addAll rd_add (de_int) (de_var 9))) (da_nil))) (de_op op_addAll rd_add (de_callB call_len rc_len tx.b_len (by decide +kernel) (da_cons (de_var 3) (da_nil))) (de_int))) (da_nil))))))) (dss_in (ow' := []) (dss_cons (ds_if (dt_not (dt_truth (de_callB (cr_all rfl) rc_all tx.b_all (by decide +kernel) (da_cons (de_f (df_lc (own := [("pair", 11)]) rfl sc_law.nd (di_seq (de_op op_addAll rd_add (de_var 8) (de_f (df_lst (da_cons (de_non) (da_cons (de_tup (da_cons (de_int) (da_nil))) (da_cons (de_f (df_lst (da_cons (de_int) (da_cons (de_int) (da_nil))))) (da_cons (de_tup (da_cons (de_bl) (da_cons (de_int) (da_nil)))) (da_cons (de_tup (da_cons (de_int) (da_cons (de_int) (da_cons (de_int) (da_nil))))) (da_cons (de_tup (da_cons (de_str) (da_cons (de_int) (da_nil)))) (da_nil))))))))))) (blkOk_by (own := [("pair", 11)]) (N := N_law) (sc := defScope s_law) (by decide +kernel)) (by decide) (fun _ _ _ _ _ => dg_name (i := 11) sc_law.nd) (fun _ _ _ _ _ => dts_nil) (fun _ _ _ _ _ => de_cmp (op_eqD (hu64 hr)) rd_eq (de_call c_clash_fault hr (by decide) passNo (da_cons (de_var 3) (da_cons (de_var 11) (da_nil)))) (de_call c__law_clash hr (by decide) passNo (da_cons (de_var 3) (da_cons (de_var 11) (da_nil)))) (nomark _)))) (da_nil))))) (dss_one (ds_ret (de_bl))) (dss_nil)) (dss_cons (ds_for hpo rfl (di_seq (de_tup (da_cons (de_non) (da_cons (de_f (df_lst (da_cons (de_str) (da_nil)))) (da_cons (de_tup (da_cons (de_str) (da_nil))) (da_cons (de_tup (da_cons (de_str) (da_cons (de_int) (da_nil)))) (da_nil))))))) (dg_name (i := 10) sc_law.nd) (by decide) aName_same (dss_one (ds_if (DW.dt (dw_or (dt_cmp (op_neD (hu64 hr)) rd_ne (de_call c__law_error hr (by decide) (passAt tk) (da_cons (de_int) (da_cons (de_var 10) (da_cons (de_int) (da_nil))))) (de_str) (nomark _)) (dw_or1 (dt_cmp (op_neD (hu64 hr)) rd_ne (de_call c__law_error hr (by decide) (passAt tk) (da_cons (de_int) (da_cons (de_var 10) (da_cons (de_non) (da_nil))))) (de_str) (nomark _))))) (dss_one (ds_ret (de_bl))) (dss_nil)))) (dss_cons (ds_if (DW.dt (dw_or (dt_cmp (op_neD (hu64 hr)) rd_ne (de_call c__law_error hr (by decide) (passAt tk) (da_cons (de_int) (da_cons (de_op op_mulAll rd_mul (de_tup (da_cons (de_str) (da_nil))) (de_int)) (da_cons (de_int) (da_nil))))) (de_str) (nomark _)) (dw_or1 (dt_cmp (op_neD (hu64 hr)) rd_ne (de_call c__law_error hr (by decide) (passAt tk) (da_cons (de_int) (da_cons (de_op op_mulAll rd_mul (de_tup (da_cons (de_str) (da_nil))) (de_int)) (da_cons (de_int) (da_nil))))) (de_str) (nomark _))))) (dss_one (ds_ret (de_bl))) (dss_nil)) (dss_cons (ds_if (dt_cmp (op_neD (hu64 hr)) rd_ne (de_f (df_lc (own := [("wrong", 10)]) rfl sc_law.nd (di_seq (de_tup (da_cons (de_int) (da_cons (de_neg (de_int)) (da_cons (de_bl) (da_cons (de_non) (da_cons (de_str) (da_nil)))))))) (blkOk_by (own := [("wrong", 10)]) (N := N_law) (sc := defScope s_law) (by decide +kernel)) (by decide) (fun _ _ _ _ _ => dg_name (i := 10) sc_law.nd) (fun _ _ _ _ _ => dts_nil) (fun _ _ _ _ _ => de_call c__law_error hr (by decide) passNo (da_cons (de_int) (da_cons (de_var 10) (da_cons (de_int) (da_nil))))))) (de_op op_mulAll rd_mul (de_f (df_lst (da_cons (de_str) (da_nil)))) (de_int)) (nomark _)) (dss_one (ds_ret (de_bl))) (dss_nil)) (dss_cons (ds_if (dt_cmp (op_neD (hu64 hr)) rd_ne (de_f (df_lc (own := [("wrong", 10)]) rfl sc_law.nd (di_seq (de_tup (da_cons (de_int) (da_cons (de_int) (da_cons (de_bl) (da_cons (de_non) (da_nil))))))) (blkOk_by (own := [("wrong", 10)]) (N := N_law) (sc := defScope s_law) (by decide +kernel)) (by decide) (fun _ _ _ _ _ => dg_name (i := 10) sc_law.nd) (fun _ _ _ _ _ => dts_nil) (fun _ _ _ _ _ => de_call c__law_error hr (by decide) passNo (da_cons (de_int) (da_cons (de_op op_mulAll rd_mul (de_tup (da_cons (de_str) (da_nil))) (de_int)) (da_cons (de_var 10) (da_nil))))))) (de_op op_mulAll rd_mul (de_f (df_lst (da_cons (de_str) (da_nil)))) (de_int)) (nomark _)) (dss_one (ds_ret (de_bl))) (dss_nil)) (dss_cons (ds_for hpo rfl (di_seq (de_tup (da_cons (de_non) (da_cons (de_tup (da_cons (de_str) (da_cons (de_str) (da_nil)))) (da_cons (de_f (df_lst (da_cons (de_str) (da_nil)))) (da_cons (de_tup (da_cons (de_str) (da_nil))) (da_cons (de_tup (da_cons (de_str) (da_cons (de_str) (da_cons (de_non) (da_nil))))) (da_cons (de_tup (da_cons (de_str) (da_nil))) (da_cons (de_str) (da_nil)))))))))) (dg_name (i := 10) sc_law.nd) (by decide) aName_same (dss_one (ds_if (DW.dt (dw_or (dt_cmp (op_neD (hu64 hr)) rd_ne (de_call c__law_error hr (by decide) (passAt tk) (da_cons (de_int) (da_cons (de_var 10) (da_cons (de_int) (da_nil))))) (de_str) (nomark _)) (dw_or1 (dt_cmp (op_neD (hu64 hr)) rd_ne (de_call c__law_error hr (by decide) (passAt tk) (da_cons (de_int) (da_cons (de_var 10) (da_cons (de_tup (da_cons (de_int) (da_cons (de_int) (da_nil)))) (da_nil))))) (de_str) (nomark _))))) (dss_one (ds_ret (de_bl))) (dss_nil)))) (dss_one (ds_ret (de_and (de_cmp (op_eqD (hu64 hr)) rd_eq (de_call c_folds_of hr (by decide) (passAt tk) (da_cons (de_tup (da_nil)) (da_nil))) (de_tup (da_cons (de_str) (da_cons (de_tup (da_nil)) (da_nil)))) (nomark _)) (de_one (de_call c__law_are_great hr (by decide) (passAt tk) (da_cons (de_var 1) (da_nil))))))))))))) (by decide)))))))))))
end
end Lw
namespace Lw
open PySem PySem.Spec PyProof.Rows L2 Dl
def cD (b : Bool) : Dat := .str (if b then "V" else "M")
def fD (b : Bool) : Dat := .str (if b then "over" else "under")
/-! ### the plain rows -/
/-- crease n of a strip with the folds fr, the last first -/
def cr : List Bool → Nat → Bool
  | [], _ => false
  | f :: fs, n => if n % 2 = 1 then xor f (n / 2 % 2 == 1) else cr fs (n / 2)
theorem cr_odd (f : Bool) (fs : List Bool) (k : Nat) : cr (f :: fs) (2 * k + 1) = xor f (k % 2 == 1) := by
  unfold cr
  rw [if_pos (by omega), show (2 * k + 1) / 2 = k by omega]
theorem cr_even (f : Bool) (fs : List Bool) (k : Nat) : cr (f :: fs) (2 * k) = cr fs k := by
  show (if 2 * k % 2 = 1 then _ else _) = _
  rw [if_neg (by omega), show 2 * k / 2 = k by omega]
theorem dec : ∀ n : Nat, 1 ≤ n → ∃ L k, n = 2 ^ L * (2 * k + 1)
  | n, h => by
    by_cases z : n % 2 = 1
    · exact ⟨0, n / 2, by omega⟩
    · obtain ⟨L, k, e⟩ := dec (n / 2) (by omega)
      exact ⟨L + 1, k, by rw [Nat.pow_succ, Nat.mul_comm (2 ^ L) 2, Nat.mul_assoc, ← e]; omega⟩
termination_by n => n
theorem cr_dec : ∀ (fr : List Bool) (L k : Nat) (f : Bool), fr[L]? = some f → cr fr (2 ^ L * (2 * k + 1)) = xor f (k % 2 == 1)
  | [], L, k, f, h => by cases h
  | g :: fs, 0, k, f, h => by
    cases h
    rw [Nat.pow_zero, Nat.one_mul]
    exact cr_odd _ _ _
  | g :: fs, L + 1, k, f, h => by
    rw [Nat.pow_succ, Nat.mul_comm (2 ^ L) 2, Nat.mul_assoc, cr_even]
    exact cr_dec fs L k f (by rw [List.getElem?_cons_succ] at h; exact h)
theorem lev_lt {L k n : Nat} (h : 2 ^ L * (2 * k + 1) < 2 ^ n) : L < n := by
  refine (Nat.pow_lt_pow_iff_right (a := 2) (by decide)).mp (Nat.lt_of_le_of_lt ?_ h)
  exact Nat.le_mul_of_pos_right _ (by omega)
def rowN (fr : List Bool) : List Bool := (List.range (2 ^ fr.length - 1)).map fun i => cr fr (i + 1)
theorem rowN_len (fr : List Bool) : (rowN fr).length = 2 ^ fr.length - 1 := by unfold rowN; rw [List.length_map, List.length_range]
theorem rowN_get (fr : List Bool) {i : Nat} (h : i + 1 < 2 ^ fr.length) : (rowN fr)[i]? = some (cr fr (i + 1)) := by
  unfold rowN
  rw [List.getElem?_map, List.getElem?_range (by omega)]
  rfl
/-! ### small values -/
theorem fD_V (b : Bool) : eqD (cD b) (.str "V") = some (.bl b) := by cases b <;> kernel_rfl
theorem fD_o (b : Bool) : eqD (fD b) (.str "over") = some (.bl b) := by cases b <;> kernel_rfl
theorem fD_u (b : Bool) : eqD (fD b) (.str "under") = some (.bl !b) := by cases b <;> kernel_rfl
theorem oth (b : Bool) : tabD tab_OTHERS (cD b) = some (cD !b) := by cases b <;> rfl
theorem eqv_c (a b : Bool) : eqvD (cD a) (cD b) = (a == b) := by cases a <;> cases b <;> rfl
theorem eqv_f (a b : Bool) : eqvD (fD a) (fD b) = (a == b) := by cases a <;> cases b <;> rfl
theorem eqvs_map {g : Bool → Dat} (h : ∀ a b, eqvD (g a) (g b) = (a == b)) : ∀ l m : List Bool, eqvDs (l.map g) (m.map g) = (l == m)
  | [], [] => by rfl
  | [], _ :: _ => by rfl
  | _ :: _, [] => by rfl
  | a :: l, b :: m => by
    show (eqvD (g a) (g b) && eqvDs (l.map g) (m.map g)) = _
    rw [h, eqvs_map h l m]
    rfl
theorem shp_str {n : Nat} {z : Str} (h : (z.cps.all fun c => decide (c < 0x110000)) = true) : shp n (.str z) = true := by
  cases n <;> (unfold shp; exact h)
theorem shp_c (n : Nat) (b : Bool) : shp n (cD b) = true := by cases b <;> exact shp_str (by decide +kernel)
theorem shp_f (n : Nat) (b : Bool) : shp n (fD b) = true := by cases b <;> exact shp_str (by decide +kernel)
theorem shp_tup {n : Nat} {g : Bool → Dat} (h : ∀ b, shp n (g b) = true) (l : List Bool) : shp (n + 1) (.tup (l.map g)) = true := by
  show (l.map g).all (shp n) = true
  rw [List.all_map, List.all_eq_true]
  exact fun b _ => h b
theorem ne_c (l m : List Bool) : neD (.tup (l.map cD)) (.tup (m.map cD)) = some (.bl (!(l == m))) := by
  unfold neD
  rw [shp_tup (n := 7) (shp_c 7), shp_tup (n := 7) (shp_c 7)]
  show some (Dat.bl (!eqvDs (l.map cD) (m.map cD))) = _
  rw [eqvs_map eqv_c]
theorem at_nat {α : Type} {l : List α} {i : Nat} (h : i < l.length) : atI l (i : Int) = l[i]? := by
  unfold atI ixN
  rw [if_pos (by omega), if_pos (by omega), Int.toNat_natCast]
  rfl
theorem at_int {α : Type} {l : List α} {j : Int} {i : Nat} (e : j = i) (h : i < l.length) : atI l j = l[i]? := by rw [e, at_nat h]
/-! ### level_of -/
theorem lev_loop : ∀ (L k c n : Nat), L < n → whileL (vTest (vOp eqD (vOp modD (vVar 0) (vC (.int 2))) (vC (.int 0)))) (sSeq (sAug 0 (intOp ifdivI) (vC (.int 2))) (sAug 1 iaddD (vC (.int 1)))) n [some (.int ((2 ^ L * (2 * k + 1) : Nat) : Int)), some (.int c)] = .nx [some (.int ((2 * k + 1 : Nat) : Int)), some (.int ((c + L : Nat) : Int))]
  | 0, k, c, n + 1, _ => by
    rw [Nat.pow_zero, Nat.one_mul]
    refine whileL_f ?_
    refine test_ok (op_ok (x := .int 1) (y := .int 0) (op_ok (x := .int ((2 * k + 1 : Nat) : Int)) (y := .int 2) rfl rfl ?_) rfl ?_)
    · rw [mod_c (by decide)]
      congr 2
      omega
    · kernel_rfl
  | L + 1, k, c, n + 1, h => by
    have e : ((2 ^ (L + 1) * (2 * k + 1) : Nat) : Int) = 2 * ((2 ^ L * (2 * k + 1) : Nat) : Int) := by
      rw [Nat.pow_succ, Nat.mul_comm (2 ^ L) 2, Nat.mul_assoc]
      push_cast
      rfl
    rw [e]
    generalize hm : ((2 ^ L * (2 * k + 1) : Nat) : Int) = m
    refine (whileL_t (ρ2 := [some (.int m), some (.int ((c + 1 : Nat) : Int))]) ?_ ?_).trans ?_
    · refine test_ok (op_ok (x := .int 0) (y := .int 0) (op_ok (x := .int (2 * m)) (y := .int 2) rfl rfl ?_) rfl ?_)
      · rw [mod_c (by decide)]
        congr 2
        omega
      · kernel_rfl
    · refine (seq_nx (ρ' := [some (.int m), some (.int c)]) ?_).trans ?_
      · refine aug_ok (d := .int (2 * m)) (e := .int 2) (z := .int m) rfl rfl ?_
        show (ifdivI (2 * m) 2).map Dat.int = _
        unfold ifdivI
        rw [if_pos ⟨by decide, by decide⟩]
        show some (Dat.int (2 * m / 2)) = _
        congr 2
        omega
      · rfl
    · rw [← hm, lev_loop L k (c + 1) n (by omega)]
      rw [show c + 1 + L = c + (L + 1) by omega]
theorem lev_eq {n L k : Nat} (e : n = 2 ^ L * (2 * k + 1)) (hL : L < 1000) : D_level_of [.int (n : Int)] = .ok (.tup [.int L, .int k]) := by
  have hp : 1 ≤ 2 ^ L * (2 * k + 1) := Nat.mul_pos (Nat.pow_pos (by decide)) (by omega)
  rw [← e] at hp
  refine run_rt ?_
  refine (seq_nx (ρ' := [some (.int (n : Int)), none]) ?_).trans ?_
  · refine (if_f ?_).trans rfl
    rw [or_f (by exact not_ok (tru_ok (d := .bl true) (b := true) rfl rfl)), or_f (by exact tru_ok (d := .bl false) rfl rfl)]
    refine test_ok (op_ok (x := .int (n : Int)) (y := .int 1) rfl rfl ?_)
    show some (Dat.bl (decide ((n : Int) < 1))) = _
    rw [decide_eq_false (by omega)]
  · refine (seq_nx (ρ' := [some (.int (n : Int)), some (.int ((0 : Nat) : Int))]) rfl).trans ?_
    refine (seq_nx (ρ' := [some (.int ((2 * k + 1 : Nat) : Int)), some (.int L)]) ?_).trans ?_
    · rw [e]
      have := lev_loop L k 0 1000000 (by omega)
      rw [Nat.zero_add] at this
      exact this
    · refine ret_ok (tup_ok (ac_ok (x := .int L) rfl (ac_ok (x := .int k) (op_ok (x := .int ((2 * k + 1 : Nat) : Int)) (y := .int 2) rfl rfl ?_) an_ok)) (by show 2 ≤ 1000; decide))
      rw [fdiv_c (by decide) (by decide)]
      congr 2
      omega
/-! ### two_to -/
theorem two_eq {n : Nat} (h : n < 1000) : D_two_to [.int (n : Int)] = .ok (.int ((2 ^ n : Nat) : Int)) := by
  refine run_rt ?_
  refine (seq_nx (ρ' := [some (.int (n : Int)), some (.int 1), none]) rfl).trans ?_
  obtain ⟨ρ', e, y, rfl⟩ := forL_inv (asg := aName 2) (F := sAug 1 (intOp imulI) (vC (.int 2))) (l := rng 0 n) (ρ := [some (.int (n : Int)), some (.int 1), none])
    (fun k ρ => ∃ y, ρ = [some (.int (n : Int)), some (.int ((2 ^ k : Nat) : Int)), y]) ⟨none, rfl⟩ fun k d ρ hk hp => by
      obtain ⟨y, rfl⟩ := hp
      refine ⟨_, [some (.int (n : Int)), some (.int ((2 ^ (k + 1) : Nat) : Int)), some d], rfl, .inl ?_, some d, rfl⟩
      refine aug_ok (d := .int ((2 ^ k : Nat) : Int)) (e := .int 2) (z := .int ((2 ^ (k + 1) : Nat) : Int)) rfl rfl ?_
      show (imulI _ 2).map Dat.int = _
      unfold imulI
      rw [if_pos (.inr (by decide))]
      show some (Dat.int (((2 ^ k : Nat) : Int) * 2)) = _
      congr 2
  rw [rng_len] at e
  refine (seq_nx (ρ' := [some (.int (n : Int)), some (.int ((2 ^ n : Nat) : Int)), y]) ?_).trans rfl
  rw [for_ok (l := rng 0 n)]
  · exact e
  · refine ga_ok (ac_ok (x := .int n) rfl an_ok) ?_
    show (if big62 (n : Int) = true then Res.ok (rng 0 (n : Int).toNat) else .stuck) = _
    rw [if_pos, Int.toNat_natCast]
    unfold big62
    rw [decide_eq_true, decide_eq_true] <;> first | rfl | omega
end Lw
namespace Lw
open PySem PySem.Spec PyProof.Rows L2 Dl
/-! ### one crease -/
theorem len_tup {l : List Dat} : lenD [.tup l] = some (.int l.length) := rfl
theorem rev_at (fr : List Bool) {L : Nat} (h : L < fr.length) : ((fr.reverse).map fD)[fr.length - 1 - L]? = some (fD fr[L]) := by
  rw [List.getElem?_map, List.getElem?_reverse (by omega), show fr.length - 1 - (fr.length - 1 - L) = L by omega, List.getElem?_eq_getElem h]
  rfl
theorem crease_eq (fr : List Bool) {n : Nat} (h1 : 1 ≤ n) (h2 : n < 2 ^ fr.length) (hl : fr.length ≤ 900) : D__crease [.tup ((fr.reverse).map fD), .int (n : Int)] = .ok (cD (cr fr n)) := by
  obtain ⟨L, k, e⟩ := dec n h1
  have hL : L < fr.length := lev_lt (e ▸ h2)
  rw [show cr fr n = xor fr[L] (k % 2 == 1) by rw [e]; exact cr_dec fr L k _ (List.getElem?_eq_getElem hL)]
  refine run_rt ?_
  refine (seq_nx (ρ' := [some (.tup ((fr.reverse).map fD)), some (.int (n : Int)), some (.int L), some (.int k), none]) ?_).trans ?_
  · exact asgT_ok (d := .tup [.int L, .int k]) (call_ok (l := [.int (n : Int)]) (ac_ok rfl an_ok) rfl (lev_eq e (by omega))) rfl
  have hx : vOp ixD (vVar 0) (vOp subD (vOp subD (vCB lenD (aCons (vVar 0) (aNil))) (vC (.int 1))) (vVar 2)) [some (.tup ((fr.reverse).map fD)), some (.int (n : Int)), some (.int L), some (.int k), none] = .ok (fD fr[L]) := by
    refine op_ok (x := .tup ((fr.reverse).map fD)) (y := .int (((fr.reverse).map fD).length - 1 - L : Int)) rfl rfl ?_
    show atI _ _ = _
    rw [List.length_map, List.length_reverse, at_int (i := fr.length - 1 - L) (by omega) (by rw [List.length_map, List.length_reverse]; omega)]
    exact rev_at fr hL
  refine (seq_nx (ρ' := [some (.tup ((fr.reverse).map fD)), some (.int (n : Int)), some (.int L), some (.int k), some (cD fr[L])]) ?_).trans ?_
  · refine (asg_ok (d := cD fr[L]) ?_).trans rfl
    have ht := test_ok (op_ok (f2 := vC (.str "over")) hx (y := .str "over") rfl (fD_o _))
    cases q : fr[L] with
    | true =>
      rw [q] at ht
      exact (vif_t ht).trans rfl
    | false =>
      rw [q] at ht
      exact (vif_f ht).trans rfl
  · have hm : vTest (vOp eqD (vOp modD (vVar 3) (vC (.int 2))) (vC (.int 0))) [some (.tup ((fr.reverse).map fD)), some (.int (n : Int)), some (.int L), some (.int k), some (cD fr[L])] = .ok (!(k % 2 == 1)) := by
      have : modD (.int k) (.int 2) = some (.int ((k % 2 : Nat) : Int)) := by
        rw [mod_c (by decide)]
        rfl
      refine test_ok (op_ok (op_ok (x := .int k) (y := .int 2) rfl rfl this) (y := .int 0) rfl ?_)
      rcases Nat.mod_two_eq_zero_or_one k with z | z <;> rw [z] <;> kernel_rfl
    refine ret_ok ?_
    cases q : (k % 2 == 1) with
    | true =>
      rw [q] at hm
      refine (vif_f hm).trans ?_
      refine v1_ok (x := cD fr[L]) rfl ?_
      rw [oth, Bool.xor_true]
    | false =>
      rw [q] at hm
      refine (vif_t hm).trans ?_
      rw [Bool.xor_false]
      rfl
/-! ### halved -/
theorem whole_tests {P : Bool → Prop} (h : ∀ b, P b) : P true ∧ P false := ⟨h _, h _⟩
theorem bools_true {α : Type} (l : List α) : boolsD (l.map fun _ => Dat.bl true) = some (l.map fun _ => true) := by
  induction l with
  | nil => rfl
  | cons a r ih =>
    show (boolsD (r.map fun _ => Dat.bl true)).map _ = _
    rw [ih]
    rfl
theorem all_true {α : Type} (l : List α) : allD [.lst (l.map fun _ => Dat.bl true)] = some (.bl true) := by
  show (boolsD _).map _ = _
  rw [bools_true]
  show some (Dat.bl ((l.map fun _ => true).all id)) = _
  rw [List.all_map]
  congr 2
  rw [List.all_eq_true]
  exact fun _ _ => rfl
theorem in_f (b : Bool) : inD false (fD b) (.tup [.str "over", .str "under"]) = some (.bl true) := by cases b <;> kernel_rfl
theorem in_c (b : Bool) : inD false (cD b) (.tup [.str "M", .str "V"]) = some (.bl true) := by cases b <;> kernel_rfl
theorem check_eq (fs : List Bool) {m : Nat} (hm : m ≤ 1000) (hl : fs.length ≤ m) : D_check_folds [.tup (fs.map fD), .int (m : Int)] = .ok .non := by
  refine run_nx (ρ := [some (.tup (fs.map fD)), some (.int (m : Int)), none]) ?_
  refine (seq_nx (ρ' := [some (.tup (fs.map fD)), some (.int (m : Int)), none]) ?_).trans ?_
  · refine (if_f ?_).trans rfl
    refine (or_f (by exact not_ok (tru_ok (d := .bl true) (b := true) rfl rfl))).trans ?_
    refine test_ok (op_ok (x := .int ((fs.map fD).length : Nat)) (y := .int (m : Int)) rfl rfl ?_)
    show some (Dat.bl (decide ((m : Int) < ((fs.map fD).length : Nat)))) = _
    rw [List.length_map, decide_eq_false (by omega)]
  · refine (if_f ?_).trans rfl
    refine not_ok (b := true) (tru_ok (d := .bl true) (cb_ok (ac_ok (vl_ok (l := fs.map fun _ => Dat.bl true) ?_) an_ok) (all_true fs)) rfl)
    refine lc_ok (l := fs.map fD) rfl (by rw [List.length_map]; omega) (lcL_of fun b _ => ⟨_, rfl, ?_⟩)
    refine (vand_t (v1_ok (x := fD b) rfl rfl)).trans ?_
    exact op_ok (x := fD b) (y := .tup [.str "over", .str "under"]) rfl rfl (in_f b)
theorem range2_nat {a b : Nat} (ha : a < 2 ^ 40) (hb : b < 2 ^ 40) : range2D [.int (a : Int), .int (b : Int)] = .ok (rng a (b - a)) := by
  show (if (big62 (a : Int) && big62 (b : Int)) = true then Res.ok (rng a ((b : Int) - (a : Int)).toNat) else .stuck) = _
  rw [if_pos, show ((b : Int) - (a : Int)).toNat = b - a by omega]
  unfold big62
  rw [decide_eq_true, decide_eq_true, decide_eq_true, decide_eq_true] <;> first | rfl | omega
theorem halved_eq (fr : List Bool) (hl : fr.length ≤ 12) : D_halved [.tup ((fr.reverse).map fD)] = .ok (.tup ((rowN fr).map cD)) := by
  have hp : 2 ^ fr.length ≤ 4096 := Nat.pow_le_pow_right (n := 2) (by decide) hl
  refine run_rt ?_
  refine (seq_nx (ρ' := [some (.tup ((fr.reverse).map fD)), none]) ?_).trans ?_
  · exact drop_ok (d := .non) (call_ok (l := [.tup ((fr.reverse).map fD), .int ((12 : Nat) : Int)]) rfl rfl (check_eq (m := 12) fr.reverse (by decide) (by rw [List.length_reverse]; exact hl)))
  · refine ret_ok (cb_ok (ac_ok (vl_ok (l := (rowN fr).map cD) ?_) an_ok) rfl)
    refine lc_ok (l := rng 1 (2 ^ fr.length - 1)) ?_ (by rw [rng_len]; omega) ?_
    · refine ga_ok (l := [.int ((1 : Nat) : Int), .int ((2 ^ fr.length : Nat) : Int)]) (ac_ok rfl (ac_ok (call_ok (l := [.int ((fr.length : Nat) : Int)]) (ac_ok (cb_ok (ac_ok (x := .tup ((fr.reverse).map fD)) rfl an_ok) ?_) an_ok) rfl (two_eq (by omega))) an_ok)) (range2_nat (by decide) (by omega))
      rw [len_tup, List.length_map, List.length_reverse]
    · unfold rng rowN
      rw [List.map_map]
      refine lcL_of (e := fun i : Nat => Dat.int ((1 : Nat) + (i : Nat) : Int)) (g := fun i : Nat => cD (cr fr (i + 1))) fun i hi => ⟨_, rfl, ?_⟩
      rw [List.mem_range] at hi
      refine call_ok (l := [.tup ((fr.reverse).map fD), .int ((i + 1 : Nat) : Int)]) ?_ rfl (crease_eq fr (by omega) (by omega) (by omega))
      rw [show ((i + 1 : Nat) : Int) = ((1 : Nat) + (i : Nat) : Int) by omega]
      rfl
end Lw
namespace Lw
open PySem PySem.Spec PyProof.Rows L2 Dl
theorem ext_ok {i : Nat} {f : DEnv → Res Dat} {ρ : DEnv} {l m : List Dat} (hi : ρ[i]? = some (some (.lst l))) (h : f ρ = .ok (.lst m)) (hl : l.length + m.length ≤ 10000000) : sExt i f ρ = .nx (ρ.set i (some (.lst (l ++ m)))) := by
  unfold sExt
  rw [hi]
  show rBind (f ρ) ρ _ = _
  rw [h]
  show (if l.length + m.length ≤ 10000000 then _ else _) = _
  rw [if_pos hl]
theorem cut_nn {α : Type} (l : List α) {i j : Nat} (hi : i ≤ l.length) (hj : j ≤ l.length) : Dl.cutD l (some (i : Int)) (some (j : Int)) = (l.drop i).take (j - i) := by
  unfold Dl.cutD
  rw [HT.sIx_nat, HT.sIx_nat, Nat.min_eq_left hi, Nat.min_eq_left hj]
theorem cut_from {α : Type} (l : List α) {i : Nat} (hi : i ≤ l.length) : Dl.cutD l (some (i : Int)) none = l.drop i := by
  unfold Dl.cutD
  rw [HT.sIx_nat, Nat.min_eq_left hi]
  show (l.drop i).take (l.length - i) = _
  rw [List.take_of_length_le (by rw [List.length_drop]; exact Nat.le_refl _)]
theorem sign_of (b : Bool) : ixD (.lst [.str "V", .str "M"]) (.int (if b then 1 else 0)) = some (cD !b) := by cases b <;> rfl
def rowC (g : List Bool) (N : Nat) : List Dat := (List.range N).map fun i => cD (cr g (i + 1))
theorem rowC_len (g : List Bool) (N : Nat) : (rowC g N).length = N := by unfold rowC; rw [List.length_map, List.length_range]
theorem rowC_succ (g : List Bool) (N : Nat) : rowC g N ++ [cD (cr g (N + 1))] = rowC g (N + 1) := by unfold rowC; rw [List.range_succ, List.map_append]; rfl
theorem rowC_rowN (g : List Bool) : rowC g (2 ^ g.length - 1) = (rowN g).map cD := by unfold rowC rowN; rw [List.map_map]; rfl
theorem rowC_get (g : List Bool) {N i : Nat} (h : i < N) : (rowC g N)[i]? = some (cD (cr g (i + 1))) := by unfold rowC; rw [List.getElem?_map, List.getElem?_range h]; rfl
theorem take1 {α : Type} {l : List α} {i : Nat} {a : α} (h : l[i]? = some a) : (l.drop i).take 1 = [a] := by
  obtain ⟨h1, h2⟩ := List.getElem?_eq_some_iff.mp h
  rw [List.drop_eq_getElem_cons h1, h2]
  rfl
def B1 : DEnv → DFlow := sSeq (sApp 3 (vVar 4)) (sSeq (sAsg 4 (vOp ixD (vL (fLst (aCons (vC (.str "V")) (aCons (vC (.str "M")) (aNil))))) (vCB intD (aCons (vOp eqD (vVar 4) (vC (.str "V"))) (aNil))))) (sExt 3 (vSl (vVar 1) (oSome (vVar 5)) (oSome (vOp addD (vVar 5) (vC (.int 1)))))))
def B2 : DEnv → DFlow := sSeq (sParO 3 4 (fLst (aNil)) (vOp ixD (vL (fLst (aCons (vC (.str "V")) (aCons (vC (.str "M")) (aNil))))) (vCB intD (aCons (vOp eqD (vVar 2) (vC (.str "under"))) (aNil))))) (sSeq (sFor (gA range1D (aCons (vOp addD (vCB lenD (aCons (vVar 1) (aNil))) (vC (.int 1))) (aNil))) (aName 5) B1) (sAsg 1 (vVar 3)))
theorem b1_turn {a c : Option Dat} {fr : List Bool} {f : Bool} {j m : Nat} (hm : m = 2 ^ fr.length - 1) (hj : j ≤ m) (h2 : m < 100000) :
    B1 [a, some (.lst (rowC fr m)), c, some (.lst (rowC (f :: fr) (2 * j))), some (cD (xor f (j % 2 == 1))), some (.int (j : Int))] = .nx [a, some (.lst (rowC fr m)), c, some (.lst (rowC (f :: fr) (min (2 * (j + 1)) (2 * m + 1)))), some (cD (xor f ((j + 1) % 2 == 1))), some (.int (j : Int))] := by
  refine (seq_nx (ρ' := [a, some (.lst (rowC fr m)), c, some (.lst (rowC (f :: fr) (2 * j + 1))), some (cD (xor f (j % 2 == 1))), some (.int (j : Int))]) ?_).trans ?_
  · refine (app_ok (d := cD (xor f (j % 2 == 1))) (l := rowC (f :: fr) (2 * j)) rfl rfl (by rw [rowC_len]; omega)).trans ?_
    rw [← cr_odd, rowC_succ]
    rfl
  refine (seq_nx (ρ' := [a, some (.lst (rowC fr m)), c, some (.lst (rowC (f :: fr) (2 * j + 1))), some (cD (xor f ((j + 1) % 2 == 1))), some (.int (j : Int))]) ?_).trans ?_
  · refine (asg_ok (d := cD (xor f ((j + 1) % 2 == 1))) ?_).trans rfl
    refine op_ok (x := .lst [.str "V", .str "M"]) (y := .int (if (xor f (j % 2 == 1)) then 1 else 0)) rfl (cb_ok (ac_ok (x := .bl (xor f (j % 2 == 1))) (op_ok (x := cD (xor f (j % 2 == 1))) (y := .str "V") rfl rfl (fD_V _)) an_ok) rfl) ?_
    rw [sign_of]
    congr 2
    rcases Nat.mod_two_eq_zero_or_one j with z | z
    · rw [z, show (j + 1) % 2 = 1 by omega]; cases f <;> rfl
    · rw [z, show (j + 1) % 2 = 0 by omega]; cases f <;> rfl
  have hs : vSl (vVar 1) (oSome (vVar 5)) (oSome (vOp addD (vVar 5) (vC (.int 1)))) [a, some (.lst (rowC fr m)), c, some (.lst (rowC (f :: fr) (2 * j + 1))), some (cD (xor f ((j + 1) % 2 == 1))), some (.int (j : Int))] = .ok (.lst (Dl.cutD (rowC fr m) (some (j : Int)) (some ((j + 1 : Nat) : Int)))) :=
    sl_ok (x := .lst (rowC fr m)) rfl (os_ok rfl) (os_ok rfl) rfl
  by_cases z : j < m
  · have e : Dl.cutD (rowC fr m) (some (j : Int)) (some ((j + 1 : Nat) : Int)) = [cD (cr (f :: fr) (2 * j + 1 + 1))] := by
      rw [cut_nn _ (by rw [rowC_len]; omega) (by rw [rowC_len]; omega), show j + 1 - j = 1 by omega, take1 (rowC_get fr z), show 2 * j + 1 + 1 = 2 * (j + 1) by omega, cr_even]
    rw [e] at hs
    refine (ext_ok (l := rowC (f :: fr) (2 * j + 1)) rfl hs (by rw [rowC_len]; show 2 * j + 1 + 1 ≤ _; omega)).trans ?_
    rw [rowC_succ, show min (2 * (j + 1)) (2 * m + 1) = 2 * j + 1 + 1 by omega]
    rfl
  · have e : Dl.cutD (rowC fr m) (some (j : Int)) (some ((j + 1 : Nat) : Int)) = [] := by
      unfold Dl.cutD
      rw [HT.sIx_nat, HT.sIx_nat, rowC_len, show min (j + 1) m - min j m = 0 by omega, List.take_zero]
    rw [e] at hs
    refine (ext_ok (l := rowC (f :: fr) (2 * j + 1)) rfl hs (by rw [rowC_len]; show 2 * j + 1 + 0 ≤ _; omega)).trans ?_
    rw [List.append_nil, show min (2 * (j + 1)) (2 * m + 1) = 2 * j + 1 by omega]
    rfl
theorem range1_nat {b : Nat} (hb : b < 2 ^ 40) : range1D [.int (b : Int)] = .ok (rng 0 b) := by
  show (if big62 (b : Int) = true then Res.ok (rng 0 (b : Int).toNat) else .stuck) = _
  rw [if_pos, Int.toNat_natCast]
  unfold big62
  rw [decide_eq_true, decide_eq_true] <;> first | rfl | omega
theorem parO_ok {i j : Nat} {f : DEnv → Res (List Dat)} {g : DEnv → Res Dat} {ρ : DEnv} {l : List Dat} {d : Dat} (h1 : f ρ = .ok l) (h2 : g ρ = .ok d) : sParO i j f g ρ = .nx ((ρ.set i (some (.lst l))).set j (some d)) := by
  unfold sParO
  rw [h1]
  show rBind (g ρ) ρ _ = _
  rw [h2]
  rfl
theorem b2_turn {a x y z : Option Dat} {fr : List Bool} {f : Bool} (hl : fr.length ≤ 12) : ∃ x' y' z', B2 [a, some (.lst ((rowN fr).map cD)), some (fD f), x, y, z] = .nx [a, some (.lst ((rowN (f :: fr)).map cD)), some (fD f), x', y', z'] := by
  have hp : 2 ^ fr.length ≤ 4096 := Nat.pow_le_pow_right (n := 2) (by decide) hl
  have hp1 : 1 ≤ 2 ^ fr.length := Nat.pow_pos (by decide)
  obtain ⟨m, hm⟩ : ∃ m, m = 2 ^ fr.length - 1 := ⟨_, rfl⟩
  rw [← rowC_rowN, ← rowC_rowN, ← hm]
  obtain ⟨ρ', e, y', z', rfl, -⟩ := forL_inv (asg := aName 5) (F := B1) (l := rng 0 (m + 1)) (ρ := [a, some (.lst (rowC fr m)), some (fD f), some (.lst []), some (cD f), z])
    (fun k ρ => ∃ y' z', ρ = [a, some (.lst (rowC fr m)), some (fD f), some (.lst (rowC (f :: fr) (min (2 * k) (2 * m + 1)))), some y', z'] ∧ (k ≤ m → y' = cD (xor f (k % 2 == 1)))) ⟨cD f, z, rfl, fun _ => by rw [show (0 % 2 == 1) = false from rfl, Bool.xor_false]⟩ fun k d ρ hk hp => by
      obtain ⟨y', z', rfl, h⟩ := hp
      obtain ⟨hk', rfl⟩ := rng_get hk
      rw [h (by omega), show min (2 * k) (2 * m + 1) = 2 * k by omega]
      refine ⟨_, _, rfl, .inl ?_, cD (xor f ((k + 1) % 2 == 1)), some (.int ((k : Nat) : Int)), rfl, fun _ => rfl⟩
      have := b1_turn (a := a) (c := some (fD f)) (f := f) (j := k) hm (by omega) (by omega)
      rw [show ((0 : Int) + (k : Nat)) = ((k : Nat) : Int) by omega]
      exact this
  rw [rng_len] at e
  refine ⟨some (.lst (rowC (f :: fr) (2 * m + 1))), some y', z', ?_⟩
  refine (seq_nx (ρ' := [a, some (.lst (rowC fr m)), some (fD f), some (.lst []), some (cD f), z]) ?_).trans ?_
  · refine (parO_ok (l := []) (d := cD f) rfl ?_).trans rfl
    refine op_ok (x := .lst [.str "V", .str "M"]) (y := .int (if (!f) then 1 else 0)) rfl (cb_ok (ac_ok (x := .bl !f) (op_ok (x := fD f) (y := .str "under") rfl rfl (fD_u _)) an_ok) rfl) ?_
    rw [sign_of, Bool.not_not]
  refine (seq_nx (ρ' := [a, some (.lst (rowC fr m)), some (fD f), some (.lst (rowC (f :: fr) (min (2 * (m + 1)) (2 * m + 1)))), some y', z']) ?_).trans ?_
  · rw [for_ok (l := rng 0 (m + 1))]
    · exact e
    · refine ga_ok (l := [.int ((m + 1 : Nat) : Int)]) (ac_ok (op_ok (x := .int ((rowC fr m).length : Nat)) (y := .int 1) rfl rfl ?_) an_ok) (range1_nat (by omega))
      rw [rowC_len]
      rfl
  · rw [show min (2 * (m + 1)) (2 * m + 1) = 2 * m + 1 by omega, show 2 ^ (f :: fr).length - 1 = 2 * m + 1 by rw [List.length_cons, Nat.pow_succ, hm]; omega]
    exact asg_ok rfl
theorem lawrow_eq (fr : List Bool) (hl : fr.length ≤ 12) : D__law_row [.tup ((fr.reverse).map fD)] = .ok (.tup ((rowN fr).map cD)) := by
  refine run_rt ?_
  obtain ⟨ρ', e, x2, x3, x4, x5, rfl⟩ := forL_inv (asg := aName 2) (F := B2) (l := (fr.reverse).map fD) (ρ := [some (.tup ((fr.reverse).map fD)), some (.lst []), none, none, none, none])
    (fun k ρ => ∃ x2 x3 x4 x5, ρ = [some (.tup ((fr.reverse).map fD)), some (.lst ((rowN ((fr.reverse).take k).reverse).map cD)), x2, x3, x4, x5]) ⟨none, none, none, none, rfl⟩ fun k d ρ hk hp => by
      obtain ⟨x2, x3, x4, x5, rfl⟩ := hp
      rw [List.getElem?_map] at hk
      cases q : (fr.reverse)[k]? with
      | none => rw [q] at hk; cases hk
      | some f =>
        rw [q] at hk
        cases hk
        obtain ⟨x', y', z', e⟩ := b2_turn (a := some (.tup ((fr.reverse).map fD))) (x := x3) (y := x4) (z := x5) (fr := ((fr.reverse).take k).reverse) (f := f) (by rw [List.length_reverse, List.length_take, List.length_reverse]; omega)
        refine ⟨_, _, rfl, .inl e, some (fD f), x', y', z', ?_⟩
        rw [List.take_succ, q, List.reverse_append]
        rfl
  refine (seq_nx (ρ' := [some (.tup ((fr.reverse).map fD)), some (.lst []), none, none, none, none]) rfl).trans ?_
  rw [List.length_map, List.take_length, List.reverse_reverse] at e
  refine (seq_nx (ρ' := [some (.tup ((fr.reverse).map fD)), some (.lst ((rowN fr).map cD)), x2, x3, x4, x5]) ?_).trans ?_
  · rw [for_ok (l := (fr.reverse).map fD)]
    · exact e
    · rfl
  · exact ret_ok rfl
/-! ### a row's checks -/
theorem creases_eq (l : List Bool) (hl : l.length ≤ 10000) : D_are_creases [.tup (l.map cD)] = .ok (.bl true) := by
  refine run_rt (ret_ok ((vand_t (v1_ok (x := .tup (l.map cD)) rfl rfl)).trans ?_))
  refine cb_ok (ac_ok (vl_ok (l := l.map fun _ => Dat.bl true) ?_) an_ok) (all_true l)
  refine lc_ok (l := l.map cD) rfl (by rw [List.length_map]; omega) (lcL_of fun b _ => ⟨_, rfl, ?_⟩)
  refine (vand_t (v1_ok (x := cD b) rfl rfl)).trans ?_
  exact op_ok (x := cD b) (y := .tup [.str "M", .str "V"]) rfl rfl (in_c b)
theorem checkrow_eq (l : List Bool) {n : Nat} (hn : n ≤ 12) (hl : l.length = 2 ^ n - 1) : D__check_row [.tup (l.map cD)] = .ok (.int n) := by
  have hp : 2 ^ n ≤ 4096 := Nat.pow_le_pow_right (n := 2) (by decide) hn
  have hp1 : 1 ≤ 2 ^ n := Nat.pow_pos (by decide)
  refine run_rt ?_
  refine (seq_nx (ρ' := [some (.tup (l.map cD)), none, none]) ?_).trans ?_
  · refine (if_f ?_).trans rfl
    refine (or_f (by exact not_ok (b := true) (tru_ok (d := .bl true) (call_ok (l := [.tup (l.map cD)]) rfl rfl (creases_eq l (by omega))) rfl))).trans ?_
    refine test_ok (op_ok (x := .int ((l.map cD).length : Nat)) (y := .int ((2 ^ 12 : Nat) : Int)) rfl (call_ok (l := [.int ((12 : Nat) : Int)]) rfl rfl (two_eq (by decide))) ?_)
    show some (Dat.bl (decide (((2 ^ 12 : Nat) : Int) ≤ ((l.map cD).length : Nat)))) = _
    rw [List.length_map, decide_eq_false (by omega)]
  refine (seq_nx (ρ' := [some (.tup (l.map cD)), some (.int n), some (.int ((0 : Nat) : Int))]) ?_).trans ?_
  · refine asgT_ok (d := .tup [.int n, .int ((0 : Nat) : Int)]) (call_ok (l := [.int ((2 ^ n : Nat) : Int)]) (ac_ok (op_ok (x := .int ((l.map cD).length : Nat)) (y := .int 1) rfl rfl ?_) an_ok) rfl (lev_eq (L := n) (k := 0) (by omega) (by omega))) rfl
    rw [List.length_map, hl]
    show some (Dat.int (((2 ^ n - 1 : Nat) : Int) + 1)) = _
    congr 2
    omega
  refine (seq_nx (ρ' := [some (.tup (l.map cD)), some (.int n), some (.int ((0 : Nat) : Int))]) ?_).trans ?_
  · exact (if_f (by exact test_ok (op_ok (x := .int ((0 : Nat) : Int)) (y := .int 0) rfl rfl rfl))).trans rfl
  · exact ret_ok rfl
end Lw
namespace Lw
open PySem PySem.Spec PyProof.Rows L2 Dl
/-- crease 2 ^ L * (2 k + 1) doesn't fit to the first of its level -/
def bad (l : List Bool) (L k : Nat) : Bool := !((k % 2 == 0) == (l[2 ^ L - 1]?.getD false == l[2 ^ L * (2 * k + 1) - 1]?.getD false))
theorem at_one (l : List Bool) {i : Nat} {j : Int} (e : j = i) (h : i < l.length) : ixD (.tup (l.map cD)) (.int j) = some (cD (l[i]?.getD false)) := by
  show atI (l.map cD) j = _
  rw [at_int e (by rw [List.length_map]; exact h), List.getElem?_map, List.getElem?_eq_getElem h]
  rfl
theorem eq_cc (a b : Bool) : eqD (cD a) (cD b) = some (.bl (a == b)) := by cases a <;> cases b <;> kernel_rfl
theorem ne_bb (a b : Bool) : neD (.bl a) (.bl b) = some (.bl (!(a == b))) := by cases a <;> cases b <;> kernel_rfl
theorem clash_eq (l : List Bool) {L k : Nat} (hL : L < 1000) (h : 2 ^ L * (2 * k + 1) ≤ l.length) : D__are_clashing [.tup (l.map cD), .int ((2 ^ L : Nat) : Int), .int ((2 ^ L * (2 * k + 1) : Nat) : Int)] = .ok (.bl (bad l L k)) := by
  have h1 : 1 ≤ 2 ^ L := Nat.pow_pos (by decide)
  have h2 : 2 ^ L ≤ 2 ^ L * (2 * k + 1) := Nat.le_mul_of_pos_right _ (by omega)
  obtain ⟨a, ha⟩ : ∃ a, a = 2 ^ L := ⟨_, rfl⟩
  obtain ⟨b, hb⟩ : ∃ b, b = 2 ^ L * (2 * k + 1) := ⟨_, rfl⟩
  have la : D_level_of [.int (a : Int)] = .ok (.tup [.int L, .int ((0 : Nat) : Int)]) := lev_eq (k := 0) (by rw [ha]; omega) hL
  have lb : D_level_of [.int (b : Int)] = .ok (.tup [.int L, .int (k : Int)]) := lev_eq hb hL
  have b1 : b ≤ l.length := by rw [hb]; exact h
  have a1 : 1 ≤ a := by rw [ha]; exact h1
  have ab : a ≤ b := by rw [ha, hb]; exact h2
  unfold bad
  rw [← hb, ← ha]
  clear h h1 h2 ha hb
  refine run_rt (ret_ok ?_)
  refine op_ok (x := .bl (k % 2 == 0)) (y := .bl (l[a - 1]?.getD false == l[b - 1]?.getD false)) ?_ ?_ (ne_bb _ _)
  · refine op_ok (x := .int ((0 - (k : Int)) % 2)) (y := .int 0) (op_ok (x := .int (0 - (k : Int))) (y := .int 2) (op_ok (x := .int 0) (y := .int k) ?_ ?_ rfl) rfl (mod_c (by decide))) rfl ?_
    · exact op_ok (x := .tup [.int L, .int ((0 : Nat) : Int)]) (y := .int 1) (call_ok (l := [.int (a : Int)]) rfl rfl la) rfl rfl
    · exact op_ok (x := .tup [.int L, .int (k : Int)]) (y := .int 1) (call_ok (l := [.int (b : Int)]) rfl rfl lb) rfl rfl
    · rcases Nat.mod_two_eq_zero_or_one k with z | z
      · rw [z, show (0 - (k : Int)) % 2 = 0 by omega]; kernel_rfl
      · rw [z, show (0 - (k : Int)) % 2 = 1 by omega]; kernel_rfl
  · refine op_ok (x := cD (l[a - 1]?.getD false)) (y := cD (l[b - 1]?.getD false)) ?_ ?_ (eq_cc _ _)
    · exact op_ok (x := .tup (l.map cD)) (y := .int ((a : Int) - 1)) rfl rfl (at_one l (by omega) (by omega))
    · exact op_ok (x := .tup (l.map cD)) (y := .int ((b : Int) - 1)) rfl rfl (at_one l (by omega) (by omega))
/-! ### folds_of -/
def B3 : DEnv → DFlow := sSeq (sAsg 3 (vCall 1 D_two_to (aCons (vOp ixD (vCall 1 D_level_of (aCons (vVar 2) (aNil))) (vC (.int 0))) (aNil)))) (sIf (vTru (vCall 3 D__are_clashing (aCons (vVar 0) (aCons (vVar 3) (aCons (vVar 2) (aNil)))))) (sRet (vTup (aCons (vC (.str "clash")) (aCons (vTup (aCons (vVar 3) (aCons (vVar 2) (aNil)))) (aNil))))) (sNop))
theorem b3_turn (l : List Bool) {x y z u v : Option Dat} {L k : Nat} (hL : L < 100) (h : 2 ^ L * (2 * k + 1) ≤ l.length) : B3 [some (.tup (l.map cD)), x, some (.int ((2 ^ L * (2 * k + 1) : Nat) : Int)), y, z, u, v] =
    if bad l L k = true then .rt (.tup [.str "clash", .tup [.int ((2 ^ L : Nat) : Int), .int ((2 ^ L * (2 * k + 1) : Nat) : Int)]]) else .nx [some (.tup (l.map cD)), x, some (.int ((2 ^ L * (2 * k + 1) : Nat) : Int)), some (.int ((2 ^ L : Nat) : Int)), z, u, v] := by
  have hc := clash_eq l (by omega) h
  have hlev := lev_eq (n := 2 ^ L * (2 * k + 1)) rfl (by omega)
  have ht := two_eq (n := L) (by omega)
  generalize hb : 2 ^ L * (2 * k + 1) = b at *
  generalize ha : 2 ^ L = a at *
  refine (seq_nx (ρ' := [some (.tup (l.map cD)), x, some (.int (b : Int)), some (.int (a : Int)), z, u, v]) ?_).trans ?_
  · exact (asg_ok (call_ok (l := [.int (L : Int)]) (ac_ok (op_ok (x := .tup [.int L, .int k]) (y := .int 0) (call_ok (l := [.int (b : Int)]) rfl rfl hlev) rfl rfl) an_ok) rfl ht)).trans rfl
  · have hv : vTru (vCall 3 D__are_clashing (aCons (vVar 0) (aCons (vVar 3) (aCons (vVar 2) (aNil))))) [some (.tup (l.map cD)), x, some (.int (b : Int)), some (.int (a : Int)), z, u, v] = .ok (bad l L k) :=
      tru_ok (call_ok (l := [.tup (l.map cD), .int (a : Int), .int (b : Int)]) rfl rfl hc) rfl
    cases q : bad l L k with
    | true =>
      rw [q] at hv
      rw [if_pos rfl]
      refine (if_t hv).trans (ret_ok ?_)
      exact tup_ok (ac_ok rfl (ac_ok (tup_ok (l := [.int (a : Int), .int (b : Int)]) rfl (by show 2 ≤ 1000; decide)) an_ok)) (by show 2 ≤ 1000; decide)
    | false =>
      rw [q] at hv
      rw [if_neg (by decide)]
      exact (if_f hv).trans rfl
theorem folds_head (l : List Bool) {n : Nat} (hn : n ≤ 12) (hl : l.length = 2 ^ n - 1) : sAsg 1 (vCall 1 D__check_row (aCons (vVar 0) (aNil))) (startD 7 [.tup (l.map cD)]) = .nx [some (.tup (l.map cD)), some (.int n), none, none, none, none, none] :=
  (asg_ok (call_ok (l := [.tup (l.map cD)]) rfl rfl (checkrow_eq l hn hl))).trans rfl
theorem folds_iter (l : List Bool) {n : Nat} (hn : n ≤ 12) (hl : l.length = 2 ^ n - 1) {a b c d e : Option Dat} : gA range2D (aCons (vC (.int 1)) (aCons (vOp addD (vCB lenD (aCons (vVar 0) (aNil))) (vC (.int 1))) (aNil))) [some (.tup (l.map cD)), some (.int n), a, b, c, d, e] = .ok (rng ((1 : Nat) : Int) (2 ^ n - 1)) := by
  have hp : 2 ^ n ≤ 4096 := Nat.pow_le_pow_right (n := 2) (by decide) hn
  have hp1 : 1 ≤ 2 ^ n := Nat.pow_pos (by decide)
  refine ga_ok (l := [.int ((1 : Nat) : Int), .int ((2 ^ n : Nat) : Int)]) (ac_ok rfl (ac_ok (op_ok (x := .int ((l.map cD).length : Nat)) (y := .int 1) rfl rfl ?_) an_ok)) (range2_nat (by decide) (by omega))
  rw [List.length_map, hl]
  show some (Dat.int (((2 ^ n - 1 : Nat) : Int) + 1)) = _
  congr 2
  omega
/-- a clash at the crease N, none ahead of it -/
theorem folds_clash (l : List Bool) {n L k : Nat} (hn : n ≤ 12) (hl : l.length = 2 ^ n - 1) (h : 2 ^ L * (2 * k + 1) ≤ l.length) (hb : bad l L k = true) (ho : ∀ L' k', 2 ^ L' * (2 * k' + 1) < 2 ^ L * (2 * k + 1) → bad l L' k' = false) :
    D_folds_of [.tup (l.map cD)] = .ok (.tup [.str "clash", .tup [.int ((2 ^ L : Nat) : Int), .int ((2 ^ L * (2 * k + 1) : Nat) : Int)]]) := by
  have hp : 2 ^ n ≤ 4096 := Nat.pow_le_pow_right (n := 2) (by decide) hn
  have hlt : ∀ L k, 2 ^ L * (2 * k + 1) ≤ l.length → L < 100 := fun L k h => by
    have := lev_lt (L := L) (k := k) (n := n) (by have : 1 ≤ 2 ^ n := Nat.pow_pos (by decide); omega)
    omega
  have hN : 1 ≤ 2 ^ L * (2 * k + 1) := Nat.mul_pos (Nat.pow_pos (by decide)) (by omega)
  refine run_rt ?_
  refine (seq_nx (folds_head l hn hl)).trans (seq_rt ?_)
  refine (for_ok (folds_iter l hn hl)).trans ?_
  refine forL_ret (asg := aName 2) (F := B3) (m := 2 ^ L * (2 * k + 1) - 1) (fun _ ρ => ∃ a b, ρ = [some (.tup (l.map cD)), some (.int n), a, b, none, none, none]) (by rw [rng_len]; omega) ⟨none, none, rfl⟩ (fun j d ρ hj hjm hp => ?_) (fun d ρ hj hp => ?_)
  · obtain ⟨a, b, rfl⟩ := hp
    obtain ⟨hj', rfl⟩ := rng_get hj
    obtain ⟨L', k', e⟩ := dec (j + 1) (by omega)
    have hh : 2 ^ L' * (2 * k' + 1) ≤ l.length := by omega
    have t := b3_turn l (x := some (.int n)) (y := b) (z := none) (u := none) (v := none) (hlt _ _ hh) hh
    rw [ho L' k' (by omega), if_neg (by decide), ← e] at t
    rw [show (((1 : Nat) : Int) + (j : Nat)) = ((j + 1 : Nat) : Int) by omega]
    exact ⟨_, _, rfl, .inl t, _, _, rfl⟩
  · obtain ⟨a, b, rfl⟩ := hp
    obtain ⟨hj', rfl⟩ := rng_get hj
    have t := b3_turn l (x := some (.int n)) (y := b) (z := none) (u := none) (v := none) (hlt _ _ h) h
    rw [hb, if_pos rfl] at t
    rw [show (((1 : Nat) : Int) + (2 ^ L * (2 * k + 1) - 1 : Nat)) = ((2 ^ L * (2 * k + 1) : Nat) : Int) by omega]
    exact ⟨_, rfl, t⟩
theorem rowN_at (fr : List Bool) {i : Nat} (h1 : 1 ≤ i) (h : i < 2 ^ fr.length) : (rowN fr)[i - 1]?.getD false = cr fr i := by
  rw [rowN_get fr (by omega), show i - 1 + 1 = i by omega]
  rfl
theorem row_good (fr : List Bool) {L k : Nat} (h : 2 ^ L * (2 * k + 1) < 2 ^ fr.length) : bad (rowN fr) L k = false := by
  have hL : L < fr.length := lev_lt h
  have h1 : 1 ≤ 2 ^ L := Nat.pow_pos (by decide)
  have h2 : 2 ^ L ≤ 2 ^ L * (2 * k + 1) := Nat.le_mul_of_pos_right _ (by omega)
  unfold bad
  rw [rowN_at fr h1 (by omega), rowN_at fr (by omega) h, cr_dec fr L k _ (List.getElem?_eq_getElem hL)]
  have := cr_dec fr L 0 _ (List.getElem?_eq_getElem hL)
  rw [show 2 ^ L * (2 * 0 + 1) = 2 ^ L by omega] at this
  rw [this]
  generalize fr[L] = f
  rcases Nat.mod_two_eq_zero_or_one k with z | z <;> rw [z] <;> cases f <;> rfl
theorem folds_ok (fr : List Bool) (hn : fr.length ≤ 12) : D_folds_of [.tup ((rowN fr).map cD)] = .ok (.tup [.str "folds", .tup ((fr.reverse).map fD)]) := by
  have hp : 2 ^ fr.length ≤ 4096 := Nat.pow_le_pow_right (n := 2) (by decide) hn
  have hp1 : 1 ≤ 2 ^ fr.length := Nat.pow_pos (by decide)
  refine run_rt ?_
  refine (seq_nx (folds_head (rowN fr) hn (rowN_len fr))).trans ?_
  obtain ⟨ρ', e, a, b, rfl⟩ := forL_inv (asg := aName 2) (F := B3) (l := rng ((1 : Nat) : Int) (2 ^ fr.length - 1)) (ρ := [some (.tup ((rowN fr).map cD)), some (.int fr.length), none, none, none, none, none]) (fun _ ρ => ∃ a b, ρ = [some (.tup ((rowN fr).map cD)), some (.int fr.length), a, b, none, none, none]) ⟨none, none, rfl⟩ (fun j d ρ hj hp => by
    obtain ⟨a, b, rfl⟩ := hp
    obtain ⟨hj', rfl⟩ := rng_get hj
    obtain ⟨L', k', e⟩ := dec (j + 1) (by omega)
    have hh : 2 ^ L' * (2 * k' + 1) < 2 ^ fr.length := by omega
    have t := b3_turn (rowN fr) (x := some (.int fr.length)) (y := b) (z := none) (u := none) (v := none) (by have := lev_lt hh; omega) (by rw [rowN_len]; omega : 2 ^ L' * (2 * k' + 1) ≤ (rowN fr).length)
    rw [row_good fr hh, if_neg (by decide), ← e] at t
    rw [show (((1 : Nat) : Int) + (j : Nat)) = ((j + 1 : Nat) : Int) by omega]
    exact ⟨_, _, rfl, .inl t, _, _, rfl⟩)
  refine (seq_nx (ρ' := [some (.tup ((rowN fr).map cD)), some (.int fr.length), a, b, none, none, none]) ((for_ok (folds_iter (rowN fr) hn (rowN_len fr))).trans e)).trans ?_
  refine (seq_nx (ρ' := [some (.tup ((rowN fr).map cD)), some (.int fr.length), a, b, some (.lst ((fr.reverse).map cD)), none, none]) ?_).trans ?_
  · refine (asgO_ok (d := (fr.reverse).map cD) ?_).trans rfl
    refine lc_ok (l := rng ((1 : Nat) : Int) fr.length) ?_ (by rw [rng_len]; omega) ?_
    · refine ga_ok (l := [.int ((1 : Nat) : Int), .int ((fr.length + 1 : Nat) : Int)]) rfl ?_
      rw [range2_nat (by decide) (by omega)]
      rfl
    · have er : (fr.reverse).map cD = (List.range fr.length).map fun i => cD (fr[fr.length - 1 - i]?.getD false) := by
        refine List.ext_getElem (by simp) fun i h1 h2 => ?_
        rw [List.length_map, List.length_range] at h2
        rw [List.getElem_map, List.getElem_map, List.getElem_reverse, List.getElem_range, List.getElem?_eq_getElem (by omega)]
        rfl
      rw [er]
      unfold rng
      refine lcL_of fun i hi => ?_
      rw [List.mem_range] at hi
      refine ⟨[some (.tup ((rowN fr).map cD)), some (.int fr.length), a, b, none, some (.int (((1 : Nat) : Int) + (i : Nat))), none], rfl, ?_⟩
      have h1 : 1 ≤ 2 ^ (fr.length - 1 - i) := Nat.pow_pos (by decide)
      have h2 : 2 ^ (fr.length - 1 - i) < 2 ^ fr.length := (Nat.pow_lt_pow_iff_right (by decide)).mpr (by omega)
      refine op_ok (x := .tup ((rowN fr).map cD)) (y := .int (((2 ^ (fr.length - 1 - i) : Nat) : Int) - 1)) rfl (op_ok (x := .int ((2 ^ (fr.length - 1 - i) : Nat) : Int)) (y := .int 1) (call_ok (l := [.int ((fr.length - 1 - i : Nat) : Int)]) (ac_ok (op_ok (x := .int fr.length) (y := .int (((1 : Nat) : Int) + (i : Nat))) rfl rfl ?_) an_ok) rfl (two_eq (by omega))) rfl rfl) ?_
      · show some (Dat.int ((fr.length : Int) - (((1 : Nat) : Int) + (i : Nat)))) = _
        congr 2
        omega
      · rw [at_one (rowN fr) (i := 2 ^ (fr.length - 1 - i) - 1) (by omega) (by rw [rowN_len]; omega), rowN_at fr h1 h2]
        have := cr_dec fr (fr.length - 1 - i) 0 _ (List.getElem?_eq_getElem (by omega))
        rw [show 2 ^ (fr.length - 1 - i) * (2 * 0 + 1) = 2 ^ (fr.length - 1 - i) by omega] at this
        rw [this, List.getElem?_eq_getElem (by omega)]
        show some (cD (xor _ false)) = _
        rw [Bool.xor_false]
        rfl
  · refine ret_ok (tup_ok (ac_ok rfl (ac_ok (cb_ok (ac_ok (vl_ok (l := (fr.reverse).map fD) ?_) an_ok) rfl) an_ok)) (by show 2 ≤ 1000; decide))
    refine lc_ok (l := (fr.reverse).map cD) rfl (by rw [List.length_map, List.length_reverse]; omega) (lcL_of fun f _ => ⟨_, rfl, ?_⟩)
    have ht : vTest (vOp eqD (vVar 6) (vC (.str "V"))) [some (.tup ((rowN fr).map cD)), some (.int fr.length), a, b, some (.lst ((fr.reverse).map cD)), none, some (cD f)] = .ok f := test_ok (op_ok (x := cD f) (y := .str "V") rfl rfl (fD_V f))
    cases f with
    | true => exact (vif_t ht).trans rfl
    | false => exact (vif_f ht).trans rfl
/-! ### clash_fault -/
theorem whole_eq {v m : Nat} (h1 : 1 ≤ v) (h2 : v ≤ m) : D_is_whole [.int v, .int 1, .int m] = .ok (.bl true) := by
  refine run_rt (ret_ok ?_)
  refine (vand_t (v1_ok (x := .int v) rfl rfl)).trans ?_
  refine (vand_t (v1_ok (x := .bl false) (v1_ok (x := .int v) rfl rfl) rfl)).trans ?_
  show (ofO (leD (.int 1) (.int v))).bind (vChainK leD (vVar 2) _ (.int v)) = _
  rw [show leD (.int 1) (.int v) = some (.bl true) by show some (Dat.bl (decide ((1 : Int) ≤ v))) = _; rw [decide_eq_true (by omega)]]
  show ofO (leD (.int v) (.int m)) = _
  rw [show leD (.int v) (.int m) = some (.bl true) by show some (Dat.bl (decide ((v : Int) ≤ m))) = _; rw [decide_eq_true (by omega)]]
  rfl
theorem fault_eq (l : List Bool) {n L k : Nat} (hn : n ≤ 12) (hl : l.length = 2 ^ n - 1) (h : 2 ^ L * (2 * k + 1) ≤ l.length) (hk : 1 ≤ k) (hb : bad l L k = true) :
    D_clash_fault [.tup (l.map cD), .tup [.int ((2 ^ L : Nat) : Int), .int ((2 ^ L * (2 * k + 1) : Nat) : Int)]] = .ok .non := by
  have hp : 2 ^ n ≤ 4096 := Nat.pow_le_pow_right (n := 2) (by decide) hn
  have hp1 : 1 ≤ 2 ^ n := Nat.pow_pos (by decide)
  have hL : L < 12 := Nat.lt_of_lt_of_le (lev_lt (L := L) (k := k) (n := n) (by omega)) hn
  have h1 : 1 ≤ 2 ^ L := Nat.pow_pos (by decide)
  have h2 : 2 ^ L * 3 ≤ 2 ^ L * (2 * k + 1) := Nat.mul_le_mul_left _ (by omega)
  have hc := clash_eq l (by omega) h
  have la : D_level_of [.int ((2 ^ L : Nat) : Int)] = .ok (.tup [.int L, .int ((0 : Nat) : Int)]) := lev_eq (k := 0) (by omega) (by omega)
  have lb : D_level_of [.int ((2 ^ L * (2 * k + 1) : Nat) : Int)] = .ok (.tup [.int L, .int (k : Int)]) := lev_eq rfl (by omega)
  rw [hb] at hc
  generalize 2 ^ L * (2 * k + 1) = b at *
  generalize 2 ^ L = a at *
  refine run_rt ?_
  refine (seq_nx (ρ' := [some (.tup (l.map cD)), some (.tup [.int (a : Int), .int (b : Int)]), none, none, none]) (drop_ok (call_ok (l := [.tup (l.map cD)]) rfl rfl (checkrow_eq l hn hl)))).trans ?_
  refine (seq_nx (ρ' := [some (.tup (l.map cD)), some (.tup [.int (a : Int), .int (b : Int)]), none, none, none]) ?_).trans ?_
  · refine (if_f ?_).trans rfl
    refine (or_f (by exact not_ok (b := true) (tru_ok (d := .bl true) rfl rfl))).trans ?_
    refine (or_f (by exact test_ok (op_ok (x := .int 2) (y := .int 2) rfl rfl (by kernel_rfl)))).trans ?_
    refine not_ok (b := true) (tru_ok (d := .bl true) (cb_ok (ac_ok (vl_ok (l := [a, b].map fun _ => Dat.bl true) ?_) an_ok) (all_true [a, b])) rfl)
    refine lc_ok (l := [a, b].map fun (v : Nat) => Dat.int v) rfl (by show 2 ≤ _; decide) (lcL_of fun v hv => ⟨_, rfl, ?_⟩)
    refine call_ok (l := [.int (v : Int), .int 1, .int (l.length : Nat)]) ?_ rfl (whole_eq ?_ ?_)
    · refine ac_ok rfl (ac_ok rfl (ac_ok (cb_ok (ac_ok (x := .tup (l.map cD)) rfl an_ok) ?_) an_ok))
      rw [len_tup, List.length_map]
    · simp at hv; omega
    · simp at hv; omega
  refine (seq_nx (ρ' := [some (.tup (l.map cD)), some (.tup [.int (a : Int), .int (b : Int)]), some (.int (a : Int)), some (.int (b : Int)), none]) (asgT_ok (d := .tup [.int (a : Int), .int (b : Int)]) rfl rfl)).trans ?_
  refine (seq_nx (ρ' := [some (.tup (l.map cD)), some (.tup [.int (a : Int), .int (b : Int)]), some (.int (a : Int)), some (.int (b : Int)), none]) ?_).trans ?_
  · refine (if_f ?_).trans rfl
    refine test_ok (op_ok (x := .int (a : Int)) (y := .int (b : Int)) rfl rfl (z := .bl false) ?_)
    show some (Dat.bl (decide ((b : Int) ≤ a))) = _
    rw [decide_eq_false (by omega)]
  refine (seq_nx (ρ' := [some (.tup (l.map cD)), some (.tup [.int (a : Int), .int (b : Int)]), some (.int (a : Int)), some (.int (b : Int)), none]) ?_).trans ?_
  · refine (if_f ?_).trans rfl
    refine test_ok (op_ok (x := .int L) (y := .int L) (op_ok (x := .tup [.int L, .int ((0 : Nat) : Int)]) (y := .int 0) (call_ok (l := [.int (a : Int)]) rfl rfl la) rfl rfl) (op_ok (x := .tup [.int L, .int (k : Int)]) (y := .int 0) (call_ok (l := [.int (b : Int)]) rfl rfl lb) rfl rfl) ?_)
    show some (Dat.bl (!((L : Int) == L))) = _
    rw [beq_self_eq_true]
    rfl
  · refine ret_ok ((vif_t ?_).trans rfl)
    exact tru_ok (d := .bl true) (call_ok (l := [.tup (l.map cD), .int (a : Int), .int (b : Int)]) rfl rfl hc) rfl
end Lw
namespace Lw
open PySem PySem.Spec PyProof.Rows L2 Dl
theorem dec_uniq : ∀ (a b k j : Nat), 2 ^ a * (2 * k + 1) = 2 ^ b * (2 * j + 1) → a = b ∧ k = j
  | 0, 0, k, j, h => ⟨rfl, by omega⟩
  | 0, b + 1, k, j, h => by
    rw [Nat.pow_succ, Nat.mul_comm (2 ^ b) 2, Nat.mul_assoc] at h
    generalize 2 ^ b * (2 * j + 1) = z at h
    omega
  | a + 1, 0, k, j, h => by
    rw [Nat.pow_succ, Nat.mul_comm (2 ^ a) 2, Nat.mul_assoc] at h
    generalize 2 ^ a * (2 * k + 1) = z at h
    omega
  | a + 1, b + 1, k, j, h => by
    rw [show 2 ^ (b + 1) = 2 * 2 ^ b by rw [Nat.pow_succ]; omega, Nat.mul_assoc, show 2 ^ (a + 1) = 2 * 2 ^ a by rw [Nat.pow_succ]; omega, Nat.mul_assoc] at h
    obtain ⟨e1, e2⟩ := dec_uniq a b k j (by omega)
    exact ⟨by omega, e2⟩
theorem cr_app (fi : List Bool) (f0 : Bool) {n : Nat} (h1 : 1 ≤ n) (h : n < 2 ^ fi.length) : cr (fi ++ [f0]) n = cr fi n := by
  obtain ⟨L, k, e⟩ := dec n h1
  have hL : L < fi.length := lev_lt (e ▸ h)
  rw [e, cr_dec fi L k _ (List.getElem?_eq_getElem hL)]
  exact cr_dec _ L k _ (by rw [List.getElem?_append_left hL]; exact List.getElem?_eq_getElem hL)
theorem cr_mid (fi : List Bool) (f0 : Bool) : cr (fi ++ [f0]) (2 ^ fi.length) = f0 := by
  have := cr_dec (fi ++ [f0]) fi.length 0 f0 (by rw [List.getElem?_append_right (Nat.le_refl _), Nat.sub_self]; rfl)
  rw [show 2 ^ fi.length * (2 * 0 + 1) = 2 ^ fi.length by omega] at this
  rw [this]
  exact Bool.xor_false _
theorem cr_mirror (fi : List Bool) (f0 : Bool) {n : Nat} (h1 : 1 ≤ n) (h : n < 2 ^ fi.length) : cr (fi ++ [f0]) (2 ^ (fi.length + 1) - n) = !cr fi n := by
  obtain ⟨L, k, e⟩ := dec n h1
  have hL : L < fi.length := lev_lt (e ▸ h)
  have hz : fi.length = L + ((fi.length - L - 1) + 1) := by omega
  have e2 : 2 ^ fi.length = 2 ^ L * (2 * 2 ^ (fi.length - L - 1)) := by
    rw [show 2 * 2 ^ (fi.length - L - 1) = 2 ^ (fi.length - L - 1 + 1) by rw [Nat.pow_succ]; omega, ← Nat.pow_add, ← hz]
  obtain ⟨p, hp⟩ : ∃ p, p = 2 ^ (fi.length - L - 1) := ⟨_, rfl⟩
  rw [← hp] at e2
  have hk : 2 * k + 1 < 2 * p := by
    rw [e2, e] at h
    exact Nat.lt_of_mul_lt_mul_left h
  have e3 : 2 ^ (fi.length + 1) - n = 2 ^ L * (2 * (2 * p - k - 1) + 1) := by
    rw [Nat.pow_succ, e2, e, Nat.mul_assoc, ← Nat.mul_sub]
    congr 1
    omega
  rw [e3, e, cr_dec fi L k _ (List.getElem?_eq_getElem hL), cr_dec (fi ++ [f0]) L (2 * p - k - 1) fi[L] (by rw [List.getElem?_append_left hL]; exact List.getElem?_eq_getElem hL)]
  generalize fi[L] = f
  rcases Nat.mod_two_eq_zero_or_one k with z | z
  · rw [z, show (2 * p - k - 1) % 2 = 1 by omega]; cases f <;> rfl
  · rw [z, show (2 * p - k - 1) % 2 = 0 by omega]; cases f <;> rfl
theorem row_take (fi : List Bool) (f0 : Bool) : (rowN (fi ++ [f0])).take (2 ^ fi.length - 1) = rowN fi := by
  have hp1 : 1 ≤ 2 ^ fi.length := Nat.pow_pos (by decide)
  refine List.ext_getElem? fun i => ?_
  have hlen : (fi ++ [f0]).length = fi.length + 1 := by rw [List.length_append]; rfl
  by_cases z : i + 1 < 2 ^ fi.length
  · rw [List.getElem?_take_of_lt (by omega), rowN_get _ (by rw [hlen, Nat.pow_succ]; omega), rowN_get _ z, cr_app _ _ (by omega) z]
  · rw [List.getElem?_eq_none (by rw [List.length_take]; omega), List.getElem?_eq_none (by rw [rowN_len]; omega)]
theorem row_drop (fi : List Bool) (f0 : Bool) : (rowN (fi ++ [f0])).drop (2 ^ fi.length) = ((rowN fi).reverse).map fun b => !b := by
  have hp1 : 1 ≤ 2 ^ fi.length := Nat.pow_pos (by decide)
  refine List.ext_getElem? fun i => ?_
  have hlen : (fi ++ [f0]).length = fi.length + 1 := by rw [List.length_append]; rfl
  rw [List.getElem?_drop, List.getElem?_map]
  by_cases z : i + 1 < 2 ^ fi.length
  · rw [rowN_get _ (by rw [hlen, Nat.pow_succ]; omega), List.getElem?_reverse (by rw [rowN_len]; omega), rowN_len, rowN_get _ (by omega)]
    have := cr_mirror fi f0 (n := 2 ^ fi.length - 1 - 1 - i + 1) (by omega) (by omega)
    rw [show 2 ^ (fi.length + 1) - (2 ^ fi.length - 1 - 1 - i + 1) = 2 ^ fi.length + i + 1 by rw [Nat.pow_succ]; omega] at this
    rw [this]
    rfl
  · rw [List.getElem?_eq_none (by rw [rowN_len, hlen, Nat.pow_succ]; omega), List.getElem?_eq_none (by rw [List.length_reverse, rowN_len]; omega)]
    rfl
theorem pick_rev {α : Type} (l : List α) : pickD l none none (-1) = l.reverse := by
  unfold pickD
  have e1 : Builtin.Slice.sliceAdjust none none (-1) (l.length : Int) = ((l.length : Int) - 1, -1) := rfl
  rw [e1]
  have e2 : Builtin.Slice.slicePlaces ((l.length : Int) - 1) (-1) (-1) = l.length := by
    unfold Builtin.Slice.slicePlaces
    rw [if_neg (by decide)]
    by_cases z : l.length = 0
    · rw [if_neg (by omega), z]
      rfl
    · rw [if_pos (by omega), show (-(-1 : Int)) = 1 by decide, Int.ediv_one]
      omega
  rw [e2]
  have : ∀ n : Nat, n ≤ l.length → (List.range n).filterMap (fun (m : Nat) => l[((l.length : Int) - 1 + (m : Int) * (-1)).toNat]?) = (l.reverse).take n := by
    intro n
    induction n with
    | zero => intro _; rw [List.take_zero]; rfl
    | succ n ih =>
      intro h
      rw [List.range_succ, List.filterMap_append, ih (by omega), List.take_add_one, List.getElem?_reverse (by omega)]
      congr 1
      rw [List.filterMap_cons]
      show (match l[((l.length : Int) - 1 + (n : Int) * (-1)).toNat]? with | none => [] | some b => b :: []) = _
      rw [show ((l.length : Int) - 1 + (n : Int) * (-1)).toNat = l.length - 1 - n by omega, List.getElem?_eq_getElem (by omega)]
      rfl
  rw [this _ (Nat.le_refl _), ← List.length_reverse, List.take_length]
theorem pick_odd {α : Type} (l : List α) {n : Nat} (h : l.length = 2 * n + 1) : pickD l (some 1) none 2 = (List.range n).filterMap fun m => l[2 * m + 1]? := by
  unfold pickD
  have e1 : Builtin.Slice.sliceAdjust (some 1) none 2 (l.length : Int) = (1, (l.length : Int)) := by
    show ((if (1 : Int) < 0 then _ else min 1 (l.length : Int)), (l.length : Int)) = _
    rw [if_neg (by decide)]
    congr 1
    omega
  rw [e1]
  have e2 : Builtin.Slice.slicePlaces 1 (l.length : Int) 2 = n := by
    unfold Builtin.Slice.slicePlaces
    rw [if_pos (by decide)]
    by_cases z : n = 0
    · rw [if_neg (by omega), z]
      rfl
    · rw [if_pos (by omega)]
      omega
  rw [e2]
  congr 1
  funext m
  rw [show ((1 : Int) + (m : Int) * 2).toNat = 2 * m + 1 by omega]
theorem row_odd (fl : Bool) (ft : List Bool) : pickD (rowN (fl :: ft)) (some 1) none 2 = rowN ft := by
  have hp1 : 1 ≤ 2 ^ ft.length := Nat.pow_pos (by decide)
  rw [pick_odd (n := 2 ^ ft.length - 1) _ (by rw [rowN_len, List.length_cons, Nat.pow_succ]; omega)]
  unfold rowN
  have : ∀ n, n ≤ 2 ^ ft.length - 1 → ((List.range n).filterMap fun m => ((List.range (2 ^ (fl :: ft).length - 1)).map fun i => cr (fl :: ft) (i + 1))[2 * m + 1]?) = (List.range n).map fun i => cr ft (i + 1) := by
    intro n
    induction n with
    | zero => intro _; rfl
    | succ n ih =>
      intro h
      rw [List.range_succ, List.filterMap_append, ih (by omega), List.map_append]
      congr 1
      have := rowN_get (fl :: ft) (i := 2 * n + 1) (by rw [List.length_cons, Nat.pow_succ]; omega)
      unfold rowN at this
      rw [show 2 * n + 1 + 1 = 2 * (n + 1) by omega, cr_even] at this
      rw [List.filterMap_cons, this]
      rfl
  exact this _ (Nat.le_refl _)
theorem map_pick {α β : Type} (g : α → β) (l : List α) (lo hi : Option Int) (st : Int) : pickD (l.map g) lo hi st = (pickD l lo hi st).map g := by
  unfold pickD
  rw [List.length_map, List.map_filterMap]
  congr 1
  funext m
  rw [List.getElem?_map]
/-! ### the bent row -/
theorem set_at (l : List Bool) {i j : Nat} {v : Bool} (h : i < l.length) : (l.set i v)[j]?.getD false = if j = i then v else l[j]?.getD false := by
  by_cases z : j = i
  · rw [if_pos z, z, List.getElem?_set_self h]
    rfl
  · rw [if_neg z, List.getElem?_set_ne (fun q => z q.symm)]
theorem bad_at {l m : List Bool} {L k : Nat} (h1 : l[2 ^ L - 1]?.getD false = m[2 ^ L - 1]?.getD false) (h2 : l[2 ^ L * (2 * k + 1) - 1]?.getD false = m[2 ^ L * (2 * k + 1) - 1]?.getD false) : bad l L k = bad m L k := by
  unfold bad
  rw [h1, h2]
theorem bent_late (fr : List Bool) {L k : Nat} (h : 2 ^ L * (2 * k + 1) < 2 ^ fr.length) (hk : 1 ≤ k) (l : List Bool) (hl : l = (rowN fr).set (2 ^ L * (2 * k + 1) - 1) (!cr fr (2 ^ L * (2 * k + 1)))) :
    bad l L k = true ∧ ∀ L' k', 2 ^ L' * (2 * k' + 1) < 2 ^ L * (2 * k + 1) → bad l L' k' = false := by
  have h1 : ∀ a, 1 ≤ 2 ^ a := fun a => Nat.pow_pos (by decide)
  have h2 : ∀ a b, 2 ^ a ≤ 2 ^ a * (2 * b + 1) := fun a b => Nat.le_mul_of_pos_right _ (by omega)
  have h3 : 2 ^ L * 3 ≤ 2 ^ L * (2 * k + 1) := Nat.mul_le_mul_left _ (by omega)
  have hi : 2 ^ L * (2 * k + 1) - 1 < (rowN fr).length := by rw [rowN_len]; have := h1 L; have := h2 L k; omega
  subst hl
  refine ⟨?_, fun L' k' hlt => ?_⟩
  · have g := row_good fr h
    unfold bad at g ⊢
    rw [set_at _ hi, set_at _ hi, if_neg (by have := h1 L; omega), if_pos rfl]
    rw [rowN_at fr (by have := h1 L; omega) h] at g
    generalize (rowN fr)[2 ^ L - 1]?.getD false = x at g ⊢
    generalize cr fr (2 ^ L * (2 * k + 1)) = y at g ⊢
    generalize (k % 2 == 0) = z at g ⊢
    revert g
    cases x <;> cases y <;> cases z <;> decide
  · rw [← row_good fr (Nat.lt_trans hlt h)]
    have := h1 L'
    have := h2 L' k'
    exact bad_at (by rw [set_at _ hi, if_neg (by omega)]) (by rw [set_at _ hi, if_neg (by omega)])
theorem bent_first (fr : List Bool) {L : Nat} (h : 2 ^ L * (2 * 1 + 1) < 2 ^ fr.length) (l : List Bool) (hl : l = (rowN fr).set (2 ^ L - 1) (!cr fr (2 ^ L))) :
    bad l L 1 = true ∧ ∀ L' k', 2 ^ L' * (2 * k' + 1) < 2 ^ L * (2 * 1 + 1) → bad l L' k' = false := by
  have h1 : ∀ a, 1 ≤ 2 ^ a := fun a => Nat.pow_pos (by decide)
  have h2 : ∀ a b, 2 ^ a ≤ 2 ^ a * (2 * b + 1) := fun a b => Nat.le_mul_of_pos_right _ (by omega)
  have hi : 2 ^ L - 1 < (rowN fr).length := by rw [rowN_len]; have := h1 L; omega
  subst hl
  refine ⟨?_, fun L' k' hlt => ?_⟩
  · have g := row_good fr h
    unfold bad at g ⊢
    rw [set_at _ hi, set_at _ hi, if_pos rfl, if_neg (by have := h1 L; omega)]
    rw [rowN_at fr (h1 L) (by omega)] at g
    generalize cr fr (2 ^ L) = x at g ⊢
    generalize (rowN fr)[2 ^ L * (2 * 1 + 1) - 1]?.getD false = y at g ⊢
    revert g
    cases x <;> cases y <;> decide
  · by_cases z : L' = L
    · subst z
      have hk : k' = 0 := by
        have := Nat.lt_of_mul_lt_mul_left hlt
        omega
      subst hk
      unfold bad
      rw [show 2 ^ L' * (2 * 0 + 1) = 2 ^ L' by omega]
      generalize ((rowN fr).set (2 ^ L' - 1) (!cr fr (2 ^ L')))[2 ^ L' - 1]?.getD false = x
      cases x <;> rfl
    · rw [← row_good fr (Nat.lt_trans hlt h)]
      have q1 : 2 ^ L' ≠ 2 ^ L := fun q => z (dec_uniq L' L 0 0 (by omega)).1
      have q2 : 2 ^ L' * (2 * k' + 1) ≠ 2 ^ L := fun q => z (dec_uniq L' L k' 0 (by omega)).1
      have := h1 L'
      have := h2 L' k'
      have := h1 L
      exact bad_at (by rw [set_at _ hi, if_neg (by omega)]) (by rw [set_at _ hi, if_neg (by omega)])
theorem bent_mid (fi : List Bool) (f0 : Bool) : (rowN (fi ++ [f0])).set (2 ^ fi.length - 1) (!cr (fi ++ [f0]) (2 ^ fi.length)) = rowN (fi ++ [!f0]) := by
  have hp1 : 1 ≤ 2 ^ fi.length := Nat.pow_pos (by decide)
  have hlen : ∀ f, (fi ++ [f]).length = fi.length + 1 := fun f => by rw [List.length_append]; rfl
  have hpow : 2 ^ (fi.length + 1) = 2 ^ fi.length * 2 := Nat.pow_succ ..
  refine List.ext_getElem? fun i => ?_
  by_cases z : i + 1 < 2 ^ (fi.length + 1)
  · rw [rowN_get (fi ++ [!f0]) (by rw [hlen]; exact z)]
    by_cases y : i = 2 ^ fi.length - 1
    · rw [y, List.getElem?_set_self (by rw [rowN_len, hlen]; omega), cr_mid, show 2 ^ fi.length - 1 + 1 = 2 ^ fi.length by omega, cr_mid]
    · rw [List.getElem?_set_ne (by omega), rowN_get _ (by rw [hlen]; exact z)]
      obtain ⟨L, k, e⟩ := dec (i + 1) (by omega)
      have hL : L < fi.length + 1 := lev_lt (e ▸ z)
      have hL2 : L < fi.length := by
        rcases Nat.lt_or_ge L fi.length with q | q
        · exact q
        · have hLe : L = fi.length := by omega
          rw [hLe] at e
          have : 2 ^ fi.length * (2 * k + 1) < 2 ^ fi.length * 2 := by rw [← e, ← hpow]; exact z
          have := Nat.lt_of_mul_lt_mul_left this
          have hk : k = 0 := by omega
          rw [hk] at e
          omega
      rw [e, cr_dec (fi ++ [f0]) L k fi[L] (by rw [List.getElem?_append_left hL2]; exact List.getElem?_eq_getElem hL2), cr_dec (fi ++ [!f0]) L k fi[L] (by rw [List.getElem?_append_left hL2]; exact List.getElem?_eq_getElem hL2)]
  · rw [List.getElem?_eq_none (by rw [List.length_set, rowN_len, hlen]; omega), List.getElem?_eq_none (by rw [rowN_len, hlen]; omega)]
end Lw
namespace Lw
open PySem PySem.Spec PyProof.Rows L2 Dl
theorem par_ok {i j : Nat} {f g : DEnv → Res Dat} {ρ : DEnv} {d e : Dat} (h1 : f ρ = .ok d) (h2 : g ρ = .ok e) : sPar i j f g ρ = .nx ((ρ.set i (some d)).set j (some e)) := by
  unfold sPar
  rw [h1]
  show rBind (g ρ) ρ _ = _
  rw [h2]
  rfl
/-! ### the law's own level and crease -/
theorem lev_loop2 : ∀ (L k c n : Nat), L < n → whileL (vTest (vOp eqD (vOp modD (vVar 0) (vC (.int 2))) (vC (.int 0)))) (sPar 1 0 (vOp addD (vVar 1) (vC (.int 1))) (vOp fdivD (vVar 0) (vC (.int 2)))) n [some (.int ((2 ^ L * (2 * k + 1) : Nat) : Int)), some (.int c)] = .nx [some (.int ((2 * k + 1 : Nat) : Int)), some (.int ((c + L : Nat) : Int))]
  | 0, k, c, n + 1, _ => by
    rw [Nat.pow_zero, Nat.one_mul]
    refine whileL_f ?_
    refine test_ok (op_ok (x := .int 1) (y := .int 0) (op_ok (x := .int ((2 * k + 1 : Nat) : Int)) (y := .int 2) rfl rfl ?_) rfl ?_)
    · rw [mod_c (by decide)]
      congr 2
      omega
    · kernel_rfl
  | L + 1, k, c, n + 1, h => by
    have e : ((2 ^ (L + 1) * (2 * k + 1) : Nat) : Int) = 2 * ((2 ^ L * (2 * k + 1) : Nat) : Int) := by
      rw [Nat.pow_succ, Nat.mul_comm (2 ^ L) 2, Nat.mul_assoc]
      push_cast
      rfl
    rw [e]
    generalize hm : ((2 ^ L * (2 * k + 1) : Nat) : Int) = m
    refine (whileL_t (ρ2 := [some (.int m), some (.int ((c + 1 : Nat) : Int))]) ?_ ?_).trans ?_
    · refine test_ok (op_ok (x := .int 0) (y := .int 0) (op_ok (x := .int (2 * m)) (y := .int 2) rfl rfl ?_) rfl ?_)
      · rw [mod_c (by decide)]
        congr 2
        omega
      · kernel_rfl
    · refine (par_ok (d := .int ((c + 1 : Nat) : Int)) (e := .int m) rfl (op_ok (x := .int (2 * m)) (y := .int 2) rfl rfl ?_)).trans rfl
      rw [fdiv_c (by decide) (by decide)]
      congr 2
      omega
    · rw [← hm, lev_loop2 L k (c + 1) n (by omega)]
      rw [show c + 1 + L = c + (L + 1) by omega]
theorem lev2_eq {n L k : Nat} (e : n = 2 ^ L * (2 * k + 1)) (hL : L < 1000) : D__law_level [.int (n : Int)] = .ok (.tup [.int L, .int k]) := by
  refine run_rt ?_
  refine (seq_nx (ρ' := [some (.int (n : Int)), some (.int ((0 : Nat) : Int))]) rfl).trans ?_
  refine (seq_nx (ρ' := [some (.int ((2 * k + 1 : Nat) : Int)), some (.int L)]) ?_).trans ?_
  · rw [e]
    have := lev_loop2 L k 0 1000000 (by omega)
    rw [Nat.zero_add] at this
    exact this
  · refine ret_ok (tup_ok (ac_ok (x := .int L) rfl (ac_ok (x := .int k) (op_ok (x := .int ((2 * k + 1 : Nat) : Int)) (y := .int 2) rfl rfl ?_) an_ok)) (by show 2 ≤ 1000; decide))
    rw [fdiv_c (by decide) (by decide)]
    congr 2
    omega
theorem VM_at (f : Bool) (k : Nat) : ixD (.str "VM") (.int (((if (!f) then (1 : Int) else 0) + k) % 2)) = some (cD (xor f (k % 2 == 1))) := by
  rcases Nat.mod_two_eq_zero_or_one k with z | z
  · cases f
    · rw [show ((if (!false) = true then (1 : Int) else 0) + k) % 2 = 1 by simp; omega, z]; kernel_rfl
    · rw [show ((if (!true) = true then (1 : Int) else 0) + k) % 2 = 0 by simp; omega, z]; kernel_rfl
  · cases f
    · rw [show ((if (!false) = true then (1 : Int) else 0) + k) % 2 = 0 by simp; omega, z]; kernel_rfl
    · rw [show ((if (!true) = true then (1 : Int) else 0) + k) % 2 = 1 by simp; omega, z]; kernel_rfl
theorem crease2_eq (fr : List Bool) {n : Nat} (h1 : 1 ≤ n) (h2 : n < 2 ^ fr.length) (hl : fr.length ≤ 900) : D__law_crease [.tup ((fr.reverse).map fD), .int (n : Int)] = .ok (cD (cr fr n)) := by
  obtain ⟨L, k, e⟩ := dec n h1
  have hL : L < fr.length := lev_lt (e ▸ h2)
  rw [show cr fr n = xor fr[L] (k % 2 == 1) by rw [e]; exact cr_dec fr L k _ (List.getElem?_eq_getElem hL)]
  refine run_rt ?_
  refine (seq_nx (ρ' := [some (.tup ((fr.reverse).map fD)), some (.int (n : Int)), some (.int L), some (.int k)]) ?_).trans ?_
  · exact asgT_ok (d := .tup [.int L, .int k]) (call_ok (l := [.int (n : Int)]) (ac_ok rfl an_ok) rfl (lev2_eq e (by omega))) rfl
  have hx : vOp ixD (vVar 0) (vOp subD (vOp subD (vCB lenD (aCons (vVar 0) (aNil))) (vC (.int 1))) (vVar 2)) [some (.tup ((fr.reverse).map fD)), some (.int (n : Int)), some (.int L), some (.int k)] = .ok (fD fr[L]) := by
    refine op_ok (x := .tup ((fr.reverse).map fD)) (y := .int (((fr.reverse).map fD).length - 1 - L : Int)) rfl rfl ?_
    show atI _ _ = _
    rw [List.length_map, List.length_reverse, at_int (i := fr.length - 1 - L) (by omega) (by rw [List.length_map, List.length_reverse]; omega)]
    exact rev_at fr hL
  refine ret_ok (op_ok (x := .str "VM") (y := .int (((if (!fr[L]) then (1 : Int) else 0) + k) % 2)) rfl (op_ok (x := .int ((if (!fr[L]) then (1 : Int) else 0) + k)) (y := .int 2) (op_ok (x := .int (if (!fr[L]) then (1 : Int) else 0)) (y := .int k) (cb_ok (ac_ok (x := .bl (!fr[L])) (op_ok (f2 := vC (.str "under")) hx (y := .str "under") rfl (fD_u _)) an_ok) rfl) rfl rfl) rfl (mod_c (by decide))) (VM_at _ _))
/-! ### crease_at -/
theorem whole_dec {v m : Nat} : D_is_whole [.int v, .int 1, .int m] = .ok (.bl (decide (1 ≤ v) && decide (v ≤ m))) := by
  refine run_rt (ret_ok ?_)
  refine (vand_t (v1_ok (x := .int v) rfl rfl)).trans ?_
  refine (vand_t (v1_ok (x := .bl false) (v1_ok (x := .int v) rfl rfl) rfl)).trans ?_
  show (ofO (leD (.int 1) (.int v))).bind (vChainK leD (vVar 2) _ (.int v)) = _
  by_cases z : 1 ≤ v
  · rw [show leD (.int 1) (.int v) = some (.bl true) by show some (Dat.bl (decide ((1 : Int) ≤ v))) = _; rw [decide_eq_true (by omega)], decide_eq_true z]
    show ofO (leD (.int v) (.int m)) = _
    by_cases y : v ≤ m
    · rw [show leD (.int v) (.int m) = some (.bl true) by show some (Dat.bl (decide ((v : Int) ≤ m))) = _; rw [decide_eq_true (by omega)], decide_eq_true y]
      rfl
    · rw [show leD (.int v) (.int m) = some (.bl false) by show some (Dat.bl (decide ((v : Int) ≤ m))) = _; rw [decide_eq_false (by omega)], decide_eq_false y]
      rfl
  · rw [show leD (.int 1) (.int v) = some (.bl false) by show some (Dat.bl (decide ((1 : Int) ≤ v))) = _; rw [decide_eq_false (by omega)], decide_eq_false z]
    rfl
theorem at_test (fr : List Bool) {n : Nat} (hl : fr.length ≤ 300) : vNotT (vTru (vCall 3 D_is_whole (aCons (vVar 1) (aCons (vC (.int 1)) (aCons (vOp subD (vCall 1 D_two_to (aCons (vCB lenD (aCons (vVar 0) (aNil))) (aNil))) (vC (.int 1))) (aNil)))))) [some (.tup ((fr.reverse).map fD)), some (.int (n : Int))] = .ok (!(decide (1 ≤ n) && decide (n ≤ 2 ^ fr.length - 1))) := by
  have hp1 : 1 ≤ 2 ^ fr.length := Nat.pow_pos (by decide)
  refine not_ok (tru_ok (d := .bl (decide (1 ≤ n) && decide (n ≤ 2 ^ fr.length - 1))) (call_ok (l := [.int (n : Int), .int 1, .int ((2 ^ fr.length - 1 : Nat) : Int)]) ?_ rfl whole_dec) rfl)
  refine ac_ok rfl (ac_ok rfl (ac_ok (op_ok (x := .int ((2 ^ fr.length : Nat) : Int)) (y := .int 1) (call_ok (l := [.int ((fr.length : Nat) : Int)]) (ac_ok (cb_ok (ac_ok (x := .tup ((fr.reverse).map fD)) rfl an_ok) ?_) an_ok) rfl (two_eq (by omega))) rfl ?_) an_ok))
  · rw [len_tup, List.length_map, List.length_reverse]
  · show some (Dat.int (((2 ^ fr.length : Nat) : Int) - 1)) = _
    congr 2
    omega
theorem creaseat_eq (fr : List Bool) {n : Nat} (h1 : 1 ≤ n) (h2 : n < 2 ^ fr.length) (hl : fr.length ≤ 300) : D_crease_at [.tup ((fr.reverse).map fD), .int (n : Int)] = .ok (cD (cr fr n)) := by
  refine run_rt ?_
  refine (seq_nx (ρ' := [some (.tup ((fr.reverse).map fD)), some (.int (n : Int))]) ?_).trans ?_
  · exact drop_ok (d := .non) (call_ok (l := [.tup ((fr.reverse).map fD), .int ((300 : Nat) : Int)]) rfl rfl (check_eq (m := 300) fr.reverse (by decide) (by rw [List.length_reverse]; exact hl)))
  have ht := at_test fr (n := n) hl
  rw [decide_eq_true h1, decide_eq_true (by omega)] at ht
  refine (seq_nx (ρ' := [some (.tup ((fr.reverse).map fD)), some (.int (n : Int))]) ((if_f ht).trans rfl)).trans ?_
  exact ret_ok (call_ok (l := [.tup ((fr.reverse).map fD), .int (n : Int)]) rfl rfl (crease_eq fr h1 h2 (by omega)))
theorem creaseat_exc (fr : List Bool) (hl : fr.length ≤ 300) : D_crease_at [.tup ((fr.reverse).map fD), .int ((2 ^ fr.length : Nat) : Int)] = .exc 1 := by
  have hp1 : 1 ≤ 2 ^ fr.length := Nat.pow_pos (by decide)
  have ht := at_test fr (n := 2 ^ fr.length) hl
  rw [decide_eq_false (by omega : ¬ (2 ^ fr.length ≤ 2 ^ fr.length - 1)), Bool.and_false] at ht
  have : F_crease_at (startD 2 [.tup ((fr.reverse).map fD), .int ((2 ^ fr.length : Nat) : Int)]) = .ex 1 [some (.tup ((fr.reverse).map fD)), some (.int ((2 ^ fr.length : Nat) : Int))] := by
    refine (seq_nx (ρ' := [some (.tup ((fr.reverse).map fD)), some (.int ((2 ^ fr.length : Nat) : Int))]) ?_).trans ?_
    · exact drop_ok (d := .non) (call_ok (l := [.tup ((fr.reverse).map fD), .int ((300 : Nat) : Int)]) rfl rfl (check_eq (m := 300) fr.reverse (by decide) (by rw [List.length_reverse]; exact hl)))
    · exact seq_ex ((if_t ht).trans rfl)
  show endD (F_crease_at _) = _
  rw [this]
  rfl
/-! ### any pair -/
/-- the creases 2 ^ L (2 i + 1) and 2 ^ M (2 j + 1) don't fit -/
def mis (l : List Bool) (a b i j : Nat) : Bool := !((i % 2 == j % 2) == (l[a - 1]?.getD false == l[b - 1]?.getD false))
theorem par_eq (i j : Nat) : eqD (.int (((i : Int) - (j : Int)) % 2)) (.int 0) = some (.bl (i % 2 == j % 2)) := by
  rcases Nat.mod_two_eq_zero_or_one i with z | z <;> rcases Nat.mod_two_eq_zero_or_one j with y | y
  · rw [z, y, show ((i : Int) - j) % 2 = 0 by omega]; kernel_rfl
  · rw [z, y, show ((i : Int) - j) % 2 = 1 by omega]; kernel_rfl
  · rw [z, y, show ((i : Int) - j) % 2 = 1 by omega]; kernel_rfl
  · rw [z, y, show ((i : Int) - j) % 2 = 0 by omega]; kernel_rfl
theorem clash_gen (l : List Bool) {a b L i M j : Nat} (ha : a = 2 ^ L * (2 * i + 1)) (hb : b = 2 ^ M * (2 * j + 1)) (hL : L < 1000) (hM : M < 1000) (h1 : a ≤ l.length) (h2 : b ≤ l.length) : D__are_clashing [.tup (l.map cD), .int (a : Int), .int (b : Int)] = .ok (.bl (mis l a b i j)) := by
  have a1 : 1 ≤ a := by rw [ha]; exact Nat.mul_pos (Nat.pow_pos (by decide)) (by omega)
  have b1 : 1 ≤ b := by rw [hb]; exact Nat.mul_pos (Nat.pow_pos (by decide)) (by omega)
  have la := lev_eq ha hL
  have lb := lev_eq hb hM
  clear ha hb
  refine run_rt (ret_ok ?_)
  refine op_ok (x := .bl (i % 2 == j % 2)) (y := .bl (l[a - 1]?.getD false == l[b - 1]?.getD false)) ?_ ?_ (ne_bb _ _)
  · refine op_ok (x := .int (((i : Int) - (j : Int)) % 2)) (y := .int 0) (op_ok (x := .int ((i : Int) - (j : Int))) (y := .int 2) (op_ok (x := .int i) (y := .int j) ?_ ?_ rfl) rfl (mod_c (by decide))) rfl (par_eq i j)
    · exact op_ok (x := .tup [.int L, .int (i : Int)]) (y := .int 1) (call_ok (l := [.int (a : Int)]) rfl rfl la) rfl rfl
    · exact op_ok (x := .tup [.int M, .int (j : Int)]) (y := .int 1) (call_ok (l := [.int (b : Int)]) rfl rfl lb) rfl rfl
  · refine op_ok (x := cD (l[a - 1]?.getD false)) (y := cD (l[b - 1]?.getD false)) ?_ ?_ (eq_cc _ _)
    · exact op_ok (x := .tup (l.map cD)) (y := .int ((a : Int) - 1)) rfl rfl (at_one l (by omega) (by omega))
    · exact op_ok (x := .tup (l.map cD)) (y := .int ((b : Int) - 1)) rfl rfl (at_one l (by omega) (by omega))
theorem mis_bad (l : List Bool) (L k : Nat) : mis l (2 ^ L) (2 ^ L * (2 * k + 1)) 0 k = bad l L k := by
  unfold mis bad
  rcases Nat.mod_two_eq_zero_or_one k with z | z <;> rw [z] <;> rfl
theorem mis_good {l : List Bool} {L i j : Nat} (h1 : bad l L i = false) (h2 : bad l L j = false) : mis l (2 ^ L * (2 * i + 1)) (2 ^ L * (2 * j + 1)) i j = false := by
  unfold mis
  unfold bad at h1 h2
  generalize l[2 ^ L - 1]?.getD false = x at h1 h2
  generalize l[2 ^ L * (2 * i + 1) - 1]?.getD false = y at h1 ⊢
  generalize l[2 ^ L * (2 * j + 1) - 1]?.getD false = z at h2 ⊢
  rcases Nat.mod_two_eq_zero_or_one i with p | p <;> rcases Nat.mod_two_eq_zero_or_one j with q | q <;> rw [p] at h1 ⊢ <;> rw [q] at h2 ⊢ <;> revert h1 h2 <;> cases x <;> cases y <;> cases z <;> decide
/-! ### the law's own search -/
def B4 : DEnv → DFlow := sSeq (sPar 3 4 (vCall 1 D__law_level (aCons (vVar 2) (aNil))) (vCall 1 D__law_level (aCons (vVar 1) (aNil)))) (sIf (vAndT (vTest (vOp eqD (vOp ixD (vVar 3) (vC (.int 0))) (vOp ixD (vVar 4) (vC (.int 0))))) (vTest (vOp neD (vOp eqD (vOp modD (vOp subD (vOp ixD (vVar 3) (vC (.int 1))) (vOp ixD (vVar 4) (vC (.int 1)))) (vC (.int 2))) (vC (.int 0))) (vOp eqD (vOp ixD (vVar 0) (vOp subD (vVar 2) (vC (.int 1)))) (vOp ixD (vVar 0) (vOp subD (vVar 1) (vC (.int 1)))))))) (sRet (vTup (aCons (vVar 2) (aCons (vVar 1) (aNil))))) (sNop))
theorem eq_int (a b : Nat) : eqD (.int a) (.int b) = some (.bl (a == b)) := by
  show some (Dat.bl ((a : Int) == (b : Int))) = _
  congr 2
  by_cases z : a = b
  · rw [z, beq_self_eq_true, beq_self_eq_true]
  · rw [beq_eq_false_iff_ne.mpr z, beq_eq_false_iff_ne.mpr (fun q => z (by omega))]
theorem b4_turn (l : List Bool) {x y : Option Dat} {a b L i M j : Nat} (ha : a = 2 ^ L * (2 * i + 1)) (hb : b = 2 ^ M * (2 * j + 1)) (hL : L < 1000) (hM : M < 1000) (h1 : a ≤ l.length) (h2 : b ≤ l.length) :
    B4 [some (.tup (l.map cD)), some (.int (b : Int)), some (.int (a : Int)), x, y] = if (L == M && mis l a b i j) = true then .rt (.tup [.int (a : Int), .int (b : Int)]) else .nx [some (.tup (l.map cD)), some (.int (b : Int)), some (.int (a : Int)), some (.tup [.int L, .int i]), some (.tup [.int M, .int j])] := by
  have a1 : 1 ≤ a := by rw [ha]; exact Nat.mul_pos (Nat.pow_pos (by decide)) (by omega)
  have b1 : 1 ≤ b := by rw [hb]; exact Nat.mul_pos (Nat.pow_pos (by decide)) (by omega)
  have la := lev2_eq ha hL
  have lb := lev2_eq hb hM
  clear ha hb
  refine (seq_nx (ρ' := [some (.tup (l.map cD)), some (.int (b : Int)), some (.int (a : Int)), some (.tup [.int L, .int i]), some (.tup [.int M, .int j])]) ((par_ok (call_ok (l := [.int (a : Int)]) rfl rfl la) (call_ok (l := [.int (b : Int)]) rfl rfl lb)).trans rfl)).trans ?_
  have t1 : vTest (vOp eqD (vOp ixD (vVar 3) (vC (.int 0))) (vOp ixD (vVar 4) (vC (.int 0)))) [some (.tup (l.map cD)), some (.int (b : Int)), some (.int (a : Int)), some (.tup [.int L, .int i]), some (.tup [.int M, .int j])] = .ok (L == M) := test_ok (op_ok (x := .int L) (y := .int M) rfl rfl (eq_int L M))
  have t2 : vTest (vOp neD (vOp eqD (vOp modD (vOp subD (vOp ixD (vVar 3) (vC (.int 1))) (vOp ixD (vVar 4) (vC (.int 1)))) (vC (.int 2))) (vC (.int 0))) (vOp eqD (vOp ixD (vVar 0) (vOp subD (vVar 2) (vC (.int 1)))) (vOp ixD (vVar 0) (vOp subD (vVar 1) (vC (.int 1)))))) [some (.tup (l.map cD)), some (.int (b : Int)), some (.int (a : Int)), some (.tup [.int L, .int i]), some (.tup [.int M, .int j])] = .ok (mis l a b i j) := by
    refine test_ok (op_ok (x := .bl (i % 2 == j % 2)) (y := .bl (l[a - 1]?.getD false == l[b - 1]?.getD false)) ?_ ?_ (ne_bb _ _))
    · exact op_ok (x := .int (((i : Int) - (j : Int)) % 2)) (y := .int 0) (op_ok (x := .int ((i : Int) - (j : Int))) (y := .int 2) rfl rfl (mod_c (by decide))) rfl (par_eq i j)
    · refine op_ok (x := cD (l[a - 1]?.getD false)) (y := cD (l[b - 1]?.getD false)) ?_ ?_ (eq_cc _ _)
      · exact op_ok (x := .tup (l.map cD)) (y := .int ((a : Int) - 1)) rfl rfl (at_one l (by omega) (by omega))
      · exact op_ok (x := .tup (l.map cD)) (y := .int ((b : Int) - 1)) rfl rfl (at_one l (by omega) (by omega))
  cases q : (L == M) with
  | false =>
    rw [q] at t1
    rw [Bool.false_and, if_neg (by decide)]
    exact (if_f ((and_f t1))).trans rfl
  | true =>
    rw [q] at t1
    rw [Bool.true_and]
    cases q2 : mis l a b i j with
    | true =>
      rw [q2] at t2
      rw [if_pos rfl]
      exact (if_t ((and_t t1).trans t2)).trans (ret_ok (tup_ok (l := [.int (a : Int), .int (b : Int)]) rfl (by show 2 ≤ 1000; decide)))
    | false =>
      rw [q2] at t2
      rw [if_neg (by decide)]
      exact (if_f ((and_t t1).trans t2)).trans rfl
def B5 : DEnv → DFlow := sFor (gA range2D (aCons (vC (.int 1)) (aCons (vVar 1) (aNil)))) (aName 2) B4
theorem lev_lt2 {L k n len : Nat} (hl : len = 2 ^ n - 1) (h : 2 ^ L * (2 * k + 1) ≤ len) : L < n := by
  have : 1 ≤ 2 ^ n := Nat.pow_pos (by decide)
  exact lev_lt (k := k) (by omega)
/-- no pair with b -/
theorem b5_none (l : List Bool) {n b M j : Nat} {x y z : Option Dat} (hn : n ≤ 12) (hl : l.length = 2 ^ n - 1) (hb : b = 2 ^ M * (2 * j + 1)) (h2 : b ≤ l.length) (hg : ∀ L k, 2 ^ L * (2 * k + 1) ≤ b → bad l L k = false) :
    ∃ x' y' z', B5 [some (.tup (l.map cD)), some (.int (b : Int)), x, y, z] = .nx [some (.tup (l.map cD)), some (.int (b : Int)), x', y', z'] := by
  have hp : 2 ^ n ≤ 4096 := Nat.pow_le_pow_right (n := 2) (by decide) hn
  obtain ⟨ρ', e, x', y', z', rfl⟩ := forL_inv (asg := aName 2) (F := B4) (l := rng ((1 : Nat) : Int) (b - 1)) (ρ := [some (.tup (l.map cD)), some (.int (b : Int)), x, y, z]) (fun _ ρ => ∃ x' y' z', ρ = [some (.tup (l.map cD)), some (.int (b : Int)), x', y', z']) ⟨x, y, z, rfl⟩ fun k d ρ hk hp => by
    obtain ⟨x', y', z', rfl⟩ := hp
    obtain ⟨hk', rfl⟩ := rng_get hk
    obtain ⟨L, i, ha⟩ := dec (k + 1) (by omega)
    have t := b4_turn l (x := y') (y := z') ha hb (by have := lev_lt2 hl (L := L) (k := i) (by omega); omega) (by have := lev_lt2 hl (L := M) (k := j) (by omega); omega) (by omega) h2
    have hm : (L == M && mis l (k + 1) b i j) = false := by
      by_cases q : L = M
      · subst q
        rw [ha, hb, mis_good (hg L i (by omega)) (hg L j (by omega)), Bool.and_false]
      · rw [beq_eq_false_iff_ne.mpr q, Bool.false_and]
    rw [hm, if_neg (by decide)] at t
    rw [show (((1 : Nat) : Int) + (k : Nat)) = ((k + 1 : Nat) : Int) by omega]
    exact ⟨_, _, rfl, .inl t, _, _, _, rfl⟩
  refine ⟨x', y', z', (for_ok (l := rng ((1 : Nat) : Int) (b - 1)) ?_).trans e⟩
  exact ga_ok (l := [.int ((1 : Nat) : Int), .int (b : Int)]) rfl (range2_nat (by decide) (by omega))
theorem due_head (l : List Bool) {n : Nat} (hn : n ≤ 12) (hl : l.length = 2 ^ n - 1) {b c d e : Option Dat} : gA range2D (aCons (vC (.int 1)) (aCons (vOp addD (vCB lenD (aCons (vVar 0) (aNil))) (vC (.int 1))) (aNil))) [some (.tup (l.map cD)), b, c, d, e] = .ok (rng ((1 : Nat) : Int) (2 ^ n - 1)) := by
  have hp : 2 ^ n ≤ 4096 := Nat.pow_le_pow_right (n := 2) (by decide) hn
  have hp1 : 1 ≤ 2 ^ n := Nat.pow_pos (by decide)
  refine ga_ok (l := [.int ((1 : Nat) : Int), .int ((2 ^ n : Nat) : Int)]) (ac_ok rfl (ac_ok (op_ok (x := .int ((l.map cD).length : Nat)) (y := .int 1) rfl rfl ?_) an_ok)) (range2_nat (by decide) (by omega))
  rw [List.length_map, hl]
  show some (Dat.int (((2 ^ n - 1 : Nat) : Int) + 1)) = _
  congr 2
  omega
theorem due_none (l : List Bool) {n : Nat} (hn : n ≤ 12) (hl : l.length = 2 ^ n - 1) (hg : ∀ L k, 2 ^ L * (2 * k + 1) ≤ l.length → bad l L k = false) : D__law_due [.tup (l.map cD)] = .ok .non := by
  obtain ⟨ρ', e, w, x, y, z, rfl⟩ := forL_inv (asg := aName 1) (F := B5) (l := rng ((1 : Nat) : Int) (2 ^ n - 1)) (ρ := [some (.tup (l.map cD)), none, none, none, none]) (fun _ ρ => ∃ w x y z, ρ = [some (.tup (l.map cD)), w, x, y, z]) ⟨none, none, none, none, rfl⟩ fun k d ρ hk hp => by
    obtain ⟨w, x, y, z, rfl⟩ := hp
    obtain ⟨hk', rfl⟩ := rng_get hk
    obtain ⟨M, j, hb⟩ := dec (k + 1) (by omega)
    obtain ⟨x', y', z', t⟩ := b5_none l (x := x) (y := y) (z := z) hn hl hb (by omega) fun L k' h => hg L k' (by omega)
    rw [show (((1 : Nat) : Int) + (k : Nat)) = ((k + 1 : Nat) : Int) by omega]
    exact ⟨_, _, rfl, .inl t, _, _, _, _, rfl⟩
  refine run_rt ((seq_nx (ρ' := [some (.tup (l.map cD)), w, x, y, z]) ((for_ok (due_head l hn hl)).trans e)).trans rfl)
theorem due_some (l : List Bool) {n M j : Nat} (hn : n ≤ 12) (hl : l.length = 2 ^ n - 1) (h2 : 2 ^ M * (2 * j + 1) ≤ l.length) (hb : bad l M j = true) (hg : ∀ L k, 2 ^ L * (2 * k + 1) < 2 ^ M * (2 * j + 1) → bad l L k = false) :
    D__law_due [.tup (l.map cD)] = .ok (.tup [.int ((2 ^ M : Nat) : Int), .int ((2 ^ M * (2 * j + 1) : Nat) : Int)]) := by
  have hp : 2 ^ n ≤ 4096 := Nat.pow_le_pow_right (n := 2) (by decide) hn
  have hM := lev_lt2 hl h2
  have hN : 1 ≤ 2 ^ M * (2 * j + 1) := Nat.mul_pos (Nat.pow_pos (by decide)) (by omega)
  have h1 : 1 ≤ 2 ^ M := Nat.pow_pos (by decide)
  have hj : 1 ≤ j := by
    rcases Nat.eq_zero_or_pos j with z | z
    · subst z
      unfold bad at hb
      rw [show 2 ^ M * (2 * 0 + 1) = 2 ^ M by omega] at hb
      revert hb
      generalize l[2 ^ M - 1]?.getD false = x
      cases x <;> decide
    · exact z
  have h3 : 2 ^ M * 3 ≤ 2 ^ M * (2 * j + 1) := Nat.mul_le_mul_left _ (by omega)
  refine run_rt (seq_rt ((for_ok (due_head l hn hl)).trans ?_))
  refine forL_ret (asg := aName 1) (F := B5) (m := 2 ^ M * (2 * j + 1) - 1) (fun _ ρ => ∃ w x y z, ρ = [some (.tup (l.map cD)), w, x, y, z]) (by rw [rng_len]; omega) ⟨none, none, none, none, rfl⟩ (fun k d ρ hk hkm hp => ?_) (fun d ρ hk hp => ?_)
  · obtain ⟨w, x, y, z, rfl⟩ := hp
    obtain ⟨hk', rfl⟩ := rng_get hk
    obtain ⟨L, i, hb'⟩ := dec (k + 1) (by omega)
    obtain ⟨x', y', z', t⟩ := b5_none l (x := x) (y := y) (z := z) hn hl hb' (by omega) fun L k' h => hg L k' (by omega)
    rw [show (((1 : Nat) : Int) + (k : Nat)) = ((k + 1 : Nat) : Int) by omega]
    exact ⟨_, _, rfl, .inl t, _, _, _, _, rfl⟩
  · obtain ⟨w, x, y, z, rfl⟩ := hp
    obtain ⟨hk', rfl⟩ := rng_get hk
    rw [show (((1 : Nat) : Int) + (2 ^ M * (2 * j + 1) - 1 : Nat)) = ((2 ^ M * (2 * j + 1) : Nat) : Int) by omega]
    obtain ⟨b, hbb⟩ : ∃ b, b = 2 ^ M * (2 * j + 1) := ⟨_, rfl⟩
    have hp1 : 1 ≤ 2 ^ n := Nat.pow_pos (by decide)
    have hb2 : b ≤ l.length := by rw [hbb]; exact h2
    have hb3 : 2 ^ M * 3 ≤ b := by rw [hbb]; exact h3
    rw [← hbb]
    refine ⟨[some (.tup (l.map cD)), some (.int (b : Int)), x, y, z], rfl, (for_ok (l := rng ((1 : Nat) : Int) (b - 1)) (ga_ok (l := [.int ((1 : Nat) : Int), .int (b : Int)]) rfl (range2_nat (by decide) (by omega)))).trans ?_⟩
    refine forL_ret (asg := aName 2) (F := B4) (m := 2 ^ M - 1) (fun _ ρ => ∃ x y z, ρ = [some (.tup (l.map cD)), some (.int (b : Int)), x, y, z]) (by rw [rng_len]; omega) ⟨_, _, _, rfl⟩ (fun k d ρ hk hkm hp => ?_) (fun d ρ hk hp => ?_)
    · obtain ⟨x', y', z', rfl⟩ := hp
      obtain ⟨hk', rfl⟩ := rng_get hk
      obtain ⟨L, i, ha⟩ := dec (k + 1) (by omega)
      have t := b4_turn l (x := y') (y := z') (M := M) (j := j) ha hbb (by have := lev_lt2 hl (L := L) (k := i) (by omega); omega) (by omega) (by omega) (by omega)
      have q : L ≠ M := fun q => by
        subst q
        have : 2 ^ L ≤ 2 ^ L * (2 * i + 1) := Nat.le_mul_of_pos_right _ (by omega)
        omega
      rw [beq_eq_false_iff_ne.mpr q, Bool.false_and, if_neg (by decide)] at t
      rw [show (((1 : Nat) : Int) + (k : Nat)) = ((k + 1 : Nat) : Int) by omega]
      exact ⟨_, _, rfl, .inl t, _, _, _, rfl⟩
    · obtain ⟨x', y', z', rfl⟩ := hp
      obtain ⟨hk', rfl⟩ := rng_get hk
      have t := b4_turn l (x := y') (y := z') (a := 2 ^ M) (L := M) (M := M) (j := j) (i := 0) (by omega) hbb (by omega) (by omega) (by omega) (by omega)
      rw [beq_self_eq_true, Bool.true_and, hbb, mis_bad, hb, if_pos rfl] at t
      rw [show (((1 : Nat) : Int) + (2 ^ M - 1 : Nat)) = ((2 ^ M : Nat) : Int) by omega]
      refine ⟨_, rfl, ?_⟩
      rw [hbb]
      exact t
end Lw
namespace Lw
open PySem PySem.Spec PyProof.Rows L2 Dl
theorem eq_f (l m : List Bool) : eqD (.tup (l.map fD)) (.tup (m.map fD)) = some (.bl (l == m)) := by
  unfold eqD
  rw [shp_tup (n := 7) (shp_f 7), shp_tup (n := 7) (shp_f 7)]
  show some (Dat.bl (eqvDs (l.map fD) (m.map fD))) = _
  rw [eqvs_map eqv_f]
theorem ne_cc (a b : Bool) : neD (cD a) (cD b) = some (.bl (!(a == b))) := by cases a <;> cases b <;> kernel_rfl
theorem good_rowN {l : List Bool} {n : Nat} (hl : l.length = 2 ^ n - 1) (hg : ∀ L k, 2 ^ L * (2 * k + 1) ≤ l.length → bad l L k = false) : l = rowN ((List.range n).map fun j => l[2 ^ j - 1]?.getD false) := by
  have hp1 : 1 ≤ 2 ^ n := Nat.pow_pos (by decide)
  have hlen : ((List.range n).map fun j => l[2 ^ j - 1]?.getD false).length = n := by rw [List.length_map, List.length_range]
  refine List.ext_getElem? fun i => ?_
  by_cases z : i + 1 < 2 ^ n
  · rw [rowN_get _ (by rw [hlen]; exact z)]
    obtain ⟨L, k, e⟩ := dec (i + 1) (by omega)
    have hL : L < n := lev_lt (k := k) (by omega)
    have g := hg L k (by omega)
    rw [e, cr_dec _ L k (l[2 ^ L - 1]?.getD false) (by rw [List.getElem?_map, List.getElem?_range hL]; rfl)]
    unfold bad at g
    rw [← e] at g
    rw [show i + 1 - 1 = i by omega] at g
    have hi : i < l.length := by omega
    rw [List.getElem?_eq_getElem hi] at g ⊢
    generalize l[2 ^ L - 1]?.getD false = x at g ⊢
    have g2 : ∀ y : Bool, (!((k % 2 == 0) == (x == (some y).getD false))) = false → some y = some (x ^^ k % 2 == 1) := by
      intro y h
      rcases Nat.mod_two_eq_zero_or_one k with p | p <;> rw [p] at h ⊢ <;> revert h <;> cases x <;> cases y <;> decide
    exact g2 _ g
  · rw [List.getElem?_eq_none (by omega), List.getElem?_eq_none (by rw [rowN_len, hlen]; omega)]
/-! ### clash_fault and the law's own -/
def inn (n v : Nat) : Bool := decide (1 ≤ v) && decide (v ≤ n)
def Same (row item : Dat) : Prop := ∃ d, D_clash_fault [row, item] = .ok d ∧ D__law_clash [row, item] = .ok d ∧ eqD d d = some (.bl true)
theorem all2 (x y : Bool) : allD [.lst [.bl x, .bl y]] = some (.bl (x && (y && true))) := rfl
theorem eq_form : eqD (.str "form") (.str "form") = some (.bl true) := by kernel_rfl
theorem eq_level : eqD (.str "level") (.str "level") = some (.bl true) := by kernel_rfl
theorem eq_fits : eqD (.str "fits") (.str "fits") = some (.bl true) := by kernel_rfl
theorem ne_int (a b : Nat) : neD (.int a) (.int b) = some (.bl (!(a == b))) := by
  show some (Dat.bl (!((a : Int) == (b : Int)))) = _
  congr 3
  by_cases z : a = b
  · rw [z, beq_self_eq_true, beq_self_eq_true]
  · rw [beq_eq_false_iff_ne.mpr z, beq_eq_false_iff_ne.mpr (fun q => z (by omega))]
theorem ge_int (a b : Nat) : geD (.int a) (.int b) = some (.bl (decide (b ≤ a))) := by
  show some (Dat.bl (decide ((b : Int) ≤ a))) = _
  congr 2
  exact decide_eq_decide.mpr ⟨fun h => by omega, fun h => by omega⟩
theorem len_row (l : List Bool) : lenD [.tup (l.map cD)] = some (.int (l.length : Nat)) := by rw [len_tup, List.length_map]
theorem tests_own (l : List Bool) (a b : Nat) : (vOrT (vNotT (vTru (v1 (isiD "tuple") (vVar 1)))) (vOrT (vTest (vOp neD (vCB lenD (aCons (vVar 1) (aNil))) (vC (.int 2)))) (vNotT (vTru (vCB allD (aCons (vL (vLc (gSeq (vVar 1)) (aName 4) [4] (tYesD) (vCall 3 D_is_whole (aCons (vVar 4) (aCons (vC (.int 1)) (aCons (vCB lenD (aCons (vVar 0) (aNil))) (aNil))))))) (aNil)))))))
    [some (.tup (l.map cD)), some (.tup [.int (a : Int), .int (b : Int)]), none, none, none] = .ok (!(inn l.length a && (inn l.length b && true))) := by
  refine (or_f (by exact not_ok (b := true) (tru_ok (d := .bl true) rfl rfl))).trans ?_
  refine (or_f (by exact test_ok (op_ok (x := .int 2) (y := .int 2) rfl rfl (by kernel_rfl)))).trans ?_
  refine not_ok (tru_ok (d := .bl (inn l.length a && (inn l.length b && true))) (cb_ok (ac_ok (vl_ok (l := [a, b].map fun v => Dat.bl (inn l.length v)) ?_) an_ok) (all2 _ _)) rfl)
  refine lc_ok (l := [a, b].map fun (v : Nat) => Dat.int v) rfl (by show 2 ≤ _; decide) (lcL_of fun v hv => ⟨_, rfl, ?_⟩)
  refine call_ok (l := [.int (v : Int), .int 1, .int (l.length : Nat)]) ?_ rfl whole_dec
  exact ac_ok rfl (ac_ok rfl (ac_ok (cb_ok (ac_ok (x := .tup (l.map cD)) rfl an_ok) (len_row l)) an_ok))
theorem tests_law (l : List Bool) (a b : Nat) : vCB allD (aCons (vL (vLc (gSeq (vVar 1)) (aName 2) [2] (tYesD) (vAnd (v1 (isiD "int") (vVar 2)) (vAnd (v1 notD (v1 (isiD "bool") (vVar 2))) (vChain leD leD (vC (.int 1)) (vVar 2) (vCB lenD (aCons (vVar 0) (aNil)))))))) (aNil))
    [some (.tup (l.map cD)), some (.tup [.int (a : Int), .int (b : Int)]), none, none] = .ok (.bl (inn l.length a && (inn l.length b && true))) := by
  refine cb_ok (ac_ok (vl_ok (l := [a, b].map fun v => Dat.bl (inn l.length v)) ?_) an_ok) (all2 _ _)
  refine lc_ok (l := [a, b].map fun (v : Nat) => Dat.int v) rfl (by show 2 ≤ _; decide) (lcL_of fun v hv => ⟨[some (.tup (l.map cD)), some (.tup [.int (a : Int), .int (b : Int)]), some (.int (v : Int)), none], rfl, ?_⟩)
  refine (vand_t (v1_ok (x := .int v) rfl rfl)).trans ?_
  refine (vand_t (v1_ok (x := .bl false) (v1_ok (x := .int v) rfl rfl) rfl)).trans ?_
  have hlen : vCB lenD (aCons (vVar 0) (aNil)) [some (.tup (l.map cD)), some (.tup [.int (a : Int), .int (b : Int)]), some (.int (v : Int)), none] = .ok (.int (l.length : Nat)) := cb_ok (ac_ok (x := .tup (l.map cD)) rfl an_ok) (len_row l)
  show (ofO (leD (.int 1) (.int v))).bind (vChainK leD (vCB lenD (aCons (vVar 0) (aNil))) _ (.int v)) = _
  unfold inn
  by_cases z : 1 ≤ v
  · rw [show leD (.int 1) (.int v) = some (.bl true) by show some (Dat.bl (decide ((1 : Int) ≤ v))) = _; rw [decide_eq_true (by omega)], decide_eq_true z]
    show (vCB lenD (aCons (vVar 0) (aNil)) [some (.tup (l.map cD)), some (.tup [.int (a : Int), .int (b : Int)]), some (.int (v : Int)), none]).bind (fun w => ofO (leD (.int v) w)) = _
    rw [hlen]
    show ofO (leD (.int v) (.int (l.length : Nat))) = _
    by_cases y : v ≤ l.length
    · rw [show leD (.int v) (.int (l.length : Nat)) = some (.bl true) by show some (Dat.bl (decide ((v : Int) ≤ (l.length : Nat)))) = _; rw [decide_eq_true (by omega)], decide_eq_true y]
      rfl
    · rw [show leD (.int v) (.int (l.length : Nat)) = some (.bl false) by show some (Dat.bl (decide ((v : Int) ≤ (l.length : Nat)))) = _; rw [decide_eq_false (by omega)], decide_eq_false y]
      rfl
  · rw [show leD (.int 1) (.int v) = some (.bl false) by show some (Dat.bl (decide ((1 : Int) ≤ v))) = _; rw [decide_eq_false (by omega)], decide_eq_false z]
    rfl
theorem law_t1 {r : Dat} {a b : Dat} {x y : Option Dat} : vOrT (vNotT (vTru (v1 (isiD "tuple") (vVar 1)))) (vTest (vOp neD (vCB lenD (aCons (vVar 1) (aNil))) (vC (.int 2)))) [some r, some (.tup [a, b]), x, y] = .ok false :=
  (or_f (by exact not_ok (b := true) (tru_ok (d := .bl true) rfl rfl))).trans (test_ok (op_ok (x := .int 2) (y := .int 2) rfl rfl (by kernel_rfl)))
theorem pair_same (l : List Bool) {n : Nat} (hn : n ≤ 12) (hl : l.length = 2 ^ n - 1) (a b : Nat) : Same (.tup (l.map cD)) (.tup [.int (a : Int), .int (b : Int)]) := by
  have hp : 2 ^ n ≤ 4096 := Nat.pow_le_pow_right (n := 2) (by decide) hn
  have h0 := drop_ok (ρ := startD 5 [.tup (l.map cD), .tup [.int (a : Int), .int (b : Int)]]) (call_ok (l := [.tup (l.map cD)]) (fs := aCons (vVar 0) aNil) rfl rfl (checkrow_eq l hn hl))
  have t1 := tests_own l a b
  have t2 := tests_law l a b
  have t2' := not_ok (tru_ok t2 rfl)
  cases hin : (inn l.length a && (inn l.length b && true)) with
  | false =>
    rw [hin] at t1 t2'
    refine ⟨.str "form", run_rt ((seq_nx h0).trans (seq_rt ((if_t t1).trans rfl))), run_rt ((seq_nx ((if_f law_t1).trans rfl)).trans (seq_rt ((if_t (or_t t2')).trans rfl))), eq_form⟩
  | true =>
    rw [hin] at t1 t2'
    have hge : vTest (vOp geD (vOp ixD (vVar 1) (vC (.int 0))) (vOp ixD (vVar 1) (vC (.int 1)))) [some (.tup (l.map cD)), some (.tup [.int (a : Int), .int (b : Int)]), none, none] = .ok (decide (b ≤ a)) := test_ok (op_ok (x := .int a) (y := .int b) rfl rfl (ge_int a b))
    have hge2 : vTest (vOp geD (vVar 2) (vVar 3)) [some (.tup (l.map cD)), some (.tup [.int (a : Int), .int (b : Int)]), some (.int (a : Int)), some (.int (b : Int)), none] = .ok (decide (b ≤ a)) := test_ok (op_ok (x := .int a) (y := .int b) rfl rfl (ge_int a b))
    have s2 : ∀ F, sSeq (sAsgT (aTup (asCons (aName 2) (asCons (aName 3) (asNil)))) (vVar 1)) F [some (.tup (l.map cD)), some (.tup [.int (a : Int), .int (b : Int)]), none, none, none] = F [some (.tup (l.map cD)), some (.tup [.int (a : Int), .int (b : Int)]), some (.int (a : Int)), some (.int (b : Int)), none] := fun F => seq_nx (asgT_ok (d := .tup [.int (a : Int), .int (b : Int)]) rfl rfl)
    unfold inn at hin
    simp only [Bool.and_eq_true, decide_eq_true_eq] at hin
    obtain ⟨⟨ha1, ha2⟩, ⟨hb1, hb2⟩, -⟩ := hin
    by_cases hab : b ≤ a
    · rw [decide_eq_true hab] at hge hge2
      refine ⟨.str "form", run_rt ((seq_nx h0).trans ((seq_nx ((if_f t1).trans rfl)).trans ((s2 _).trans (seq_rt ((if_t hge2).trans rfl))))), run_rt ((seq_nx ((if_f law_t1).trans rfl)).trans (seq_rt ((if_t ((or_f t2').trans hge)).trans rfl))), eq_form⟩
    · rw [decide_eq_false hab] at hge hge2
      obtain ⟨L, i, hea⟩ := dec a ha1
      obtain ⟨M, j, heb⟩ := dec b hb1
      have hL := lev_lt2 hl (L := L) (k := i) (by omega)
      have hM := lev_lt2 hl (L := M) (k := j) (by omega)
      have la := lev_eq hea (by omega)
      have lb := lev_eq heb (by omega)
      have ka := lev2_eq hea (by omega)
      have kb := lev2_eq heb (by omega)
      have hc := clash_gen l hea heb (by omega) (by omega) ha2 hb2
      have hlevs : vTest (vOp neD (vOp ixD (vCall 1 D_level_of (aCons (vVar 2) (aNil))) (vC (.int 0))) (vOp ixD (vCall 1 D_level_of (aCons (vVar 3) (aNil))) (vC (.int 0)))) [some (.tup (l.map cD)), some (.tup [.int (a : Int), .int (b : Int)]), some (.int (a : Int)), some (.int (b : Int)), none] = .ok (!(L == M)) :=
        test_ok (op_ok (x := .int L) (y := .int M) (op_ok (x := .tup [.int L, .int i]) (y := .int 0) (call_ok (l := [.int (a : Int)]) rfl rfl la) rfl rfl) (op_ok (x := .tup [.int M, .int j]) (y := .int 0) (call_ok (l := [.int (b : Int)]) rfl rfl lb) rfl rfl) (ne_int L M))
      have hlevs2 : vTest (vOp neD (vOp ixD (vVar 2) (vC (.int 0))) (vOp ixD (vVar 3) (vC (.int 0)))) [some (.tup (l.map cD)), some (.tup [.int (a : Int), .int (b : Int)]), some (.tup [.int L, .int i]), some (.tup [.int M, .int j])] = .ok (!(L == M)) :=
        test_ok (op_ok (x := .int L) (y := .int M) rfl rfl (ne_int L M))
      have s3 : ∀ F, sSeq (sPar 2 3 (vCall 1 D__law_level (aCons (vOp ixD (vVar 1) (vC (.int 0))) (aNil))) (vCall 1 D__law_level (aCons (vOp ixD (vVar 1) (vC (.int 1))) (aNil)))) F [some (.tup (l.map cD)), some (.tup [.int (a : Int), .int (b : Int)]), none, none] = F [some (.tup (l.map cD)), some (.tup [.int (a : Int), .int (b : Int)]), some (.tup [.int L, .int i]), some (.tup [.int M, .int j])] := fun F =>
        seq_nx (par_ok (call_ok (l := [.int (a : Int)]) rfl rfl ka) (call_ok (l := [.int (b : Int)]) rfl rfl kb))
      cases hLM : (L == M) with
      | false =>
        rw [hLM] at hlevs hlevs2
        exact ⟨.str "level", run_rt ((seq_nx h0).trans ((seq_nx ((if_f t1).trans rfl)).trans ((s2 _).trans ((seq_nx ((if_f hge2).trans rfl)).trans (seq_rt ((if_t hlevs).trans rfl)))))),
          run_rt ((seq_nx ((if_f law_t1).trans rfl)).trans ((seq_nx ((if_f ((or_f t2').trans hge)).trans rfl)).trans ((s3 _).trans (seq_rt ((if_t hlevs2).trans rfl))))), eq_level⟩
      | true =>
        rw [hLM] at hlevs hlevs2
        have t4 : vTru (vCall 3 D__are_clashing (aCons (vVar 0) (aCons (vVar 2) (aCons (vVar 3) (aNil))))) [some (.tup (l.map cD)), some (.tup [.int (a : Int), .int (b : Int)]), some (.int (a : Int)), some (.int (b : Int)), none] = .ok (mis l a b i j) := tru_ok (call_ok (l := [.tup (l.map cD), .int (a : Int), .int (b : Int)]) rfl rfl hc) rfl
        have t5 : vTest (vOp neD (vOp eqD (vOp modD (vOp subD (vOp ixD (vVar 2) (vC (.int 1))) (vOp ixD (vVar 3) (vC (.int 1)))) (vC (.int 2))) (vC (.int 0))) (vOp eqD (vOp ixD (vVar 0) (vOp subD (vOp ixD (vVar 1) (vC (.int 0))) (vC (.int 1)))) (vOp ixD (vVar 0) (vOp subD (vOp ixD (vVar 1) (vC (.int 1))) (vC (.int 1)))))) [some (.tup (l.map cD)), some (.tup [.int (a : Int), .int (b : Int)]), some (.tup [.int L, .int i]), some (.tup [.int M, .int j])] = .ok (mis l a b i j) := by
          refine test_ok (op_ok (x := .bl (i % 2 == j % 2)) (y := .bl (l[a - 1]?.getD false == l[b - 1]?.getD false)) ?_ ?_ (ne_bb _ _))
          · exact op_ok (x := .int (((i : Int) - (j : Int)) % 2)) (y := .int 0) (op_ok (x := .int ((i : Int) - (j : Int))) (y := .int 2) rfl rfl (mod_c (by decide))) rfl (par_eq i j)
          · refine op_ok (x := cD (l[a - 1]?.getD false)) (y := cD (l[b - 1]?.getD false)) ?_ ?_ (eq_cc _ _)
            · exact op_ok (x := .tup (l.map cD)) (y := .int ((a : Int) - 1)) rfl rfl (at_one l (by omega) (by omega))
            · exact op_ok (x := .tup (l.map cD)) (y := .int ((b : Int) - 1)) rfl rfl (at_one l (by omega) (by omega))
        cases hm : mis l a b i j with
        | true =>
          rw [hm] at t4 t5
          exact ⟨.non, run_rt ((seq_nx h0).trans ((seq_nx ((if_f t1).trans rfl)).trans ((s2 _).trans ((seq_nx ((if_f hge2).trans rfl)).trans ((seq_nx ((if_f hlevs).trans rfl)).trans (ret_ok ((vif_t t4).trans rfl))))))),
            run_rt ((seq_nx ((if_f law_t1).trans rfl)).trans ((seq_nx ((if_f ((or_f t2').trans hge)).trans rfl)).trans ((s3 _).trans ((seq_nx ((if_f hlevs2).trans rfl)).trans (ret_ok ((vif_t t5).trans rfl)))))), rfl⟩
        | false =>
          rw [hm] at t4 t5
          exact ⟨.str "fits", run_rt ((seq_nx h0).trans ((seq_nx ((if_f t1).trans rfl)).trans ((s2 _).trans ((seq_nx ((if_f hge2).trans rfl)).trans ((seq_nx ((if_f hlevs).trans rfl)).trans (ret_ok ((vif_f t4).trans rfl))))))),
            run_rt ((seq_nx ((if_f law_t1).trans rfl)).trans ((seq_nx ((if_f ((or_f t2').trans hge)).trans rfl)).trans ((s3 _).trans ((seq_nx ((if_f hlevs2).trans rfl)).trans (ret_ok ((vif_f t5).trans rfl)))))), eq_fits⟩
/-- what is no pair -/
theorem junk_same (l : List Bool) {n : Nat} (hn : n ≤ 12) (hl : l.length = 2 ^ n - 1) (item : Dat)
    (h1 : (vOrT (vNotT (vTru (v1 (isiD "tuple") (vVar 1)))) (vOrT (vTest (vOp neD (vCB lenD (aCons (vVar 1) (aNil))) (vC (.int 2)))) (vNotT (vTru (vCB allD (aCons (vL (vLc (gSeq (vVar 1)) (aName 4) [4] (tYesD) (vCall 3 D_is_whole (aCons (vVar 4) (aCons (vC (.int 1)) (aCons (vCB lenD (aCons (vVar 0) (aNil))) (aNil))))))) (aNil))))))) [some (.tup (l.map cD)), some item, none, none, none] = .ok true)
    (h2 : (sSeq (sIf (vOrT (vNotT (vTru (v1 (isiD "tuple") (vVar 1)))) (vTest (vOp neD (vCB lenD (aCons (vVar 1) (aNil))) (vC (.int 2))))) (sRet (vC (.str "form"))) (sNop)) (sIf (vOrT (vNotT (vTru (vCB allD (aCons (vL (vLc (gSeq (vVar 1)) (aName 2) [2] (tYesD) (vAnd (v1 (isiD "int") (vVar 2)) (vAnd (v1 notD (v1 (isiD "bool") (vVar 2))) (vChain leD leD (vC (.int 1)) (vVar 2) (vCB lenD (aCons (vVar 0) (aNil)))))))) (aNil))))) (vTest (vOp geD (vOp ixD (vVar 1) (vC (.int 0))) (vOp ixD (vVar 1) (vC (.int 1)))))) (sRet (vC (.str "form"))) (sNop))) [some (.tup (l.map cD)), some item, none, none] = .rt (.str "form")) : Same (.tup (l.map cD)) item := by
  have h0 := drop_ok (ρ := startD 5 [.tup (l.map cD), item]) (call_ok (l := [.tup (l.map cD)]) (fs := aCons (vVar 0) aNil) rfl rfl (checkrow_eq l hn hl))
  refine ⟨.str "form", run_rt ((seq_nx h0).trans (seq_rt ((if_t h1).trans rfl))), run_rt ?_, eq_form⟩
  have e : ∀ (F G H : DEnv → DFlow) (ρ : DEnv) (d : Dat), sSeq F G ρ = .rt d → sSeq F (sSeq G H) ρ = .rt d := by
    intro F G H ρ d h
    unfold sSeq at h ⊢
    cases q : F ρ with
    | nx ρ' =>
      rw [q] at h
      show (match G ρ' with | .nx ρ' => H ρ' | f => f) = _
      have h : G ρ' = .rt d := h
      rw [h]
    | rt d' => rw [q] at h; exact h
    | bk d' => rw [q] at h; exact h
    | ct d' => rw [q] at h; exact h
    | ex c d' => rw [q] at h; exact h
    | stuck => rw [q] at h; exact h
  exact e _ _ _ _ _ h2
end Lw
namespace Lw
open PySem PySem.Spec PyProof.Rows L2 Dl
theorem pick2 (d : Int) : ixD (.lst [.str "over", .str "under"]) (.int (d % 2)) = some (fD (d % 2 == 0)) := by
  have : d % 2 = 0 ∨ d % 2 = 1 := by omega
  rcases this with h | h <;> rw [h] <;> rfl
theorem dget {ds : List Int} {j : Nat} {i : Int} (e : i = j) (h : j < ds.length) : ixD (.lst (ds.map .int)) (.int i) = some (.int ds[j]) := by
  show atI (ds.map Dat.int) i = _
  rw [at_int e (by rw [List.length_map]; exact h), List.getElem?_map, List.getElem?_eq_getElem h]
  rfl
theorem mul_c1 {i j : Int} (h : i.natAbs < 2 ^ 64) : mulD (.int i) (.int j) = some (.int (i * j)) := by
  show (if mulOk i j = true then _ else _) = _
  rw [if_pos]
  unfold mulOk
  rw [decide_eq_true h]
  simp
theorem lawfolds_eq {ds : List Int} (hd : ds.length = 60) : ∃ fr : List Bool, fr.length ≤ 6 ∧ D__law_folds [.lst (ds.map .int), .int 6] = .ok (.tup ((fr.reverse).map fD)) := by
  obtain ⟨n, hn, e⟩ : ∃ n : Nat, n ≤ 6 ∧ (ds[0]'(by omega)) % (6 + 1) = (n : Int) := ⟨((ds[0]'(by omega)) % 7).toNat, by omega, by omega⟩
  refine ⟨((List.range n).map fun i => (ds[1 + i]?.getD 0) / 3 % 2 == 0).reverse, by rw [List.length_reverse, List.length_map, List.length_range]; exact hn, ?_⟩
  rw [List.reverse_reverse]
  refine run_rt (ret_ok (cb_ok (ac_ok (vl_ok (l := ((List.range n).map fun i => (ds[1 + i]?.getD 0) / 3 % 2 == 0).map fD) ?_) an_ok) rfl))
  refine lc_ok (l := rng 0 n) ?_ (by rw [rng_len]; omega) ?_
  · refine ga_ok (l := [.int (n : Int)]) (ac_ok (op_ok (x := .int (ds[0]'(by omega))) (y := .int (6 + 1)) (cb_ok (l := [.int (ds[0]'(by omega))]) (ac_ok (op_ok (x := .lst (ds.map .int)) (y := .int 0) rfl rfl (dget (j := 0) rfl (by omega))) an_ok) rfl) rfl (by rw [mod_c (by decide), e])) an_ok) (range1_nat (by omega))
  · unfold rng
    rw [List.map_map]
    refine lcL_of (e := fun i : Nat => Dat.int ((0 : Int) + (i : Nat))) (g := fun i : Nat => fD ((ds[1 + i]?.getD 0) / 3 % 2 == 0)) fun i hi => ?_
    rw [List.mem_range] at hi
    refine ⟨[some (.lst (ds.map .int)), some (.int 6), some (.int ((0 : Int) + (i : Nat)))], rfl, ?_⟩
    refine op_ok (x := .lst [.str "over", .str "under"]) (y := .int ((ds[1 + i]'(by omega)) / 3 % 2)) rfl (op_ok (x := .int ((ds[1 + i]'(by omega)) / 3)) (y := .int 2) (op_ok (x := .int (ds[1 + i]'(by omega))) (y := .int 3) (cb_ok (l := [.int (ds[1 + i]'(by omega))]) (ac_ok (op_ok (x := .lst (ds.map .int)) (y := .int (1 + ((0 : Int) + (i : Nat)))) rfl rfl (dget (j := 1 + i) (by omega) (by omega))) an_ok) rfl) rfl (fdiv_c (by decide) (by decide))) rfl (mod_c (by decide))) ?_
    rw [pick2, List.getElem?_eq_getElem (by omega)]
    rfl
/-! ### long strips -/
def GreatE : DEnv → Res Dat := vCB tupleD (aCons (vL (vLc (gA range1D (aCons (vOp addD (vC (.int 1)) (vOp modD (vCB intD (aCons (vOp ixD (vVar 0) (vC (.int 40))) (aNil))) (vC (.int 300)))) (aNil))) (aName 4) [4] (tYesD) (vOp ixD (vL (fLst (aCons (vC (.str "over")) (aCons (vC (.str "under")) (aNil))))) (vOp modD (vOp fdivD (vCB intD (aCons (vOp ixD (vVar 0) (vOp modD (vVar 4) (vC (.int 40)))) (aNil))) (vOp addD (vC (.int 1)) (vOp fdivD (vVar 4) (vC (.int 40))))) (vC (.int 2)))))) (aNil))
theorem greatE_eq {ds : List Int} (hd : ds.length = 60) : ∃ fr : List Bool, 1 ≤ fr.length ∧ fr.length ≤ 300 ∧ GreatE [some (.lst (ds.map .int)), none, none, none, none, none] = .ok (.tup ((fr.reverse).map fD)) := by
  obtain ⟨n, hn, e⟩ : ∃ n : Nat, n < 300 ∧ (ds[40]'(by omega)) % 300 = (n : Int) := ⟨((ds[40]'(by omega)) % 300).toNat, by omega, by omega⟩
  refine ⟨((List.range (1 + n)).map fun (i : Nat) => (ds[i % 40]?.getD 0) / (1 + (i : Int) / 40) % 2 == 0).reverse, by rw [List.length_reverse, List.length_map, List.length_range]; omega, by rw [List.length_reverse, List.length_map, List.length_range]; omega, ?_⟩
  rw [List.reverse_reverse]
  refine cb_ok (ac_ok (vl_ok (l := ((List.range (1 + n)).map fun (i : Nat) => (ds[i % 40]?.getD 0) / (1 + (i : Int) / 40) % 2 == 0).map fD) ?_) an_ok) rfl
  refine lc_ok (l := rng 0 (1 + n)) ?_ (by rw [rng_len]; omega) ?_
  · refine ga_ok (l := [.int ((1 + n : Nat) : Int)]) (ac_ok (op_ok (x := .int 1) (y := .int (n : Int)) rfl (op_ok (x := .int (ds[40]'(by omega))) (y := .int 300) (cb_ok (l := [.int (ds[40]'(by omega))]) (ac_ok (op_ok (x := .lst (ds.map .int)) (y := .int 40) rfl rfl (dget (j := 40) rfl (by omega))) an_ok) rfl) rfl (by rw [mod_c (by decide), e])) ?_) an_ok) (range1_nat (by omega))
    show some (Dat.int (1 + (n : Int))) = _
    congr 2
  · unfold rng
    rw [List.map_map]
    refine lcL_of (e := fun i : Nat => Dat.int ((0 : Int) + (i : Nat))) (g := fun i : Nat => fD ((ds[i % 40]?.getD 0) / (1 + (i : Int) / 40) % 2 == 0)) fun i hi => ?_
    rw [List.mem_range] at hi
    refine ⟨[some (.lst (ds.map .int)), none, none, none, some (.int ((0 : Int) + (i : Nat))), none], rfl, ?_⟩
    have hm : i % 40 < ds.length := by omega
    have e1 : ((0 : Int) + (i : Nat)) = (i : Int) := by omega
    rw [e1]
    refine op_ok (x := .lst [.str "over", .str "under"]) (y := .int ((ds[i % 40]'hm) / (1 + (i : Int) / 40) % 2)) rfl (op_ok (x := .int ((ds[i % 40]'hm) / (1 + (i : Int) / 40))) (y := .int 2) (op_ok (x := .int (ds[i % 40]'hm)) (y := .int (1 + (i : Int) / 40)) (cb_ok (l := [.int (ds[i % 40]'hm)]) (ac_ok (op_ok (x := .lst (ds.map .int)) (y := .int ((i : Int) % 40)) rfl (op_ok (x := .int i) (y := .int 40) rfl rfl (mod_c (by decide))) (dget (j := i % 40) (by omega) hm)) an_ok) rfl) (op_ok (x := .int 1) (y := .int ((i : Int) / 40)) rfl (op_ok (x := .int i) (y := .int 40) rfl rfl (fdiv_c (by decide) (by decide))) rfl) (fdiv_c (by omega) (Nat.lt_of_le_of_lt (Nat.log2_le_self _) (by omega)))) rfl (mod_c (by decide))) ?_
    rw [pick2, List.getElem?_eq_getElem hm]
    rfl
theorem top_loop {a b : Option Dat} : ∀ (l : List Dat) (k : Nat) (x : Option Dat), ∃ x', forL (aName 3) (sAsg 2 (vOp mulD (vVar 2) (vC (.int 2)))) l [a, b, some (.int ((2 ^ k : Nat) : Int)), x, none, none] = .nx [a, b, some (.int ((2 ^ (k + l.length) : Nat) : Int)), x', none, none]
  | [], k, x => ⟨x, rfl⟩
  | d :: r, k, x => by
    obtain ⟨x', e⟩ := top_loop (a := a) (b := b) r (k + 1) (some d)
    refine ⟨x', ?_⟩
    have e2 : sAsg 2 (vOp mulD (vVar 2) (vC (.int 2))) [a, b, some (.int ((2 ^ k : Nat) : Int)), some d, none, none] = .nx [a, b, some (.int ((2 ^ (k + 1) : Nat) : Int)), some d, none, none] := by
      refine (asg_ok (op_ok (x := .int ((2 ^ k : Nat) : Int)) (y := .int 2) rfl rfl (z := .int ((2 ^ (k + 1) : Nat) : Int)) ?_)).trans rfl
      rw [mul_c (by decide)]
      congr 2
    unfold forL
    show (match sAsg 2 (vOp mulD (vVar 2) (vC (.int 2))) [a, b, some (.int ((2 ^ k : Nat) : Int)), some d, none, none] with | .nx ρ2 => forL (aName 3) (sAsg 2 (vOp mulD (vVar 2) (vC (.int 2)))) r ρ2 | .ct ρ2 => forL (aName 3) (sAsg 2 (vOp mulD (vVar 2) (vC (.int 2)))) r ρ2 | .bk ρ2 => .nx ρ2 | f => f) = _
    rw [e2, List.length_cons, show k + (r.length + 1) = k + 1 + r.length by omega]
    exact e
def NumB : DEnv → DFlow := sIf (vTest (vOp gtD (vVar 2) (vC (.int 2)))) (sAsg 5 (vOp addD (vC (.int 1)) (vOp modD (vOp mulD (vOp addD (vOp mulD (vOp mulD (vCB intD (aCons (vOp ixD (vVar 0) (vOp addD (vC (.int 41)) (vVar 4))) (aNil))) (vC (.int 65521))) (vC (.int 65521))) (vCB intD (aCons (vOp ixD (vVar 0) (vOp addD (vC (.int 46)) (vVar 4))) (aNil)))) (vOp ixD (vL (fLst (aCons (vC (.int 1)) (aCons (vOp addD (vOp fdivD (vVar 2) (vC (.int 65536))) (vC (.int 1))) (aCons (vOp fdivD (vVar 2) (vC (.int 2))) (aNil)))))) (vOp modD (vVar 4) (vC (.int 3))))) (vOp subD (vVar 2) (vC (.int 1)))))) (sNop)
theorem numB_eq {ds : List Int} (hd : ds.length = 60) (hdr : Drawn ds) {b x : Option Dat} {N k : Nat} (hN : 1 ≤ N) (hk : k < 4) : ∃ m : Nat, 1 ≤ m ∧ m < 2 ^ N ∧ NumB [some (.lst (ds.map .int)), b, some (.int ((2 ^ N : Nat) : Int)), x, some (.int (k : Int)), some (.int 1)] = .nx [some (.lst (ds.map .int)), b, some (.int ((2 ^ N : Nat) : Int)), x, some (.int (k : Int)), some (.int (m : Int))] := by
  have hp : 2 ≤ 2 ^ N := by have := Nat.pow_le_pow_right (n := 2) (by decide) hN; omega
  have hpi : (2 : Int) ≤ ((2 ^ N : Nat) : Int) := by omega
  have h1 : 41 + k < ds.length := by omega
  have h2 : 46 + k < ds.length := by omega
  have r1 := hdr _ (List.getElem_mem h1)
  have r2 := hdr _ (List.getElem_mem h2)
  generalize hT : 2 ^ N = Tn at *
  have ht : vTest (vOp gtD (vVar 2) (vC (.int 2))) [some (.lst (ds.map .int)), b, some (.int (Tn : Int)), x, some (.int (k : Int)), some (.int 1)] = .ok (decide ((2 : Int) < Tn)) := test_ok (op_ok (x := .int (Tn : Int)) (y := .int 2) rfl rfl rfl)
  by_cases z : (2 : Int) < Tn
  · rw [decide_eq_true z] at ht
    obtain ⟨X, hX⟩ : ∃ X : Int, ixD (.lst [.int 1, .int ((Tn : Int) / 65536 + 1), .int ((Tn : Int) / 2)]) (.int ((k : Int) % 3)) = some (.int X) := by
      have : k = 0 ∨ k = 1 ∨ k = 2 ∨ k = 3 := by omega
      rcases this with q | q | q | q <;> subst q <;> exact ⟨_, rfl⟩
    obtain ⟨A, hA⟩ : ∃ A, A = ds[41 + k] := ⟨_, rfl⟩
    obtain ⟨B, hB⟩ : ∃ B, B = ds[46 + k] := ⟨_, rfl⟩
    rw [← hA] at r1
    rw [← hB] at r2
    have hm0 := Int.emod_nonneg ((A * 65521 * 65521 + B) * X) (show (Tn : Int) - 1 ≠ 0 by omega)
    have hm1 := Int.emod_lt_of_pos ((A * 65521 * 65521 + B) * X) (show (0 : Int) < (Tn : Int) - 1 by omega)
    refine ⟨(1 + ((A * 65521 * 65521 + B) * X) % ((Tn : Int) - 1)).toNat, by omega, by omega, ?_⟩
    refine (if_t ht).trans ((asg_ok (d := .int (((1 + ((A * 65521 * 65521 + B) * X) % ((Tn : Int) - 1)).toNat : Nat) : Int)) ?_).trans rfl)
    rw [Int.toNat_of_nonneg (by omega)]
    refine op_ok (x := .int 1) (y := .int (((A * 65521 * 65521 + B) * X) % ((Tn : Int) - 1))) rfl (op_ok (x := .int ((A * 65521 * 65521 + B) * X)) (y := .int ((Tn : Int) - 1)) (op_ok (x := .int (A * 65521 * 65521 + B)) (y := .int X) (op_ok (x := .int (A * 65521 * 65521)) (y := .int B) (op_ok (x := .int (A * 65521)) (y := .int 65521) (op_ok (x := .int A) (y := .int 65521) (cb_ok (l := [.int A]) (ac_ok (op_ok (x := .lst (ds.map .int)) (y := .int (41 + (k : Int))) rfl rfl ?_) an_ok) rfl) rfl (mul_c (by decide))) rfl (mul_c (by decide))) (cb_ok (l := [.int B]) (ac_ok (op_ok (x := .lst (ds.map .int)) (y := .int (46 + (k : Int))) rfl rfl ?_) an_ok) rfl) rfl)
      (op_ok (x := .lst [.int 1, .int ((Tn : Int) / 65536 + 1), .int ((Tn : Int) / 2)]) (y := .int ((k : Int) % 3)) ?_ (op_ok (x := .int k) (y := .int 3) rfl rfl (mod_c (by decide))) hX) (mul_c1 (by omega))) rfl (mod_c (by omega))) rfl
    · rw [dget (j := 41 + k) (by omega) h1, hA]
    · rw [dget (j := 46 + k) (by omega) h2, hB]
    · refine vl_ok (lst_ok (l := [.int 1, .int ((Tn : Int) / 65536 + 1), .int ((Tn : Int) / 2)]) (ac_ok rfl (ac_ok (op_ok (x := .int ((Tn : Int) / 65536)) (y := .int 1) (op_ok (x := .int (Tn : Int)) (y := .int 65536) rfl rfl (fdiv_c (by decide) (by decide))) rfl rfl) (ac_ok (op_ok (x := .int (Tn : Int)) (y := .int 2) rfl rfl (fdiv_c (by decide) (by decide))) an_ok))) (by show 3 ≤ 1000; decide))
  · rw [decide_eq_false z] at ht
    exact ⟨1, by omega, by omega, (if_f ht).trans rfl⟩
theorem ne_pairI (L k : Int) : neD (.tup [.int L, .int k]) (.tup [.int L, .int k]) = some (.bl false) := by
  show some (Dat.bl (!((L == L) && ((k == k) && true)))) = _
  rw [beq_self_eq_true, beq_self_eq_true]
  rfl
theorem error_place (fr : List Bool) (hl : fr.length ≤ 300) : D__law_error [.int 1, .tup ((fr.reverse).map fD), .int ((2 ^ fr.length : Nat) : Int)] = .ok (.str "place") := by
  have h := creaseat_exc fr hl
  generalize Dat.tup ((fr.reverse).map fD) = Fo at *
  generalize ((2 ^ fr.length : Nat) : Int) = N at *
  refine run_rt ?_
  have e : sTryM (sIf (vTest (vOp eqD (vVar 0) (vC (.int 0)))) (sDrop (vCall 1 D_halved (aCons (vVar 1) (aNil)))) (sIf (vTest (vOp eqD (vVar 0) (vC (.int 1)))) (sDrop (vCall 2 D_crease_at (aCons (vVar 1) (aCons (vVar 2) (aNil))))) (sIf (vTest (vOp eqD (vVar 0) (vC (.int 2)))) (sDrop (vCall 1 D_level_of (aCons (vVar 1) (aNil)))) (sIf (vTest (vOp eqD (vVar 0) (vC (.int 3)))) (sDrop (vCall 1 D_folds_of (aCons (vVar 1) (aNil)))) (sDrop (vCall 2 D_clash_fault (aCons (vVar 1) (aCons (vVar 2) (aNil))))))))) [(m_BadFolds, sRet (vC (.str "folds"))), (m_BadPlace, sRet (vC (.str "place"))), (m_BadRow, sRet (vC (.str "row")))] (startD 3 [.int 1, Fo, .int N]) = .rt (.str "place") := by
    unfold sTryM
    have hb : (sIf (vTest (vOp eqD (vVar 0) (vC (.int 0)))) (sDrop (vCall 1 D_halved (aCons (vVar 1) (aNil)))) (sIf (vTest (vOp eqD (vVar 0) (vC (.int 1)))) (sDrop (vCall 2 D_crease_at (aCons (vVar 1) (aCons (vVar 2) (aNil))))) (sIf (vTest (vOp eqD (vVar 0) (vC (.int 2)))) (sDrop (vCall 1 D_level_of (aCons (vVar 1) (aNil)))) (sIf (vTest (vOp eqD (vVar 0) (vC (.int 3)))) (sDrop (vCall 1 D_folds_of (aCons (vVar 1) (aNil)))) (sDrop (vCall 2 D_clash_fault (aCons (vVar 1) (aCons (vVar 2) (aNil))))))))) (startD 3 [.int 1, Fo, .int N]) = .ex 1 [some (.int 1), some Fo, some (.int N)] := by
      refine (if_f (test_ok (op_ok (x := .int 1) (y := .int 0) rfl rfl (by kernel_rfl)))).trans ?_
      refine (if_t (test_ok (op_ok (x := .int 1) (y := .int 1) rfl rfl (by kernel_rfl)))).trans ?_
      unfold sDrop
      have hv : vCall 2 D_crease_at (aCons (vVar 1) (aCons (vVar 2) (aNil))) (startD 3 [.int 1, Fo, .int N]) = .exc 1 := call_ok (l := [Fo, .int N]) rfl rfl h
      rw [hv]
      rfl
    rw [hb]
    rfl
  exact seq_rt e
theorem great_eq {ds : List Int} (hd : ds.length = 60) (hdr : Drawn ds) : D__law_are_great [.lst (ds.map .int)] = .ok (.bl true) := by
  obtain ⟨fr, h1, h2, hF⟩ := greatE_eq hd
  obtain ⟨Fo, hFo⟩ : ∃ Fo, Fo = Dat.tup ((fr.reverse).map fD) := ⟨_, rfl⟩
  rw [← hFo] at hF
  obtain ⟨fi, f0, hfi⟩ : ∃ fi f0, fr = fi ++ [f0] := by
    rcases List.eq_nil_or_concat fr with q | ⟨a, b, q⟩
    · rw [q] at h1; exact absurd h1 (by decide)
    · exact ⟨a, b, by rw [q, List.concat_eq_append]⟩
  have hlen : fr.length = fi.length + 1 := by rw [hfi, List.length_append]; rfl
  have hpow : 2 ^ fr.length = 2 * 2 ^ fi.length := by rw [hlen, Nat.pow_succ]; omega
  have hp1 : 1 ≤ 2 ^ fi.length := Nat.pow_pos (by decide)
  obtain ⟨x', htop⟩ := top_loop (a := some (.lst (ds.map .int))) (b := some Fo) ((fr.reverse).map fD) 0 none
  rw [List.length_map, List.length_reverse, Nat.zero_add] at htop
  have hnum := fun (k : Nat) (hk : k < 4) (x : Option Dat) => numB_eq hd hdr (b := some Fo) (x := x) (N := fr.length) (k := k) h1 hk
  obtain ⟨W, hW⟩ : ∃ W, W = Dat.lst (ds.map .int) := ⟨_, rfl⟩
  rw [← hW] at hF htop ⊢
  simp only [← hW] at hnum
  refine run_rt ?_
  refine (seq_nx (ρ' := [some W, some Fo, none, none, none, none]) ((asg_ok hF).trans rfl)).trans ?_
  refine (seq_nx (ρ' := [some W, some Fo, some (.int ((2 ^ 0 : Nat) : Int)), none, none, none]) rfl).trans ?_
  refine (seq_nx (ρ' := [some W, some Fo, some (.int ((2 ^ fr.length : Nat) : Int)), x', none, none]) ?_).trans ?_
  · refine (for_ok (l := (fr.reverse).map fD) (gs_ok (x := Fo) rfl ?_)).trans htop
    rw [hFo]
    rfl
  have hc := fun (m : Nat) (q1 : 1 ≤ m) (q2 : m < 2 ^ fr.length) => creaseat_eq fr q1 q2 h2
  have hc2 := fun (m : Nat) (q1 : 1 ≤ m) (q2 : m < 2 ^ fr.length) => crease2_eq fr q1 q2 (by omega)
  have herr := error_place fr h2
  rw [← hFo] at herr
  simp only [← hFo] at hc hc2
  have hT : ∀ m : Nat, m < 2 ^ fr.length → ∀ L k, m = 2 ^ L * (2 * k + 1) → L < 1000 := fun m q L k e => by
    have := lev_lt (L := L) (k := k) (n := fr.length) (e ▸ q)
    omega
  obtain ⟨ρ', e, x, y, z, rfl⟩ := forL_inv (asg := aName 4) (F := sSeq (sAsg 5 (vC (.int 1))) (sSeq NumB (sIf (vOrT (vTest (vOp neD (vCall 2 D_crease_at (aCons (vVar 1) (aCons (vVar 5) (aNil)))) (vCall 2 D__law_crease (aCons (vVar 1) (aCons (vVar 5) (aNil)))))) (vTest (vOp neD (vCall 1 D_level_of (aCons (vVar 5) (aNil))) (vCall 1 D__law_level (aCons (vVar 5) (aNil)))))) (sRet (vC (.bl false))) (sNop)))) (l := rng 0 4) (ρ := [some W, some Fo, some (.int ((2 ^ fr.length : Nat) : Int)), x', none, none])
    (fun _ ρ => ∃ x y z, ρ = [some W, some Fo, some (.int ((2 ^ fr.length : Nat) : Int)), x, y, z]) ⟨_, _, _, rfl⟩ fun k d ρ hk hp => by
      obtain ⟨x, y, z, rfl⟩ := hp
      obtain ⟨hk', rfl⟩ := rng_get hk
      obtain ⟨m, m1, m2, e⟩ := hnum k hk' x
      rw [show ((0 : Int) + (k : Nat)) = ((k : Nat) : Int) by omega]
      refine ⟨_, [some W, some Fo, some (.int ((2 ^ fr.length : Nat) : Int)), x, some (.int (k : Int)), some (.int (m : Int))], rfl, .inl ?_, _, _, _, rfl⟩
      refine (seq_nx (ρ' := [some W, some Fo, some (.int ((2 ^ fr.length : Nat) : Int)), x, some (.int (k : Int)), some (.int 1)]) rfl).trans ((seq_nx e).trans ((if_f ?_).trans rfl))
      obtain ⟨L, i, hm⟩ := dec m m1
      have hL := hT m m2 L i hm
      refine (or_f (test_ok (op_ok (x := cD (cr fr m)) (y := cD (cr fr m)) (call_ok (l := [Fo, .int (m : Int)]) rfl rfl (hc m m1 m2)) (call_ok (l := [Fo, .int (m : Int)]) rfl rfl (hc2 m m1 m2)) (by rw [ne_cc, beq_self_eq_true]; rfl)))).trans ?_
      exact test_ok (op_ok (x := .tup [.int L, .int i]) (y := .tup [.int L, .int i]) (call_ok (l := [.int (m : Int)]) rfl rfl (lev_eq hm hL)) (call_ok (l := [.int (m : Int)]) rfl rfl (lev2_eq hm hL)) (ne_pairI _ _))
  refine (seq_nx ((for_ok (l := rng 0 4) rfl).trans e)).trans (ret_ok ?_)
  refine (vand_t ?_).trans ?_
  · refine op_ok (x := cD f0) (y := cD f0) (call_ok (l := [Fo, .int ((2 ^ fi.length : Nat) : Int)]) (ac_ok rfl (ac_ok (op_ok (x := .int ((2 ^ fr.length : Nat) : Int)) (y := .int 2) rfl rfl ?_) an_ok)) rfl ?_) (op_ok (x := .lst [.str "V", .str "M"]) (y := .int (if (!f0) then 1 else 0)) rfl (cb_ok (ac_ok (x := .bl !f0) (op_ok (x := fD f0) (y := .str "under") (op_ok (x := Fo) (y := .int ((0 : Nat) : Int)) rfl rfl ?_) rfl (fD_u _)) an_ok) rfl) ?_) (by rw [eq_cc, beq_self_eq_true])
    · rw [fdiv_c (by decide) (by decide)]
      congr 2
      omega
    · rw [hc _ hp1 (by omega), hfi, cr_mid]
    · rw [hFo, hfi, List.reverse_append]
      show atI (fD f0 :: (fi.reverse).map fD) ((0 : Nat) : Int) = _
      rw [at_nat (Nat.succ_pos _)]
      rfl
    · rw [sign_of, Bool.not_not]
  · exact op_ok (x := .str "place") (y := .str "place") (call_ok (l := [.int 1, Fo, .int ((2 ^ fr.length : Nat) : Int)]) rfl rfl herr) rfl (by kernel_rfl)
end Lw
namespace Lw
open PySem PySem.Spec PyProof.Rows L2 Dl
def P0 : DEnv → DFlow := sAsg 1 (vCall 2 D__law_draws (aCons (vVar 0) (aCons (vC (.int 60)) (aNil))))
def P1 : DEnv → DFlow := sAsg 2 (vCall 2 D__law_folds (aCons (vVar 1) (aCons (vC (.int 6)) (aNil))))
def P2 : DEnv → DFlow := sAsg 3 (vCall 1 D__law_row (aCons (vVar 2) (aNil)))
def P3 : DEnv → DFlow := sIf (vOrT (vTest (vOp neD (vCall 1 D_halved (aCons (vVar 2) (aNil))) (vVar 3))) (vTest (vOp neD (vL (vLc (gA range2D (aCons (vC (.int 1)) (aCons (vOp addD (vCB lenD (aCons (vVar 3) (aNil))) (vC (.int 1))) (aNil)))) (aName 9) [9] (tYesD) (vCall 2 D_crease_at (aCons (vVar 2) (aCons (vVar 9) (aNil)))))) (vCB listD (aCons (vVar 3) (aNil)))))) (sRet (vC (.bl false))) (sNop)
def P4 : DEnv → DFlow := sFor (gA range1D (aCons (vOp modD (vCB intD (aCons (vOp ixD (vVar 1) (vC (.int 20))) (aNil))) (vC (.int 3))) (aNil))) (aName 4) (sIf (vTest (vOp gtD (vCB lenD (aCons (vVar 3) (aNil))) (vC (.int 0)))) (sSeq (sAsg 5 (vOp modD (vCB intD (aCons (vOp ixD (vVar 1) (vOp addD (vC (.int 21)) (vVar 4))) (aNil))) (vCB lenD (aCons (vVar 3) (aNil))))) (sAsg 3 (vOp addD (vOp addD (vSl (vVar 3) (oNone) (oSome (vVar 5))) (vTup (aCons (vOp ixD (vC (.str "VM")) (vM1 sindexD (vC (.str "MV")) (vOp ixD (vVar 3) (vVar 5)))) (aNil)))) (vSl (vVar 3) (oSome (vOp addD (vVar 5) (vC (.int 1)))) (oNone))))) (sNop))
def P5 : DEnv → DFlow := sIf (vTest (vOp eqD (vOp modD (vCB intD (aCons (vOp ixD (vVar 1) (vC (.int 24))) (aNil))) (vC (.int 4))) (vC (.int 0)))) (sAsg 3 (vCB tupleD (aCons (vL (vLc (gA range1D (aCons (vCB lenD (aCons (vVar 3) (aNil))) (aNil))) (aName 9) [9] (tYesD) (vOp ixD (vC (.str "MV")) (vOp modD (vOp fdivD (vCB intD (aCons (vOp ixD (vVar 1) (vOp addD (vC (.int 25)) (vOp modD (vVar 9) (vC (.int 9))))) (aNil))) (vOp addD (vC (.int 1)) (vOp fdivD (vVar 9) (vC (.int 9))))) (vC (.int 2)))))) (aNil)))) (sNop)
def P6 : DEnv → DFlow := sPar 6 7 (vCall 1 D__law_due (aCons (vVar 3) (aNil))) (vCall 1 D_folds_of (aCons (vVar 3) (aNil)))
def P7 : DEnv → DFlow := sIf (vOrT (vAndT (vTest (vOp isND (vVar 6) (vC .non))) (vOrT (vTest (vOp neD (vOp ixD (vVar 7) (vC (.int 0))) (vC (.str "folds")))) (vTest (vOp neD (vCall 1 D__law_row (aCons (vOp ixD (vVar 7) (vC (.int 1))) (aNil))) (vVar 3))))) (vAndT (vTest (vOp notND (vVar 6) (vC .non))) (vTest (vOp neD (vVar 7) (vTup (aCons (vC (.str "clash")) (aCons (vVar 6) (aNil)))))))) (sRet (vC (.bl false))) (sNop)
def P8 : DEnv → DFlow := sAsgO 8 (vIfF (vTest (vOp notND (vVar 6) (vC .non))) (fLst (aCons (vOp ixD (vVar 7) (vC (.int 1))) (aNil))) (fLst (aNil)))
def P9 : DEnv → DFlow := sFor (gA range1D (aCons (vC (.int 8)) (aNil))) (aName 9) (sApp 8 (vTup (aCons (vOp modD (vCB intD (aCons (vOp ixD (vVar 1) (vOp addD (vC (.int 35)) (vVar 9))) (aNil))) (vOp addD (vCB lenD (aCons (vVar 3) (aNil))) (vC (.int 2)))) (aCons (vOp modD (vCB intD (aCons (vOp ixD (vVar 1) (vOp addD (vC (.int 44)) (vVar 9))) (aNil))) (vOp addD (vCB lenD (aCons (vVar 3) (aNil))) (vC (.int 2)))) (aNil)))))
def P10 : DEnv → DFlow := sIf (vNotT (vTru (vCB allD (aCons (vL (vLc (gSeq (vOp addD (vVar 8) (vL (fLst (aCons (vC .non) (aCons (vTup (aCons (vC (.int 1)) (aNil))) (aCons (vL (fLst (aCons (vC (.int 1)) (aCons (vC (.int 3)) (aNil))))) (aCons (vTup (aCons (vC (.bl true)) (aCons (vC (.int 3)) (aNil)))) (aCons (vTup (aCons (vC (.int 1)) (aCons (vC (.int 2)) (aCons (vC (.int 3)) (aNil))))) (aCons (vTup (aCons (vC (.str "1")) (aCons (vC (.int 3)) (aNil)))) (aNil))))))))))) (aName 11) [11] (tYesD) (vOp eqD (vCall 2 D_clash_fault (aCons (vVar 3) (aCons (vVar 11) (aNil)))) (vCall 2 D__law_clash (aCons (vVar 3) (aCons (vVar 11) (aNil))))))) (aNil))))) (sRet (vC (.bl false))) (sNop)
def P11 : DEnv → DFlow := sFor (gSeq (vTup (aCons (vC .non) (aCons (vL (fLst (aCons (vC (.str "over")) (aNil)))) (aCons (vTup (aCons (vC (.str "Over")) (aNil))) (aCons (vTup (aCons (vC (.str "over")) (aCons (vC (.int 1)) (aNil)))) (aNil))))))) (aName 10) (sIf (vOrT (vTest (vOp neD (vCall 3 D__law_error (aCons (vC (.int 0)) (aCons (vVar 10) (aCons (vC (.int 0)) (aNil))))) (vC (.str "folds")))) (vTest (vOp neD (vCall 3 D__law_error (aCons (vC (.int 1)) (aCons (vVar 10) (aCons (vC .non) (aNil))))) (vC (.str "folds"))))) (sRet (vC (.bl false))) (sNop))
def P12 : DEnv → DFlow := sIf (vOrT (vTest (vOp neD (vCall 3 D__law_error (aCons (vC (.int 0)) (aCons (vOp mulD (vTup (aCons (vC (.str "over")) (aNil))) (vC (.int 13))) (aCons (vC (.int 0)) (aNil))))) (vC (.str "folds")))) (vTest (vOp neD (vCall 3 D__law_error (aCons (vC (.int 1)) (aCons (vOp mulD (vTup (aCons (vC (.str "over")) (aNil))) (vC (.int 301))) (aCons (vC (.int 1)) (aNil))))) (vC (.str "folds"))))) (sRet (vC (.bl false))) (sNop)
def P13 : DEnv → DFlow := sIf (vTest (vOp neD (vL (vLc (gSeq (vTup (aCons (vC (.int 0)) (aCons (v1 negD (vC (.int 2))) (aCons (vC (.bl true)) (aCons (vC .non) (aCons (vC (.str "1")) (aNil)))))))) (aName 10) [10] (tYesD) (vCall 3 D__law_error (aCons (vC (.int 2)) (aCons (vVar 10) (aCons (vC (.int 0)) (aNil))))))) (vOp mulD (vL (fLst (aCons (vC (.str "place")) (aNil)))) (vC (.int 5))))) (sRet (vC (.bl false))) (sNop)
def P14 : DEnv → DFlow := sIf (vTest (vOp neD (vL (vLc (gSeq (vTup (aCons (vC (.int 0)) (aCons (vC (.int 8)) (aCons (vC (.bl true)) (aCons (vC .non) (aNil))))))) (aName 10) [10] (tYesD) (vCall 3 D__law_error (aCons (vC (.int 1)) (aCons (vOp mulD (vTup (aCons (vC (.str "over")) (aNil))) (vC (.int 3))) (aCons (vVar 10) (aNil))))))) (vOp mulD (vL (fLst (aCons (vC (.str "place")) (aNil)))) (vC (.int 4))))) (sRet (vC (.bl false))) (sNop)
def P15 : DEnv → DFlow := sFor (gSeq (vTup (aCons (vC .non) (aCons (vTup (aCons (vC (.str "V")) (aCons (vC (.str "V")) (aNil)))) (aCons (vL (fLst (aCons (vC (.str "V")) (aNil)))) (aCons (vTup (aCons (vC (.str "v")) (aNil))) (aCons (vTup (aCons (vC (.str "V")) (aCons (vC (.str "M")) (aCons (vC .non) (aNil))))) (aCons (vTup (aCons (vC (.str "?")) (aNil))) (aCons (vC (.str "V")) (aNil)))))))))) (aName 10) (sIf (vOrT (vTest (vOp neD (vCall 3 D__law_error (aCons (vC (.int 3)) (aCons (vVar 10) (aCons (vC (.int 0)) (aNil))))) (vC (.str "row")))) (vTest (vOp neD (vCall 3 D__law_error (aCons (vC (.int 4)) (aCons (vVar 10) (aCons (vTup (aCons (vC (.int 1)) (aCons (vC (.int 2)) (aNil)))) (aNil))))) (vC (.str "row"))))) (sRet (vC (.bl false))) (sNop))
def P16 : DEnv → DFlow := sRet (vAnd (vOp eqD (vCall 1 D_folds_of (aCons (vTup (aNil)) (aNil))) (vTup (aCons (vC (.str "folds")) (aCons (vTup (aNil)) (aNil))))) (vCall 1 D__law_are_great (aCons (vVar 1) (aNil))))
section
variable {a b c d e f g h i j k l : Option Dat}
theorem p11_eq : ∃ z, P11 [a, b, c, d, e, f, g, h, i, j, k, l] = .nx [a, b, c, d, e, f, g, h, i, j, z, l] := ⟨some (.tup [.str "over", .int 1]), by kernel_rfl⟩
theorem p15_eq : ∃ z, P15 [a, b, c, d, e, f, g, h, i, j, k, l] = .nx [a, b, c, d, e, f, g, h, i, j, z, l] := ⟨some (.str "V"), by kernel_rfl⟩
theorem p12_eq : P12 [a, b, c, d, e, f, g, h, i, j, k, l] = .nx [a, b, c, d, e, f, g, h, i, j, k, l] := by kernel_rfl
theorem p13_eq : P13 [a, b, c, d, e, f, g, h, i, j, k, l] = .nx [a, b, c, d, e, f, g, h, i, j, k, l] := by kernel_rfl
theorem p14_eq : P14 [a, b, c, d, e, f, g, h, i, j, k, l] = .nx [a, b, c, d, e, f, g, h, i, j, k, l] := by kernel_rfl
theorem emp_eq : D_folds_of [.tup []] = .ok (.tup [.str "folds", .tup []]) := by kernel_rfl
end
end Lw
namespace Lw
open PySem PySem.Spec PyProof.Rows L2 Dl
theorem least {P : Nat → Prop} : ∀ m, P m → ∃ m, P m ∧ ∀ m', m' < m → ¬ P m' := by
  intro m
  induction m using Nat.strongRecOn with
  | _ m ih =>
    intro h
    by_cases q : ∃ m', m' < m ∧ P m'
    · obtain ⟨m', h1, h2⟩ := q
      exact ih m' h1 h2
    · exact ⟨m, h, fun m' h1 h2 => q ⟨m', h1, h2⟩⟩
theorem eqvs_refl {g : Bool → Dat} (h : ∀ a b, eqvD (g a) (g b) = (a == b)) (l : List Bool) : eqvDs (l.map g) (l.map g) = true := by rw [eqvs_map h, beq_self_eq_true]
theorem ne_lst (l : List Bool) : neD (.lst (l.map cD)) (.lst (l.map cD)) = some (.bl false) := by
  unfold neD
  have h : shp 8 (.lst (l.map cD)) = true := by
    show (l.map cD).all (shp 7) = true
    rw [List.all_map, List.all_eq_true]
    exact fun b _ => shp_c 7 b
  rw [h]
  show some (Dat.bl (!eqvDs (l.map cD) (l.map cD))) = _
  rw [eqvs_refl eqv_c]
  rfl
theorem ne_row (l : List Bool) : neD (.tup (l.map cD)) (.tup (l.map cD)) = some (.bl false) := by
  rw [ne_c, beq_self_eq_true]
  rfl
theorem ne_clash (a b : Int) : neD (.tup [.str "clash", .tup [.int a, .int b]]) (.tup [.str "clash", .tup [.int a, .int b]]) = some (.bl false) := by
  unfold neD
  have h : shp 8 (.tup [.str "clash", .tup [.int a, .int b]]) = true := by kernel_rfl
  rw [h]
  show some (Dat.bl (!(((("clash" : Str) == ("clash" : Str))) && (((a == a) && ((b == b) && true)) && true)))) = _
  rw [beq_self_eq_true, beq_self_eq_true, beq_self_eq_true]
  rfl
theorem idx_MV (b : Bool) : sindexD (.str "MV") (cD b) = some (.int (if b then 1 else 0)) := by cases b <;> kernel_rfl
theorem at_VM (b : Bool) : ixD (.str "VM") (.int (if b then 1 else 0)) = some (cD (!b)) := by cases b <;> kernel_rfl
theorem at_MV (x : Int) : ixD (.str "MV") (.int (x % 2)) = some (cD (x % 2 == 1)) := by
  have : x % 2 = 0 ∨ x % 2 = 1 := by omega
  rcases this with h | h <;> rw [h] <;> kernel_rfl
theorem at0 {a : Dat} {l : List Dat} : ixD (.tup (a :: l)) (.int 0) = some a := by
  show atI (a :: l) ((0 : Nat) : Int) = _
  rw [at_nat (Nat.succ_pos _)]
  rfl
theorem add_tup {l m : List Dat} (h : l.length + m.length ≤ 100000) : addD (.tup l) (.tup m) = some (.tup (l ++ m)) := by
  show (if l.length + m.length ≤ sizeLine then _ else _) = _
  rw [if_pos (Nat.le_trans h (by decide))]
theorem add_lst {l m : List Dat} (h : l.length + m.length ≤ 100000) : addD (.lst l) (.lst m) = some (.lst (l ++ m)) := by
  show (if l.length + m.length ≤ sizeLine then _ else _) = _
  rw [if_pos (Nat.le_trans h (by decide))]
/-- the first tests: the row of the folds -/
theorem p3_eq (fr : List Bool) (hl : fr.length ≤ 6) {a b e f g h i j k l : Option Dat} : P3 [a, b, some (.tup ((fr.reverse).map fD)), some (.tup ((rowN fr).map cD)), e, f, g, h, i, j, k, l] = .nx [a, b, some (.tup ((fr.reverse).map fD)), some (.tup ((rowN fr).map cD)), e, f, g, h, i, j, k, l] := by
  have hp : 2 ^ fr.length ≤ 64 := Nat.pow_le_pow_right (n := 2) (i := fr.length) (j := 6) (by decide) hl
  have hp1 : 1 ≤ 2 ^ fr.length := Nat.pow_pos (by decide)
  refine (if_f ((or_f (test_ok (op_ok (call_ok (l := [.tup ((fr.reverse).map fD)]) rfl rfl (halved_eq fr (by omega))) rfl (ne_row _)))).trans ?_)).trans rfl
  refine test_ok (op_ok (x := .lst ((rowN fr).map cD)) (y := .lst ((rowN fr).map cD)) (vl_ok ?_) (cb_ok (ac_ok (x := .tup ((rowN fr).map cD)) rfl an_ok) rfl) (ne_lst _))
  refine lc_ok (l := rng ((1 : Nat) : Int) (2 ^ fr.length - 1)) ?_ (by rw [rng_len]; omega) ?_
  · refine ga_ok (l := [.int ((1 : Nat) : Int), .int ((2 ^ fr.length : Nat) : Int)]) (ac_ok rfl (ac_ok (op_ok (x := .int ((rowN fr).length : Nat)) (y := .int 1) (cb_ok (ac_ok (x := .tup ((rowN fr).map cD)) rfl an_ok) (len_row _)) rfl ?_) an_ok)) (range2_nat (by decide) (by omega))
    show some (Dat.int (((rowN fr).length : Int) + 1)) = _
    rw [rowN_len]
    congr 2
    omega
  · unfold rng rowN
    rw [List.map_map]
    refine lcL_of (e := fun i : Nat => Dat.int (((1 : Nat) : Int) + (i : Nat))) (g := fun i : Nat => cD (cr fr (i + 1))) fun i hi => ⟨_, rfl, ?_⟩
    rw [List.mem_range] at hi
    refine call_ok (l := [.tup ((fr.reverse).map fD), .int ((i + 1 : Nat) : Int)]) ?_ rfl (creaseat_eq fr (by omega) (by omega) (by omega))
    rw [show ((i + 1 : Nat) : Int) = ((1 : Nat) : Int) + (i : Nat) by omega]
    rfl
theorem p4_eq {ds : List Int} (hd : ds.length = 60) {n : Nat} (hn : n ≤ 12) (l : List Bool) (hl : l.length = 2 ^ n - 1) {a c e f g h i j k w : Option Dat} : ∃ (l' : List Bool) (e' f' : Option Dat), l'.length = 2 ^ n - 1 ∧ P4 [a, some (.lst (ds.map .int)), c, some (.tup (l.map cD)), e, f, g, h, i, j, k, w] = .nx [a, some (.lst (ds.map .int)), c, some (.tup (l'.map cD)), e', f', g, h, i, j, k, w] := by
  have hp : 2 ^ n ≤ 4096 := Nat.pow_le_pow_right (n := 2) (by decide) hn
  obtain ⟨t, ht, et⟩ : ∃ t : Nat, t < 3 ∧ (ds[20]'(by omega)) % 3 = (t : Int) := ⟨((ds[20]'(by omega)) % 3).toNat, by omega, by omega⟩
  obtain ⟨ρ', eq, l', e', f', rfl, hl'⟩ := forL_inv (asg := aName 4) (F := sIf (vTest (vOp gtD (vCB lenD (aCons (vVar 3) (aNil))) (vC (.int 0)))) (sSeq (sAsg 5 (vOp modD (vCB intD (aCons (vOp ixD (vVar 1) (vOp addD (vC (.int 21)) (vVar 4))) (aNil))) (vCB lenD (aCons (vVar 3) (aNil))))) (sAsg 3 (vOp addD (vOp addD (vSl (vVar 3) (oNone) (oSome (vVar 5))) (vTup (aCons (vOp ixD (vC (.str "VM")) (vM1 sindexD (vC (.str "MV")) (vOp ixD (vVar 3) (vVar 5)))) (aNil)))) (vSl (vVar 3) (oSome (vOp addD (vVar 5) (vC (.int 1)))) (oNone))))) (sNop)) (l := rng 0 t) (ρ := [a, some (.lst (ds.map .int)), c, some (.tup (l.map cD)), e, f, g, h, i, j, k, w])
    (fun _ ρ => ∃ (l' : List Bool) (e' f' : Option Dat), ρ = [a, some (.lst (ds.map .int)), c, some (.tup (l'.map cD)), e', f', g, h, i, j, k, w] ∧ l'.length = 2 ^ n - 1) ⟨l, e, f, rfl, hl⟩ fun r d ρ hr hp => by
      obtain ⟨l', e', f', rfl, hl'⟩ := hp
      obtain ⟨hr', rfl⟩ := rng_get hr
      have hlen : ∀ {e f : Option Dat}, vCB lenD (aCons (vVar 3) (aNil)) [a, some (.lst (ds.map .int)), c, some (.tup (l'.map cD)), e, f, g, h, i, j, k, w] = .ok (.int (l'.length : Nat)) := cb_ok (ac_ok (x := .tup (l'.map cD)) rfl an_ok) (len_row _)
      have htest : vTest (vOp gtD (vCB lenD (aCons (vVar 3) (aNil))) (vC (.int 0))) [a, some (.lst (ds.map .int)), c, some (.tup (l'.map cD)), some (.int ((0 : Int) + (r : Nat))), f', g, h, i, j, k, w] = .ok (decide ((0 : Int) < (l'.length : Nat))) := test_ok (op_ok hlen rfl rfl)
      by_cases z : (0 : Int) < (l'.length : Nat)
      · rw [decide_eq_true z] at htest
        have hr3 : 21 + r < ds.length := by omega
        obtain ⟨p, hp1, hp2⟩ : ∃ p : Nat, p < l'.length ∧ (ds[21 + r]) % (l'.length : Int) = (p : Int) := by
          have q1 := Int.emod_nonneg (ds[21 + r]) (show (l'.length : Int) ≠ 0 by omega)
          have q2 := Int.emod_lt_of_pos (ds[21 + r]) z
          exact ⟨(ds[21 + r] % (l'.length : Int)).toNat, by omega, by omega⟩
        refine ⟨_, [a, some (.lst (ds.map .int)), c, some (.tup ((l'.take p ++ [!l'[p]] ++ l'.drop (p + 1)).map cD)), some (.int ((0 : Int) + (r : Nat))), some (.int (p : Int)), g, h, i, j, k, w], rfl, .inl ?_, _, _, _, rfl, ?_⟩
        · refine (if_t htest).trans ?_
          refine (seq_nx (ρ' := [a, some (.lst (ds.map .int)), c, some (.tup (l'.map cD)), some (.int ((0 : Int) + (r : Nat))), some (.int (p : Int)), g, h, i, j, k, w]) ((asg_ok (op_ok (x := .int ds[21 + r]) (y := .int (l'.length : Nat)) (cb_ok (l := [.int ds[21 + r]]) (ac_ok (op_ok (x := .lst (ds.map .int)) (y := .int (21 + ((0 : Int) + (r : Nat)))) rfl rfl (dget (j := 21 + r) (by omega) hr3)) an_ok) rfl) hlen (by rw [mod_c z, hp2]))).trans rfl)).trans ?_
          refine (asg_ok (d := .tup ((l'.take p ++ [!l'[p]] ++ l'.drop (p + 1)).map cD)) ?_).trans rfl
          refine op_ok (x := .tup ((l'.take p ++ [!l'[p]]).map cD)) (y := .tup ((l'.drop (p + 1)).map cD)) (op_ok (x := .tup ((l'.take p).map cD)) (y := .tup [cD (!l'[p])]) ?_ ?_ ?_) ?_ ?_
          · refine sl_ok (x := .tup (l'.map cD)) (l := none) (h := some ((p : Nat) : Int)) rfl rfl rfl ?_
            show some (Dat.tup (Dl.cutD _ none (some ((p : Nat) : Int)))) = _
            rw [cut_pre, ← List.map_take]
          · refine tup_ok (l := [cD (!l'[p])]) (ac_ok (op_ok (x := .str "VM") (y := .int (if l'[p] then 1 else 0)) rfl ?_ (at_VM _)) an_ok) (by show 1 ≤ 1000; decide)
            have hx : vOp ixD (vVar 3) (vVar 5) [a, some (.lst (ds.map .int)), c, some (.tup (l'.map cD)), some (.int ((0 : Int) + (r : Nat))), some (.int (p : Int)), g, h, i, j, k, w] = .ok (cD l'[p]) := op_ok (x := .tup (l'.map cD)) (y := .int (p : Int)) rfl rfl (by rw [at_one l' rfl hp1, List.getElem?_eq_getElem hp1]; rfl)
            show (vOp ixD (vVar 3) (vVar 5) [a, some (.lst (ds.map .int)), c, some (.tup (l'.map cD)), some (.int ((0 : Int) + (r : Nat))), some (.int (p : Int)), g, h, i, j, k, w]).bind (fun y => ofO (sindexD (.str "MV") y)) = _
            rw [hx]
            show ofO (sindexD (.str "MV") (cD l'[p])) = _
            rw [idx_MV]
            rfl
          · rw [add_tup (by simp only [List.length_map, List.length_take, List.length_cons, List.length_nil]; omega), List.map_append]
            rfl
          · refine sl_ok (x := .tup (l'.map cD)) (l := some ((p + 1 : Nat) : Int)) (h := none) rfl rfl rfl ?_
            show some (Dat.tup (Dl.cutD _ (some ((p + 1 : Nat) : Int)) none)) = _
            rw [cut_from _ (by rw [List.length_map]; omega), ← List.map_drop]
          · rw [add_tup (by simp only [List.length_map, List.length_append, List.length_take, List.length_drop, List.length_cons, List.length_nil]; omega), ← List.map_append]
        · simp only [List.length_append, List.length_take, List.length_drop, List.length_cons, List.length_nil]
          omega
      · rw [decide_eq_false z] at htest
        exact ⟨_, _, rfl, .inl ((if_f htest).trans rfl), l', _, _, rfl, hl'⟩
  refine ⟨l', e', f', hl', (for_ok (l := rng 0 t) ?_).trans eq⟩
  refine ga_ok (l := [.int (t : Int)]) (ac_ok (op_ok (x := .int (ds[20]'(by omega))) (y := .int 3) (cb_ok (l := [.int (ds[20]'(by omega))]) (ac_ok (op_ok (x := .lst (ds.map .int)) (y := .int 20) rfl rfl (dget (j := 20) rfl (by omega))) an_ok) rfl) rfl (by rw [mod_c (by decide), et])) an_ok) (range1_nat (by omega))
theorem p5_eq {ds : List Int} (hd : ds.length = 60) {n : Nat} (hn : n ≤ 6) (l : List Bool) (hl : l.length = 2 ^ n - 1) {a c e f g h i j k w : Option Dat} : ∃ (l' : List Bool), l'.length = 2 ^ n - 1 ∧ P5 [a, some (.lst (ds.map .int)), c, some (.tup (l.map cD)), e, f, g, h, i, j, k, w] = .nx [a, some (.lst (ds.map .int)), c, some (.tup (l'.map cD)), e, f, g, h, i, j, k, w] := by
  have hp : 2 ^ n ≤ 64 := Nat.pow_le_pow_right (n := 2) (i := n) (j := 6) (by decide) hn
  obtain ⟨t, ht, et⟩ : ∃ t : Nat, t < 4 ∧ (ds[24]'(by omega)) % 4 = (t : Int) := ⟨((ds[24]'(by omega)) % 4).toNat, by omega, by omega⟩
  have htest : vTest (vOp eqD (vOp modD (vCB intD (aCons (vOp ixD (vVar 1) (vC (.int 24))) (aNil))) (vC (.int 4))) (vC (.int 0))) [a, some (.lst (ds.map .int)), c, some (.tup (l.map cD)), e, f, g, h, i, j, k, w] = .ok (t == 0) :=
    test_ok (op_ok (x := .int (t : Int)) (y := .int ((0 : Nat) : Int)) (op_ok (x := .int (ds[24]'(by omega))) (y := .int 4) (cb_ok (l := [.int (ds[24]'(by omega))]) (ac_ok (op_ok (x := .lst (ds.map .int)) (y := .int 24) rfl rfl (dget (j := 24) rfl (by omega))) an_ok) rfl) rfl (by rw [mod_c (by decide), et])) rfl (eq_int t 0))
  cases q : (t == 0) with
  | false =>
    rw [q] at htest
    exact ⟨l, hl, (if_f htest).trans rfl⟩
  | true =>
    rw [q] at htest
    refine ⟨(List.range l.length).map fun (r : Nat) => (ds[25 + r % 9]?.getD 0) / (1 + (r : Int) / 9) % 2 == 1, by rw [List.length_map, List.length_range]; exact hl, (if_t htest).trans ((asg_ok ?_).trans rfl)⟩
    refine cb_ok (ac_ok (vl_ok (l := ((List.range l.length).map fun (r : Nat) => (ds[25 + r % 9]?.getD 0) / (1 + (r : Int) / 9) % 2 == 1).map cD) ?_) an_ok) rfl
    refine lc_ok (l := rng 0 l.length) (ga_ok (l := [.int (l.length : Nat)]) (ac_ok (cb_ok (ac_ok (x := .tup (l.map cD)) rfl an_ok) (len_row _)) an_ok) (range1_nat (by omega))) (by rw [rng_len]; omega) ?_
    unfold rng
    rw [List.map_map]
    refine lcL_of (e := fun r : Nat => Dat.int ((0 : Int) + (r : Nat))) (g := fun r : Nat => cD ((ds[25 + r % 9]?.getD 0) / (1 + (r : Int) / 9) % 2 == 1)) fun r hr => ?_
    rw [List.mem_range] at hr
    refine ⟨[a, some (.lst (ds.map .int)), c, some (.tup (l.map cD)), e, f, g, h, i, some (.int ((0 : Int) + (r : Nat))), k, w], rfl, ?_⟩
    have hm : 25 + r % 9 < ds.length := by omega
    rw [show ((0 : Int) + (r : Nat)) = (r : Int) by omega]
    refine op_ok (x := .str "MV") (y := .int ((ds[25 + r % 9]'hm) / (1 + (r : Int) / 9) % 2)) rfl (op_ok (x := .int ((ds[25 + r % 9]'hm) / (1 + (r : Int) / 9))) (y := .int 2) (op_ok (x := .int (ds[25 + r % 9]'hm)) (y := .int (1 + (r : Int) / 9)) (cb_ok (l := [.int (ds[25 + r % 9]'hm)]) (ac_ok (op_ok (x := .lst (ds.map .int)) (y := .int (25 + (r : Int) % 9)) rfl (op_ok (x := .int 25) (y := .int ((r : Int) % 9)) rfl (op_ok (x := .int r) (y := .int 9) rfl rfl (mod_c (by decide))) rfl) (dget (j := 25 + r % 9) (by omega) hm)) an_ok) rfl) (op_ok (x := .int 1) (y := .int ((r : Int) / 9)) rfl (op_ok (x := .int r) (y := .int 9) rfl rfl (fdiv_c (by decide) (by decide))) rfl) (fdiv_c (by omega) (Nat.lt_of_le_of_lt (Nat.log2_le_self _) (by omega)))) rfl (mod_c (by decide))) ?_
    rw [at_MV, List.getElem?_eq_getElem hm]
    rfl
def pairD (p : Nat × Nat) : Dat := .tup [.int (p.1 : Int), .int (p.2 : Int)]
/-- what is found of a row, twice; the pairs that follow -/
theorem p678_eq {n : Nat} (hn : n ≤ 12) (l : List Bool) (hl : l.length = 2 ^ n - 1) {a b c e f g h i j k w : Option Dat} : ∃ (ps : List (Nat × Nat)) (g' h' : Option Dat), ps.length ≤ 1 ∧ ∀ F, sSeq P6 (sSeq P7 (sSeq P8 F)) [a, b, c, some (.tup (l.map cD)), e, f, g, h, i, j, k, w] = F [a, b, c, some (.tup (l.map cD)), e, f, g', h', some (.lst (ps.map pairD)), j, k, w] := by
  by_cases hb : ∃ m, ∃ L k, m = 2 ^ L * (2 * k + 1) ∧ m ≤ l.length ∧ bad l L k = true
  · obtain ⟨m0, hm0⟩ := hb
    obtain ⟨m, ⟨L, q, e1, e2, e3⟩, hmin⟩ := least (P := fun m => ∃ L k, m = 2 ^ L * (2 * k + 1) ∧ m ≤ l.length ∧ bad l L k = true) m0 hm0
    have hg : ∀ L' k', 2 ^ L' * (2 * k' + 1) < 2 ^ L * (2 * q + 1) → bad l L' k' = false := fun L' k' hlt => by
      cases z : bad l L' k' with
      | false => rfl
      | true => exact absurd ⟨L', k', rfl, by omega, z⟩ (hmin _ (by rw [e1]; exact hlt))
    have hd := due_some l hn hl (e1 ▸ e2) e3 hg
    have hf := folds_clash l hn hl (e1 ▸ e2) e3 hg
    generalize 2 ^ L * (2 * q + 1) = N at hd hf
    generalize 2 ^ L = A at hd hf
    refine ⟨[(A, N)], some (.tup [.int (A : Int), .int (N : Int)]), some (.tup [.str "clash", .tup [.int (A : Int), .int (N : Int)]]), Nat.le_refl _, fun F => ?_⟩
    refine (seq_nx (ρ' := [a, b, c, some (.tup (l.map cD)), e, f, some (.tup [.int (A : Int), .int (N : Int)]), some (.tup [.str "clash", .tup [.int (A : Int), .int (N : Int)]]), i, j, k, w]) ((par_ok (call_ok (l := [.tup (l.map cD)]) rfl rfl hd) (call_ok (l := [.tup (l.map cD)]) rfl rfl hf)).trans rfl)).trans ?_
    refine (seq_nx (ρ' := [a, b, c, some (.tup (l.map cD)), e, f, some (.tup [.int (A : Int), .int (N : Int)]), some (.tup [.str "clash", .tup [.int (A : Int), .int (N : Int)]]), i, j, k, w]) ?_).trans ?_
    · refine (if_f ((or_f ((and_f rfl))).trans ((and_t rfl).trans ?_))).trans rfl
      exact test_ok (op_ok (x := .tup [.str "clash", .tup [.int (A : Int), .int (N : Int)]]) (y := .tup [.str "clash", .tup [.int (A : Int), .int (N : Int)]]) rfl (tup_ok (l := [.str "clash", .tup [.int (A : Int), .int (N : Int)]]) rfl (by show 2 ≤ 1000; decide)) (ne_clash _ _))
    · exact seq_nx rfl
  · have hg : ∀ L q, 2 ^ L * (2 * q + 1) ≤ l.length → bad l L q = false := fun L q h => by
      cases z : bad l L q with
      | false => rfl
      | true => exact absurd ⟨_, L, q, rfl, h, z⟩ hb
    have hd := due_none l hn hl hg
    have hr := good_rowN hl hg
    obtain ⟨fr, hfr⟩ : ∃ fr, fr = (List.range n).map fun j => l[2 ^ j - 1]?.getD false := ⟨_, rfl⟩
    have hfl : fr.length ≤ 12 := by rw [hfr, List.length_map, List.length_range]; exact hn
    rw [← hfr] at hr
    have hf := folds_ok fr hfl
    have hw := lawrow_eq fr hfl
    rw [← hr] at hf hw
    refine ⟨[], some .non, some (.tup [.str "folds", .tup ((fr.reverse).map fD)]), Nat.zero_le _, fun F => ?_⟩
    refine (seq_nx (ρ' := [a, b, c, some (.tup (l.map cD)), e, f, some .non, some (.tup [.str "folds", .tup ((fr.reverse).map fD)]), i, j, k, w]) ((par_ok (call_ok (l := [.tup (l.map cD)]) rfl rfl hd) (call_ok (l := [.tup (l.map cD)]) rfl rfl hf)).trans rfl)).trans ?_
    refine (seq_nx (ρ' := [a, b, c, some (.tup (l.map cD)), e, f, some .non, some (.tup [.str "folds", .tup ((fr.reverse).map fD)]), i, j, k, w]) ?_).trans ?_
    · refine (if_f ((or_f ((and_t rfl).trans ((or_f (by kernel_rfl)).trans ?_))).trans (and_f rfl))).trans rfl
      exact test_ok (op_ok (x := .tup (l.map cD)) (y := .tup (l.map cD)) (call_ok (l := [.tup ((fr.reverse).map fD)]) (ac_ok (op_ok (x := .tup [.str "folds", .tup ((fr.reverse).map fD)]) (y := .int 1) rfl rfl rfl) an_ok) rfl hw) rfl (ne_row _))
    · exact seq_nx rfl
theorem p9_eq {ds : List Int} (hd : ds.length = 60) {n : Nat} (l : List Bool) (ps : List (Nat × Nat)) (hps : ps.length ≤ 1) {a c e f g h j k w : Option Dat} : ∃ (qs : List (Nat × Nat)) (j' : Option Dat), qs.length ≤ 9 ∧ P9 [a, some (.lst (ds.map .int)), c, some (.tup (l.map cD)), e, f, g, h, some (.lst (ps.map pairD)), j, k, w] = .nx [a, some (.lst (ds.map .int)), c, some (.tup (l.map cD)), e, f, g, h, some (.lst (qs.map pairD)), j', k, w] := by
  obtain ⟨ρ', eq, qs, j', rfl, hq, -⟩ := forL_inv (asg := aName 9) (F := sApp 8 (vTup (aCons (vOp modD (vCB intD (aCons (vOp ixD (vVar 1) (vOp addD (vC (.int 35)) (vVar 9))) (aNil))) (vOp addD (vCB lenD (aCons (vVar 3) (aNil))) (vC (.int 2)))) (aCons (vOp modD (vCB intD (aCons (vOp ixD (vVar 1) (vOp addD (vC (.int 44)) (vVar 9))) (aNil))) (vOp addD (vCB lenD (aCons (vVar 3) (aNil))) (vC (.int 2)))) (aNil))))) (l := rng 0 8) (ρ := [a, some (.lst (ds.map .int)), c, some (.tup (l.map cD)), e, f, g, h, some (.lst (ps.map pairD)), j, k, w])
    (fun r ρ => ∃ (qs : List (Nat × Nat)) (j' : Option Dat), ρ = [a, some (.lst (ds.map .int)), c, some (.tup (l.map cD)), e, f, g, h, some (.lst (qs.map pairD)), j', k, w] ∧ qs.length ≤ 1 + r ∧ r ≤ 8) ⟨ps, j, rfl, hps, by decide⟩ fun r d ρ hr hp => by
      obtain ⟨qs, j', rfl, hq, hr8⟩ := hp
      obtain ⟨hr', rfl⟩ := rng_get hr
      have h1 : 35 + r < ds.length := by omega
      have h2 : 44 + r < ds.length := by omega
      have hlen : ∀ {j : Option Dat}, vOp addD (vCB lenD (aCons (vVar 3) (aNil))) (vC (.int 2)) [a, some (.lst (ds.map .int)), c, some (.tup (l.map cD)), e, f, g, h, some (.lst (qs.map pairD)), j, k, w] = .ok (.int ((l.length : Int) + 2)) := op_ok (cb_ok (ac_ok (x := .tup (l.map cD)) rfl an_ok) (len_row _)) rfl rfl
      have q1 := Int.emod_nonneg (ds[35 + r]) (show (l.length : Int) + 2 ≠ 0 by omega)
      have q2 := Int.emod_nonneg (ds[44 + r]) (show (l.length : Int) + 2 ≠ 0 by omega)
      obtain ⟨p1, e1⟩ : ∃ p : Nat, ds[35 + r] % ((l.length : Int) + 2) = (p : Int) := ⟨(ds[35 + r] % ((l.length : Int) + 2)).toNat, by omega⟩
      obtain ⟨p2, e2⟩ : ∃ p : Nat, ds[44 + r] % ((l.length : Int) + 2) = (p : Int) := ⟨(ds[44 + r] % ((l.length : Int) + 2)).toNat, by omega⟩
      refine ⟨_, [a, some (.lst (ds.map .int)), c, some (.tup (l.map cD)), e, f, g, h, some (.lst ((qs ++ [(p1, p2)]).map pairD)), some (.int ((0 : Int) + (r : Nat))), k, w], rfl, .inl ?_, _, _, rfl, by rw [List.length_append]; show qs.length + 1 ≤ _; omega, by omega⟩
      refine (app_ok (l := qs.map pairD) (d := pairD (p1, p2)) rfl (tup_ok (l := [.int (p1 : Int), .int (p2 : Int)]) (ac_ok ?_ (ac_ok ?_ an_ok)) (by show 2 ≤ 1000; decide)) (by rw [List.length_map]; omega)).trans ?_
      · exact op_ok (x := .int ds[35 + r]) (y := .int ((l.length : Int) + 2)) (cb_ok (l := [.int ds[35 + r]]) (ac_ok (op_ok (x := .lst (ds.map .int)) (y := .int (35 + ((0 : Int) + (r : Nat)))) rfl rfl (dget (j := 35 + r) (by omega) h1)) an_ok) rfl) hlen (by rw [mod_c (by omega), e1])
      · exact op_ok (x := .int ds[44 + r]) (y := .int ((l.length : Int) + 2)) (cb_ok (l := [.int ds[44 + r]]) (ac_ok (op_ok (x := .lst (ds.map .int)) (y := .int (44 + ((0 : Int) + (r : Nat)))) rfl rfl (dget (j := 44 + r) (by omega) h2)) an_ok) rfl) hlen (by rw [mod_c (by omega), e2])
      · rw [List.map_append]
        rfl
  exact ⟨qs, j', by rw [rng_len] at hq; omega, (for_ok (l := rng 0 8) rfl).trans eq⟩
def junk : List Dat := [.non, .tup [.int 1], .lst [.int 1, .int 3], .tup [.bl true, .int 3], .tup [.int 1, .int 2, .int 3], .tup [.str "1", .int 3]]
theorem junk_all (l : List Bool) {n : Nat} (hn : n ≤ 12) (hl : l.length = 2 ^ n - 1) : ∀ d ∈ junk, Same (.tup (l.map cD)) d := by
  intro d hd
  unfold junk at hd
  simp only [List.mem_cons, List.not_mem_nil, or_false] at hd
  rcases hd with rfl | rfl | rfl | rfl | rfl | rfl
  · exact junk_same l hn hl _ (by kernel_rfl) (by kernel_rfl)
  · exact junk_same l hn hl _ (by kernel_rfl) (by kernel_rfl)
  · exact junk_same l hn hl _ (by kernel_rfl) (by kernel_rfl)
  · exact junk_same l hn hl _ (by kernel_rfl) (by kernel_rfl)
  · exact junk_same l hn hl _ (by kernel_rfl) (by kernel_rfl)
  · exact junk_same l hn hl _ (by kernel_rfl) (by kernel_rfl)
theorem p10_eq (l : List Bool) {n : Nat} (hn : n ≤ 12) (hl : l.length = 2 ^ n - 1) (qs : List (Nat × Nat)) (hq : qs.length ≤ 9) {a b c e f g h j k w : Option Dat} : P10 [a, b, c, some (.tup (l.map cD)), e, f, g, h, some (.lst (qs.map pairD)), j, k, w] = .nx [a, b, c, some (.tup (l.map cD)), e, f, g, h, some (.lst (qs.map pairD)), j, k, w] := by
  refine (if_f (not_ok (b := true) (tru_ok (d := .bl true) (cb_ok (ac_ok (vl_ok (l := (qs.map pairD ++ junk).map fun _ => Dat.bl true) ?_) an_ok) (all_true _)) rfl))).trans rfl
  refine lc_ok (l := qs.map pairD ++ junk) ?_ (by rw [List.length_append, List.length_map]; show qs.length + 6 ≤ _; omega) (lcL_map (g := fun _ => Dat.bl true) fun d hd => ?_)
  · exact gs_ok (x := .lst (qs.map pairD ++ junk)) (op_ok (x := .lst (qs.map pairD)) (y := .lst junk) rfl (by kernel_rfl) (add_lst (by rw [List.length_map]; show qs.length + 6 ≤ _; omega))) rfl
  · refine ⟨[a, b, c, some (.tup (l.map cD)), e, f, g, h, some (.lst (qs.map pairD)), j, k, some d], rfl, ?_⟩
    have hs : Same (.tup (l.map cD)) d := by
      rcases List.mem_append.mp hd with q | q
      · obtain ⟨p, -, rfl⟩ := List.mem_map.mp q
        exact pair_same l hn hl p.1 p.2
      · exact junk_all l hn hl d q
    obtain ⟨x, h1, h2, h3⟩ := hs
    exact op_ok (x := x) (y := x) (call_ok (l := [.tup (l.map cD), d]) rfl rfl h1) (call_ok (l := [.tup (l.map cD), d]) rfl rfl h2) h3
theorem law_true : ∀ ns : List Int, ns.length ≤ 63 → D_law [.frz (ns.map .int)] = .ok (.bl true) := fun ns _ => by
  obtain ⟨ds, hds, hdl, hdr⟩ := draws_eq (m := 60) (by decide) ns
  obtain ⟨S, hS⟩ : ∃ S, S = Dat.frz (ns.map .int) := ⟨_, rfl⟩
  rw [← hS] at hds ⊢
  obtain ⟨fr, hf6, hF⟩ := lawfolds_eq hdl
  have hW := lawrow_eq fr (by omega)
  refine run_rt ?_
  refine (seq_nx (ρ' := [some S, some (.lst (ds.map .int)), none, none, none, none, none, none, none, none, none, none]) ((asg_ok (call_ok (l := [S, .int ((60 : Nat) : Int)]) rfl rfl hds)).trans rfl)).trans ?_
  refine (seq_nx (ρ' := [some S, some (.lst (ds.map .int)), some (.tup ((fr.reverse).map fD)), none, none, none, none, none, none, none, none, none]) ((asg_ok (call_ok (l := [.lst (ds.map .int), .int 6]) rfl rfl hF)).trans rfl)).trans ?_
  refine (seq_nx (ρ' := [some S, some (.lst (ds.map .int)), some (.tup ((fr.reverse).map fD)), some (.tup ((rowN fr).map cD)), none, none, none, none, none, none, none, none]) ((asg_ok (call_ok (l := [.tup ((fr.reverse).map fD)]) rfl rfl hW)).trans rfl)).trans ?_
  refine (seq_nx (p3_eq fr hf6)).trans ?_
  obtain ⟨l1, x1, x2, hl1, e4⟩ := p4_eq hdl (n := fr.length) (by omega) (rowN fr) (rowN_len fr) (a := some S) (c := some (.tup ((fr.reverse).map fD))) (e := none) (f := none) (g := none) (h := none) (i := none) (j := none) (k := none) (w := none)
  refine (seq_nx e4).trans ?_
  obtain ⟨l2, hl2, e5⟩ := p5_eq hdl (n := fr.length) hf6 l1 hl1 (a := some S) (c := some (.tup ((fr.reverse).map fD))) (e := x1) (f := x2) (g := none) (h := none) (i := none) (j := none) (k := none) (w := none)
  refine (seq_nx e5).trans ?_
  obtain ⟨ps, x3, x4, hps, e6⟩ := p678_eq (n := fr.length) (by omega) l2 hl2 (a := some S) (b := some (.lst (ds.map .int))) (c := some (.tup ((fr.reverse).map fD))) (e := x1) (f := x2) (g := none) (h := none) (i := none) (j := none) (k := none) (w := none)
  refine (e6 _).trans ?_
  obtain ⟨qs, x5, hqs, e9⟩ := p9_eq hdl (n := fr.length) l2 ps hps (a := some S) (c := some (.tup ((fr.reverse).map fD))) (e := x1) (f := x2) (g := x3) (h := x4) (j := none) (k := none) (w := none)
  refine (seq_nx e9).trans ?_
  refine (seq_nx (p10_eq (n := fr.length) l2 (by omega) hl2 qs hqs)).trans ?_
  obtain ⟨x6, e11⟩ := p11_eq (a := some S) (b := some (.lst (ds.map .int))) (c := some (.tup ((fr.reverse).map fD))) (d := some (.tup (l2.map cD))) (e := x1) (f := x2) (g := x3) (h := x4) (i := some (.lst (qs.map pairD))) (j := x5) (k := none) (l := none)
  refine (seq_nx e11).trans ((seq_nx p12_eq).trans ((seq_nx p13_eq).trans ((seq_nx p14_eq).trans ?_)))
  obtain ⟨x7, e15⟩ := p15_eq (a := some S) (b := some (.lst (ds.map .int))) (c := some (.tup ((fr.reverse).map fD))) (d := some (.tup (l2.map cD))) (e := x1) (f := x2) (g := x3) (h := x4) (i := some (.lst (qs.map pairD))) (j := x5) (k := x6) (l := none)
  refine (seq_nx e15).trans (ret_ok ?_)
  refine (vand_t (op_ok (x := .tup [.str "folds", .tup []]) (y := .tup [.str "folds", .tup []]) (call_ok (l := [.tup []]) rfl rfl emp_eq) (by kernel_rfl) (by kernel_rfl))).trans ?_
  exact call_ok (l := [.lst (ds.map .int)]) rfl rfl (great_eq hdl hdr)
end Lw
namespace Lw
open PySem PySem.Spec PyProof.Rows L2 Dl
theorem all_mk {l : PySem.W.OpenLaw} {w : World} {K : PySem.W.Frag} {h : Heap} {mg : Str → Option Value} {fa : Addr} (law_true : ∀ ns : List Int, ns.length ≤ 63 → D_law [.frz (ns.map .int)] = .ok (.bl true)) (X : K.In h) (G : h.Ns mainGlobals mg) (hfa : mg "law" = some (.ref fa))
    {f0 f1 f2 f3 f4 f5 f6 f7 f8 f9 f10 f11 f12 f13 f14 f15 f16 f17 f18 f19 f20 f21 C_BadPlace C_BadFolds C_BadRow d_OTHERS : Addr} {od0 an0 od1 an1 od2 an2 od3 an3 od4 an4 od5 an5 od6 an6 od7 an7 od8 an8 od9 an9 od10 an10 od11 an11 od12 an12 od13 an13 od14 an14 od15 an15 od16 an16 od17 an17 od18 an18 od19 an19 od20 an20 od21 an21 : Option Addr} {sl0 sl1 sl2 sl3 sl4 sl5 sl6 sl7 sl8 sl9 sl10 sl11 sl12 sl13 sl14 sl15 sl16 sl17 sl18 sl19 sl20 sl21 : Array (Option Value)} {oc0 kV0 dc0 pm0 cd0 ct0 oc1 kV1 dc1 pm1 cd1 ct1 oc2 kV2 dc2 pm2 cd2 ct2 oc3 kV3 dc3 pm3 cd3 ct3 oc4 kV4 dc4 pm4 cd4 ct4 oc5 kV5 dc5 pm5 cd5 ct5 oc6 kV6 dc6 pm6 cd6 ct6 oc7 kV7 dc7 pm7 cd7 ct7 oc8 kV8 dc8 pm8 cd8 ct8 oc9 kV9 dc9 pm9 cd9 ct9 oc10 kV10 dc10 pm10 cd10 ct10 oc11 kV11 dc11 pm11 cd11 ct11 oc12 kV12 dc12 pm12 cd12 ct12 oc13 kV13 dc13 pm13 cd13 ct13 oc14 kV14 dc14 pm14 cd14 ct14 oc15 kV15 dc15 pm15 cd15 ct15 oc16 kV16 dc16 pm16 cd16 ct16 oc17 kV17 dc17 pm17 cd17 ct17 oc18 kV18 dc18 pm18 cd18 ct18 oc19 kV19 dc19 pm19 cd19 ct19 oc20 kV20 dc20 pm20 cd20 ct20 oc21 kV21 dc21 pm21 cd21 ct21 : Value}
    {tk_MOUNTAIN tk_VALLEY tk_OVER tk_UNDER tk_MOST_FOLDS tk_MOST_WHOLE tk_OTHERS_0 tk_OTHERS_1 tk_OTHERS_2 : Tok}
    {es_OTHERS : Array DictEntry} {dn_OTHERS : Nat}
    (a0 : PySem.W.nsIn K mainGlobals "is_whole" = some (some (.ref f0)))
    (l0 : K.lookup f0 = some ⟨oc0, od0, .func (PySem.W.fnOf "is_whole" "is_whole" (defArgs s_is_whole) (defBody s_is_whole) (defScope s_is_whole) .none kV0 dc0 pm0 an0 cd0 ct0), sl0⟩)
    (c0 : PySem.W.codeIn K cd0 "is_whole" = true)
    (k0 : PySem.W.keepIn K (.ref f0) = true)
    (a1 : PySem.W.nsIn K mainGlobals "two_to" = some (some (.ref f1)))
    (l1 : K.lookup f1 = some ⟨oc1, od1, .func (PySem.W.fnOf "two_to" "two_to" (defArgs s_two_to) (defBody s_two_to) (defScope s_two_to) .none kV1 dc1 pm1 an1 cd1 ct1), sl1⟩)
    (c1 : PySem.W.codeIn K cd1 "two_to" = true)
    (k1 : PySem.W.keepIn K (.ref f1) = true)
    (a2 : PySem.W.nsIn K mainGlobals "check_folds" = some (some (.ref f2)))
    (l2 : K.lookup f2 = some ⟨oc2, od2, .func (PySem.W.fnOf "check_folds" "check_folds" (defArgs s_check_folds) (defBody s_check_folds) (defScope s_check_folds) .none kV2 dc2 pm2 an2 cd2 ct2), sl2⟩)
    (c2 : PySem.W.codeIn K cd2 "check_folds" = true)
    (k2 : PySem.W.keepIn K (.ref f2) = true)
    (a3 : PySem.W.nsIn K mainGlobals "are_creases" = some (some (.ref f3)))
    (l3 : K.lookup f3 = some ⟨oc3, od3, .func (PySem.W.fnOf "are_creases" "are_creases" (defArgs s_are_creases) (defBody s_are_creases) (defScope s_are_creases) .none kV3 dc3 pm3 an3 cd3 ct3), sl3⟩)
    (c3 : PySem.W.codeIn K cd3 "are_creases" = true)
    (k3 : PySem.W.keepIn K (.ref f3) = true)
    (a4 : PySem.W.nsIn K mainGlobals "level_of" = some (some (.ref f4)))
    (l4 : K.lookup f4 = some ⟨oc4, od4, .func (PySem.W.fnOf "level_of" "level_of" (defArgs s_level_of) (defBody s_level_of) (defScope s_level_of) .none kV4 dc4 pm4 an4 cd4 ct4), sl4⟩)
    (c4 : PySem.W.codeIn K cd4 "level_of" = true)
    (k4 : PySem.W.keepIn K (.ref f4) = true)
    (a5 : PySem.W.nsIn K mainGlobals "_crease" = some (some (.ref f5)))
    (l5 : K.lookup f5 = some ⟨oc5, od5, .func (PySem.W.fnOf "_crease" "_crease" (defArgs s__crease) (defBody s__crease) (defScope s__crease) .none kV5 dc5 pm5 an5 cd5 ct5), sl5⟩)
    (c5 : PySem.W.codeIn K cd5 "_crease" = true)
    (k5 : PySem.W.keepIn K (.ref f5) = true)
    (a6 : PySem.W.nsIn K mainGlobals "halved" = some (some (.ref f6)))
    (l6 : K.lookup f6 = some ⟨oc6, od6, .func (PySem.W.fnOf "halved" "halved" (defArgs s_halved) (defBody s_halved) (defScope s_halved) .none kV6 dc6 pm6 an6 cd6 ct6), sl6⟩)
    (c6 : PySem.W.codeIn K cd6 "halved" = true)
    (k6 : PySem.W.keepIn K (.ref f6) = true)
    (a7 : PySem.W.nsIn K mainGlobals "crease_at" = some (some (.ref f7)))
    (l7 : K.lookup f7 = some ⟨oc7, od7, .func (PySem.W.fnOf "crease_at" "crease_at" (defArgs s_crease_at) (defBody s_crease_at) (defScope s_crease_at) .none kV7 dc7 pm7 an7 cd7 ct7), sl7⟩)
    (c7 : PySem.W.codeIn K cd7 "crease_at" = true)
    (k7 : PySem.W.keepIn K (.ref f7) = true)
    (a8 : PySem.W.nsIn K mainGlobals "_check_row" = some (some (.ref f8)))
    (l8 : K.lookup f8 = some ⟨oc8, od8, .func (PySem.W.fnOf "_check_row" "_check_row" (defArgs s__check_row) (defBody s__check_row) (defScope s__check_row) .none kV8 dc8 pm8 an8 cd8 ct8), sl8⟩)
    (c8 : PySem.W.codeIn K cd8 "_check_row" = true)
    (k8 : PySem.W.keepIn K (.ref f8) = true)
    (a9 : PySem.W.nsIn K mainGlobals "_are_clashing" = some (some (.ref f9)))
    (l9 : K.lookup f9 = some ⟨oc9, od9, .func (PySem.W.fnOf "_are_clashing" "_are_clashing" (defArgs s__are_clashing) (defBody s__are_clashing) (defScope s__are_clashing) .none kV9 dc9 pm9 an9 cd9 ct9), sl9⟩)
    (c9 : PySem.W.codeIn K cd9 "_are_clashing" = true)
    (k9 : PySem.W.keepIn K (.ref f9) = true)
    (a10 : PySem.W.nsIn K mainGlobals "folds_of" = some (some (.ref f10)))
    (l10 : K.lookup f10 = some ⟨oc10, od10, .func (PySem.W.fnOf "folds_of" "folds_of" (defArgs s_folds_of) (defBody s_folds_of) (defScope s_folds_of) .none kV10 dc10 pm10 an10 cd10 ct10), sl10⟩)
    (c10 : PySem.W.codeIn K cd10 "folds_of" = true)
    (k10 : PySem.W.keepIn K (.ref f10) = true)
    (a11 : PySem.W.nsIn K mainGlobals "clash_fault" = some (some (.ref f11)))
    (l11 : K.lookup f11 = some ⟨oc11, od11, .func (PySem.W.fnOf "clash_fault" "clash_fault" (defArgs s_clash_fault) (defBody s_clash_fault) (defScope s_clash_fault) .none kV11 dc11 pm11 an11 cd11 ct11), sl11⟩)
    (c11 : PySem.W.codeIn K cd11 "clash_fault" = true)
    (k11 : PySem.W.keepIn K (.ref f11) = true)
    (a12 : PySem.W.nsIn K mainGlobals "_law_draws" = some (some (.ref f12)))
    (l12 : K.lookup f12 = some ⟨oc12, od12, .func (PySem.W.fnOf "_law_draws" "_law_draws" (defArgs s__law_draws) (defBody s__law_draws) (defScope s__law_draws) .none kV12 dc12 pm12 an12 cd12 ct12), sl12⟩)
    (c12 : PySem.W.codeIn K cd12 "_law_draws" = true)
    (k12 : PySem.W.keepIn K (.ref f12) = true)
    (a13 : PySem.W.nsIn K mainGlobals "_law_folds" = some (some (.ref f13)))
    (l13 : K.lookup f13 = some ⟨oc13, od13, .func (PySem.W.fnOf "_law_folds" "_law_folds" (defArgs s__law_folds) (defBody s__law_folds) (defScope s__law_folds) .none kV13 dc13 pm13 an13 cd13 ct13), sl13⟩)
    (c13 : PySem.W.codeIn K cd13 "_law_folds" = true)
    (k13 : PySem.W.keepIn K (.ref f13) = true)
    (a14 : PySem.W.nsIn K mainGlobals "_law_row" = some (some (.ref f14)))
    (l14 : K.lookup f14 = some ⟨oc14, od14, .func (PySem.W.fnOf "_law_row" "_law_row" (defArgs s__law_row) (defBody s__law_row) (defScope s__law_row) .none kV14 dc14 pm14 an14 cd14 ct14), sl14⟩)
    (c14 : PySem.W.codeIn K cd14 "_law_row" = true)
    (k14 : PySem.W.keepIn K (.ref f14) = true)
    (a15 : PySem.W.nsIn K mainGlobals "_law_level" = some (some (.ref f15)))
    (l15 : K.lookup f15 = some ⟨oc15, od15, .func (PySem.W.fnOf "_law_level" "_law_level" (defArgs s__law_level) (defBody s__law_level) (defScope s__law_level) .none kV15 dc15 pm15 an15 cd15 ct15), sl15⟩)
    (c15 : PySem.W.codeIn K cd15 "_law_level" = true)
    (k15 : PySem.W.keepIn K (.ref f15) = true)
    (a16 : PySem.W.nsIn K mainGlobals "_law_crease" = some (some (.ref f16)))
    (l16 : K.lookup f16 = some ⟨oc16, od16, .func (PySem.W.fnOf "_law_crease" "_law_crease" (defArgs s__law_crease) (defBody s__law_crease) (defScope s__law_crease) .none kV16 dc16 pm16 an16 cd16 ct16), sl16⟩)
    (c16 : PySem.W.codeIn K cd16 "_law_crease" = true)
    (k16 : PySem.W.keepIn K (.ref f16) = true)
    (a17 : PySem.W.nsIn K mainGlobals "_law_due" = some (some (.ref f17)))
    (l17 : K.lookup f17 = some ⟨oc17, od17, .func (PySem.W.fnOf "_law_due" "_law_due" (defArgs s__law_due) (defBody s__law_due) (defScope s__law_due) .none kV17 dc17 pm17 an17 cd17 ct17), sl17⟩)
    (c17 : PySem.W.codeIn K cd17 "_law_due" = true)
    (k17 : PySem.W.keepIn K (.ref f17) = true)
    (a18 : PySem.W.nsIn K mainGlobals "_law_clash" = some (some (.ref f18)))
    (l18 : K.lookup f18 = some ⟨oc18, od18, .func (PySem.W.fnOf "_law_clash" "_law_clash" (defArgs s__law_clash) (defBody s__law_clash) (defScope s__law_clash) .none kV18 dc18 pm18 an18 cd18 ct18), sl18⟩)
    (c18 : PySem.W.codeIn K cd18 "_law_clash" = true)
    (k18 : PySem.W.keepIn K (.ref f18) = true)
    (a19 : PySem.W.nsIn K mainGlobals "_law_error" = some (some (.ref f19)))
    (l19 : K.lookup f19 = some ⟨oc19, od19, .func (PySem.W.fnOf "_law_error" "_law_error" (defArgs s__law_error) (defBody s__law_error) (defScope s__law_error) .none kV19 dc19 pm19 an19 cd19 ct19), sl19⟩)
    (c19 : PySem.W.codeIn K cd19 "_law_error" = true)
    (k19 : PySem.W.keepIn K (.ref f19) = true)
    (a20 : PySem.W.nsIn K mainGlobals "_law_are_great" = some (some (.ref f20)))
    (l20 : K.lookup f20 = some ⟨oc20, od20, .func (PySem.W.fnOf "_law_are_great" "_law_are_great" (defArgs s__law_are_great) (defBody s__law_are_great) (defScope s__law_are_great) .none kV20 dc20 pm20 an20 cd20 ct20), sl20⟩)
    (c20 : PySem.W.codeIn K cd20 "_law_are_great" = true)
    (k20 : PySem.W.keepIn K (.ref f20) = true)
    (a21 : PySem.W.nsIn K mainGlobals "law" = some (some (.ref f21)))
    (l21 : K.lookup f21 = some ⟨oc21, od21, .func (PySem.W.fnOf "law" "law" (defArgs s_law) (defBody s_law) (defScope s_law) .none kV21 dc21 pm21 an21 cd21 ct21), sl21⟩)
    (c21 : PySem.W.codeIn K cd21 "law" = true)
    (k21 : PySem.W.keepIn K (.ref f21) = true)
    (ea_BadPlace : PySem.W.nsIn K mainGlobals "BadPlace" = some (some (.ref C_BadPlace)))
    (ek_BadPlace : PySem.W.keepIn K (.ref C_BadPlace) = true)
    (ex_BadPlace : PySem.W.excIn K C_BadPlace [.type "ValueError", .type "Exception", .type "BaseException", .type "object"] "ValueError.__new__" = true)
    (eb_BadPlace : PySem.W.subIn K (.ref C_BadPlace) (.type "BaseException") = some true)
    (et_BadPlace : PySem.W.typeIn K (.ref C_BadPlace) = some (.type "type"))
    (ea_BadFolds : PySem.W.nsIn K mainGlobals "BadFolds" = some (some (.ref C_BadFolds)))
    (ek_BadFolds : PySem.W.keepIn K (.ref C_BadFolds) = true)
    (ex_BadFolds : PySem.W.excIn K C_BadFolds [.type "ValueError", .type "Exception", .type "BaseException", .type "object"] "ValueError.__new__" = true)
    (eb_BadFolds : PySem.W.subIn K (.ref C_BadFolds) (.type "BaseException") = some true)
    (et_BadFolds : PySem.W.typeIn K (.ref C_BadFolds) = some (.type "type"))
    (ea_BadRow : PySem.W.nsIn K mainGlobals "BadRow" = some (some (.ref C_BadRow)))
    (ek_BadRow : PySem.W.keepIn K (.ref C_BadRow) = true)
    (ex_BadRow : PySem.W.excIn K C_BadRow [.type "ValueError", .type "Exception", .type "BaseException", .type "object"] "ValueError.__new__" = true)
    (eb_BadRow : PySem.W.subIn K (.ref C_BadRow) (.type "BaseException") = some true)
    (et_BadRow : PySem.W.typeIn K (.ref C_BadRow) = some (.type "type"))
    (ed_BadFolds : PySem.W.hasDictIn K C_BadFolds = true)
    (es_BadPlace_BadFolds : PySem.W.subIn K (.ref C_BadPlace) (.ref C_BadFolds) = some false)
    (es_BadFolds_BadFolds : PySem.W.subIn K (.ref C_BadFolds) (.ref C_BadFolds) = some true)
    (es_BadRow_BadFolds : PySem.W.subIn K (.ref C_BadRow) (.ref C_BadFolds) = some false)
    (ed_BadPlace : PySem.W.hasDictIn K C_BadPlace = true)
    (es_BadPlace_BadPlace : PySem.W.subIn K (.ref C_BadPlace) (.ref C_BadPlace) = some true)
    (es_BadFolds_BadPlace : PySem.W.subIn K (.ref C_BadFolds) (.ref C_BadPlace) = some false)
    (es_BadRow_BadPlace : PySem.W.subIn K (.ref C_BadRow) (.ref C_BadPlace) = some false)
    (ed_BadRow : PySem.W.hasDictIn K C_BadRow = true)
    (es_BadPlace_BadRow : PySem.W.subIn K (.ref C_BadPlace) (.ref C_BadRow) = some false)
    (es_BadFolds_BadRow : PySem.W.subIn K (.ref C_BadFolds) (.ref C_BadRow) = some false)
    (es_BadRow_BadRow : PySem.W.subIn K (.ref C_BadRow) (.ref C_BadRow) = some true)
    (z_abs : PySem.W.nsIn K mainGlobals "abs" = some none)
    (z_all : PySem.W.nsIn K mainGlobals "all" = some none)
    (z_bool : PySem.W.nsIn K mainGlobals "bool" = some none)
    (z_int : PySem.W.nsIn K mainGlobals "int" = some none)
    (z_isinstance : PySem.W.nsIn K mainGlobals "isinstance" = some none)
    (z_len : PySem.W.nsIn K mainGlobals "len" = some none)
    (z_list : PySem.W.nsIn K mainGlobals "list" = some none)
    (z_range : PySem.W.nsIn K mainGlobals "range" = some none)
    (z_str : PySem.W.nsIn K mainGlobals "str" = some none)
    (z_tuple : PySem.W.nsIn K mainGlobals "tuple" = some none)
    (g_MOUNTAIN : PySem.W.nsIn K mainGlobals "MOUNTAIN" = some (some (.str "M" tk_MOUNTAIN)))
    (g_VALLEY : PySem.W.nsIn K mainGlobals "VALLEY" = some (some (.str "V" tk_VALLEY)))
    (g_OVER : PySem.W.nsIn K mainGlobals "OVER" = some (some (.str "over" tk_OVER)))
    (g_UNDER : PySem.W.nsIn K mainGlobals "UNDER" = some (some (.str "under" tk_UNDER)))
    (g_MOST_FOLDS : PySem.W.nsIn K mainGlobals "MOST_FOLDS" = some (some (.int 300 tk_MOST_FOLDS)))
    (g_MOST_WHOLE : PySem.W.nsIn K mainGlobals "MOST_WHOLE" = some (some (.int 12 tk_MOST_WHOLE)))
    (da_OTHERS : PySem.W.nsIn K mainGlobals "OTHERS" = some (some (.ref d_OTHERS)))
    (dl_OTHERS : K.lookup d_OTHERS = some ⟨.type "dict", none, .dict es_OTHERS dn_OTHERS, #[]⟩)
    (dk_OTHERS : PySem.W.KeysLit w.params es_OTHERS.toList)
    (dv_OTHERS_0 : PySem.W.nsIn K d_OTHERS "M" = some (some (.str "V" tk_OTHERS_0)))
    (dv_OTHERS_1 : PySem.W.nsIn K d_OTHERS "V" = some (some (.str "M" tk_OTHERS_1)))
    (dv_OTHERS_2 : PySem.W.nsIn K d_OTHERS "?" = some (some (.str "?" tk_OTHERS_2)))
    : ∃ fd : FuncData, (∀ (s : Shared) (u : Value), BindsTo s fd ⟨[u], []⟩ [("script", u)]) ∧ ∀ base : Heap, K.In base → base.Ns mainGlobals mg → FnOk l.prog w K mg base (L2.CX l.prog w) 6 fa fd ["script"] (spLaw K) := by
  have e := hfa.symm.trans (PySem.W.mg_of X G a21)
  cases e
  let T : CT := ⟨fun _ => 0, fun _ => [], fun c => [Value.ref C_BadPlace, Value.ref C_BadPlace, Value.ref C_BadFolds, Value.ref C_BadRow].getD c (.ref C_BadPlace)⟩
  have tx : Txt K mg T w :=
    { b_abs := PySem.W.mg_none_of X G z_abs,
      b_all := PySem.W.mg_none_of X G z_all,
      b_bool := PySem.W.mg_none_of X G z_bool,
      b_int := PySem.W.mg_none_of X G z_int,
      b_isinstance := PySem.W.mg_none_of X G z_isinstance,
      b_len := PySem.W.mg_none_of X G z_len,
      b_list := PySem.W.mg_none_of X G z_list,
      b_range := PySem.W.mg_none_of X G z_range,
      b_str := PySem.W.mg_none_of X G z_str,
      b_tuple := PySem.W.mg_none_of X G z_tuple,
      g_MOUNTAIN := GC.str (PySem.W.mg_of X G g_MOUNTAIN),
      g_VALLEY := GC.str (PySem.W.mg_of X G g_VALLEY),
      g_OVER := GC.str (PySem.W.mg_of X G g_OVER),
      g_UNDER := GC.str (PySem.W.mg_of X G g_UNDER),
      g_MOST_FOLDS := GC.int (PySem.W.mg_of X G g_MOST_FOLDS),
      g_MOST_WHOLE := GC.int (PySem.W.mg_of X G g_MOST_WHOLE),
      t_OTHERS := ⟨d_OTHERS, PySem.W.mg_of X G da_OTHERS, fun k e h => by
      rcases look_cases h with ⟨rfl, rfl⟩ | h
      · exact ⟨V.str "V", ⟨_, _, _, dl_OTHERS, dk_OTHERS, dv_OTHERS_0, ⟨_, rfl⟩⟩, fun H => .str _⟩
      rcases look_cases h with ⟨rfl, rfl⟩ | h
      · exact ⟨V.str "M", ⟨_, _, _, dl_OTHERS, dk_OTHERS, dv_OTHERS_1, ⟨_, rfl⟩⟩, fun H => .str _⟩
      rcases look_cases h with ⟨rfl, rfl⟩ | h
      · exact ⟨V.str "?", ⟨_, _, _, dl_OTHERS, dk_OTHERS, dv_OTHERS_2, ⟨_, rfl⟩⟩, fun H => .str _⟩
      cases h⟩,
      e_BadPlace := ⟨C_BadPlace, rfl, PySem.W.mg_of X G ea_BadPlace, ek_BadPlace, ex_BadPlace, eb_BadPlace, et_BadPlace⟩,
      e_BadFolds := ⟨C_BadFolds, rfl, PySem.W.mg_of X G ea_BadFolds, ek_BadFolds, ex_BadFolds, eb_BadFolds, et_BadFolds⟩,
      e_BadRow := ⟨C_BadRow, rfl, PySem.W.mg_of X G ea_BadRow, ek_BadRow, ex_BadRow, eb_BadRow, et_BadRow⟩,
      n_BadFolds := PySem.W.mg_of X G ea_BadFolds,
      x_BadFolds := fun c => match c with
        | 0 => PySem.W.exm_ref eb_BadFolds ed_BadFolds et_BadFolds es_BadPlace_BadFolds
        | 1 => PySem.W.exm_ref eb_BadFolds ed_BadFolds et_BadFolds es_BadPlace_BadFolds
        | 2 => PySem.W.exm_ref eb_BadFolds ed_BadFolds et_BadFolds es_BadFolds_BadFolds
        | 3 => PySem.W.exm_ref eb_BadFolds ed_BadFolds et_BadFolds es_BadRow_BadFolds
        | _ + 4 => PySem.W.exm_ref eb_BadFolds ed_BadFolds et_BadFolds es_BadPlace_BadFolds,
      n_BadPlace := PySem.W.mg_of X G ea_BadPlace,
      x_BadPlace := fun c => match c with
        | 0 => PySem.W.exm_ref eb_BadPlace ed_BadPlace et_BadPlace es_BadPlace_BadPlace
        | 1 => PySem.W.exm_ref eb_BadPlace ed_BadPlace et_BadPlace es_BadPlace_BadPlace
        | 2 => PySem.W.exm_ref eb_BadPlace ed_BadPlace et_BadPlace es_BadFolds_BadPlace
        | 3 => PySem.W.exm_ref eb_BadPlace ed_BadPlace et_BadPlace es_BadRow_BadPlace
        | _ + 4 => PySem.W.exm_ref eb_BadPlace ed_BadPlace et_BadPlace es_BadPlace_BadPlace,
      n_BadRow := PySem.W.mg_of X G ea_BadRow,
      x_BadRow := fun c => match c with
        | 0 => PySem.W.exm_ref eb_BadRow ed_BadRow et_BadRow es_BadPlace_BadRow
        | 1 => PySem.W.exm_ref eb_BadRow ed_BadRow et_BadRow es_BadPlace_BadRow
        | 2 => PySem.W.exm_ref eb_BadRow ed_BadRow et_BadRow es_BadFolds_BadRow
        | 3 => PySem.W.exm_ref eb_BadRow ed_BadRow et_BadRow es_BadRow_BadRow
        | _ + 4 => PySem.W.exm_ref eb_BadRow ed_BadRow et_BadRow es_BadPlace_BadRow }
  have F0 := fun_mk (st := s_is_whole) l0 c0 k0
  have F1 := fun_mk (st := s_two_to) l1 c1 k1
  have F2 := fun_mk (st := s_check_folds) l2 c2 k2
  have F3 := fun_mk (st := s_are_creases) l3 c3 k3
  have F4 := fun_mk (st := s_level_of) l4 c4 k4
  have F5 := fun_mk (st := s__crease) l5 c5 k5
  have F6 := fun_mk (st := s_halved) l6 c6 k6
  have F7 := fun_mk (st := s_crease_at) l7 c7 k7
  have F8 := fun_mk (st := s__check_row) l8 c8 k8
  have F9 := fun_mk (st := s__are_clashing) l9 c9 k9
  have F10 := fun_mk (st := s_folds_of) l10 c10 k10
  have F11 := fun_mk (st := s_clash_fault) l11 c11 k11
  have F12 := fun_mk (st := s__law_draws) l12 c12 k12
  have F13 := fun_mk (st := s__law_folds) l13 c13 k13
  have F14 := fun_mk (st := s__law_row) l14 c14 k14
  have F15 := fun_mk (st := s__law_level) l15 c15 k15
  have F16 := fun_mk (st := s__law_crease) l16 c16 k16
  have F17 := fun_mk (st := s__law_due) l17 c17 k17
  have F18 := fun_mk (st := s__law_clash) l18 c18 k18
  have F19 := fun_mk (st := s__law_error) l19 c19 k19
  have F20 := fun_mk (st := s__law_are_great) l20 c20 k20
  have F21 := fun_mk (st := s_law) l21 c21 k21
  have b0 := F0.binds (ps := ["value", "least", "most"]) fun _ _ _ _ _ _ us hl => match us, hl with | [_, _, _], _ => rfl
  have b1 := F1.binds (ps := ["count"]) fun _ _ _ _ _ _ us hl => match us, hl with | [_], _ => rfl
  have b2 := F2.binds (ps := ["folds", "most"]) fun _ _ _ _ _ _ us hl => match us, hl with | [_, _], _ => rfl
  have b3 := F3.binds (ps := ["row"]) fun _ _ _ _ _ _ us hl => match us, hl with | [_], _ => rfl
  have b4 := F4.binds (ps := ["number"]) fun _ _ _ _ _ _ us hl => match us, hl with | [_], _ => rfl
  have b5 := F5.binds (ps := ["folds", "number"]) fun _ _ _ _ _ _ us hl => match us, hl with | [_, _], _ => rfl
  have b6 := F6.binds (ps := ["folds"]) fun _ _ _ _ _ _ us hl => match us, hl with | [_], _ => rfl
  have b7 := F7.binds (ps := ["folds", "number"]) fun _ _ _ _ _ _ us hl => match us, hl with | [_, _], _ => rfl
  have b8 := F8.binds (ps := ["row"]) fun _ _ _ _ _ _ us hl => match us, hl with | [_], _ => rfl
  have b9 := F9.binds (ps := ["row", "first", "second"]) fun _ _ _ _ _ _ us hl => match us, hl with | [_, _, _], _ => rfl
  have b10 := F10.binds (ps := ["row"]) fun _ _ _ _ _ _ us hl => match us, hl with | [_], _ => rfl
  have b11 := F11.binds (ps := ["row", "clash"]) fun _ _ _ _ _ _ us hl => match us, hl with | [_, _], _ => rfl
  have b12 := F12.binds (ps := ["script", "many"]) fun _ _ _ _ _ _ us hl => match us, hl with | [_, _], _ => rfl
  have b13 := F13.binds (ps := ["draws", "most"]) fun _ _ _ _ _ _ us hl => match us, hl with | [_, _], _ => rfl
  have b14 := F14.binds (ps := ["folds"]) fun _ _ _ _ _ _ us hl => match us, hl with | [_], _ => rfl
  have b15 := F15.binds (ps := ["number"]) fun _ _ _ _ _ _ us hl => match us, hl with | [_], _ => rfl
  have b16 := F16.binds (ps := ["folds", "number"]) fun _ _ _ _ _ _ us hl => match us, hl with | [_, _], _ => rfl
  have b17 := F17.binds (ps := ["row"]) fun _ _ _ _ _ _ us hl => match us, hl with | [_], _ => rfl
  have b18 := F18.binds (ps := ["row", "clash"]) fun _ _ _ _ _ _ us hl => match us, hl with | [_, _], _ => rfl
  have b19 := F19.binds (ps := ["call", "one", "two"]) fun _ _ _ _ _ _ us hl => match us, hl with | [_, _, _], _ => rfl
  have b20 := F20.binds (ps := ["draws"]) fun _ _ _ _ _ _ us hl => match us, hl with | [_], _ => rfl
  have b21 := F21.binds (ps := ["script"]) fun _ _ _ _ _ _ us hl => match us, hl with | [_], _ => rfl
  refine ⟨PySem.W.fnOf "law" "law" (defArgs s_law) (defBody s_law) (defScope s_law) .none kV21 dc21 pm21 an21 cd21 ct21, fun s v => .of_eq rfl, fun base _ _ => ?_⟩
  have h_is_whole : FnD l.prog w K mg base T 1 "is_whole" 3 D_is_whole := FnD.mk' (PySem.W.mg_of X G a0) F0 b0 (ok_is_whole tx F0)
  have h_two_to : FnD l.prog w K mg base T 1 "two_to" 1 D_two_to := FnD.mk' (PySem.W.mg_of X G a1) F1 b1 (ok_two_to tx F1)
  have h_check_folds : FnD l.prog w K mg base T 1 "check_folds" 2 D_check_folds := FnD.mk' (PySem.W.mg_of X G a2) F2 b2 (ok_check_folds tx F2)
  have h_are_creases : FnD l.prog w K mg base T 1 "are_creases" 1 D_are_creases := FnD.mk' (PySem.W.mg_of X G a3) F3 b3 (ok_are_creases tx F3)
  have h_level_of : FnD l.prog w K mg base T 1 "level_of" 1 D_level_of := FnD.mk' (PySem.W.mg_of X G a4) F4 b4 (ok_level_of tx F4)
  have h__crease : FnD l.prog w K mg base T 2 "_crease" 2 D__crease := FnD.mk' (PySem.W.mg_of X G a5) F5 b5 (ok__crease tx h_level_of F5)
  have h_halved : FnD l.prog w K mg base T 3 "halved" 1 D_halved := FnD.mk' (PySem.W.mg_of X G a6) F6 b6 (ok_halved tx h__crease h_check_folds h_two_to F6)
  have h_crease_at : FnD l.prog w K mg base T 3 "crease_at" 2 D_crease_at := FnD.mk' (PySem.W.mg_of X G a7) F7 b7 (ok_crease_at tx h__crease h_check_folds h_is_whole h_two_to F7)
  have h__check_row : FnD l.prog w K mg base T 2 "_check_row" 1 D__check_row := FnD.mk' (PySem.W.mg_of X G a8) F8 b8 (ok__check_row tx h_are_creases h_level_of h_two_to F8)
  have h__are_clashing : FnD l.prog w K mg base T 2 "_are_clashing" 3 D__are_clashing := FnD.mk' (PySem.W.mg_of X G a9) F9 b9 (ok__are_clashing tx h_level_of F9)
  have h_folds_of : FnD l.prog w K mg base T 3 "folds_of" 1 D_folds_of := FnD.mk' (PySem.W.mg_of X G a10) F10 b10 (ok_folds_of tx h__are_clashing h__check_row h_level_of h_two_to F10)
  have h_clash_fault : FnD l.prog w K mg base T 3 "clash_fault" 2 D_clash_fault := FnD.mk' (PySem.W.mg_of X G a11) F11 b11 (ok_clash_fault tx h__are_clashing h__check_row h_is_whole h_level_of F11)
  have h__law_draws : FnD l.prog w K mg base T 1 "_law_draws" 2 D__law_draws := FnD.mk' (PySem.W.mg_of X G a12) F12 b12 (ok__law_draws tx F12)
  have h__law_folds : FnD l.prog w K mg base T 1 "_law_folds" 2 D__law_folds := FnD.mk' (PySem.W.mg_of X G a13) F13 b13 (ok__law_folds tx F13)
  have h__law_row : FnD l.prog w K mg base T 1 "_law_row" 1 D__law_row := FnD.mk' (PySem.W.mg_of X G a14) F14 b14 (ok__law_row tx F14)
  have h__law_level : FnD l.prog w K mg base T 1 "_law_level" 1 D__law_level := FnD.mk' (PySem.W.mg_of X G a15) F15 b15 (ok__law_level tx F15)
  have h__law_crease : FnD l.prog w K mg base T 2 "_law_crease" 2 D__law_crease := FnD.mk' (PySem.W.mg_of X G a16) F16 b16 (ok__law_crease tx h__law_level F16)
  have h__law_due : FnD l.prog w K mg base T 2 "_law_due" 1 D__law_due := FnD.mk' (PySem.W.mg_of X G a17) F17 b17 (ok__law_due tx h__law_level F17)
  have h__law_clash : FnD l.prog w K mg base T 2 "_law_clash" 2 D__law_clash := FnD.mk' (PySem.W.mg_of X G a18) F18 b18 (ok__law_clash tx h__law_level F18)
  have h__law_error : FnD l.prog w K mg base T 4 "_law_error" 3 D__law_error := FnD.mk' (PySem.W.mg_of X G a19) F19 b19 (ok__law_error tx h_clash_fault h_crease_at h_folds_of h_halved h_level_of F19)
  have h__law_are_great : FnD l.prog w K mg base T 5 "_law_are_great" 1 D__law_are_great := FnD.mk' (PySem.W.mg_of X G a20) F20 b20 (ok__law_are_great tx h__law_crease h__law_error h__law_level h_crease_at h_level_of F20)
  exact law_imp (ok_law tx h__law_are_great h__law_clash h__law_draws h__law_due h__law_error h__law_folds h__law_row h_clash_fault h_crease_at h_folds_of h_halved F21) law_true
end Lw
open PySem PySem.W PyProof.Rows
set_option maxRecDepth 100000 in
set_option maxHeartbeats 0 in
theorem PySem.Challenge.cw_creasewrit_k54_rows_of_halves_holds : PySem.Challenge.rw_creasewrit_k54_rows_of_halves.Holds := by
  w_on; o_law; k_head; (case hw => w_witness2)
  k_fill
  refine Dl.walk_law (l := PySem.Challenge.rw_creasewrit_k54_rows_of_halves) (k := 6) rfl rfl ⟨rfl, by decide, by decide⟩ (fun w h Y => PySem.W.kIn_of Y) ?F
  case F =>
    intro w mg fa h KX G hmg
    refine' Lw.all_mk Lw.law_true KX G hmg ?a0 ?l0 ?c0 ?k0 ?a1 ?l1 ?c1 ?k1 ?a2 ?l2 ?c2 ?k2 ?a3 ?l3 ?c3 ?k3 ?a4 ?l4 ?c4 ?k4 ?a5 ?l5 ?c5 ?k5 ?a6 ?l6 ?c6 ?k6 ?a7 ?l7 ?c7 ?k7 ?a8 ?l8 ?c8 ?k8 ?a9 ?l9 ?c9 ?k9 ?a10 ?l10 ?c10 ?k10 ?a11 ?l11 ?c11 ?k11 ?a12 ?l12 ?c12 ?k12 ?a13 ?l13 ?c13 ?k13 ?a14 ?l14 ?c14 ?k14 ?a15 ?l15 ?c15 ?k15 ?a16 ?l16 ?c16 ?k16 ?a17 ?l17 ?c17 ?k17 ?a18 ?l18 ?c18 ?k18 ?a19 ?l19 ?c19 ?k19 ?a20 ?l20 ?c20 ?k20 ?a21 ?l21 ?c21 ?k21 ?ea_BadPlace ?ek_BadPlace ?ex_BadPlace ?eb_BadPlace ?et_BadPlace ?ea_BadFolds ?ek_BadFolds ?ex_BadFolds ?eb_BadFolds ?et_BadFolds ?ea_BadRow ?ek_BadRow ?ex_BadRow ?eb_BadRow ?et_BadRow ?ed_BadFolds ?es_BadPlace_BadFolds ?es_BadFolds_BadFolds ?es_BadRow_BadFolds ?ed_BadPlace ?es_BadPlace_BadPlace ?es_BadFolds_BadPlace ?es_BadRow_BadPlace ?ed_BadRow ?es_BadPlace_BadRow ?es_BadFolds_BadRow ?es_BadRow_BadRow ?z_abs ?z_all ?z_bool ?z_int ?z_isinstance ?z_len ?z_list ?z_range ?z_str ?z_tuple ?g_MOUNTAIN ?g_VALLEY ?g_OVER ?g_UNDER ?g_MOST_FOLDS ?g_MOST_WHOLE ?da_OTHERS ?dl_OTHERS ?dk_OTHERS ?dv_OTHERS_0 ?dv_OTHERS_1 ?dv_OTHERS_2
    (case a0 => k_is)
    (case l0 => k_is)
    (case c0 => k_is)
    (case k0 => k_is)
    (case a1 => k_is)
    (case l1 => k_is)
    (case c1 => k_is)
    (case k1 => k_is)
    (case a2 => k_is)
    (case l2 => k_is)
    (case c2 => k_is)
    (case k2 => k_is)
    (case a3 => k_is)
    (case l3 => k_is)
    (case c3 => k_is)
    (case k3 => k_is)
    (case a4 => k_is)
    (case l4 => k_is)
    (case c4 => k_is)
    (case k4 => k_is)
    (case a5 => k_is)
    (case l5 => k_is)
    (case c5 => k_is)
    (case k5 => k_is)
    (case a6 => k_is)
    (case l6 => k_is)
    (case c6 => k_is)
    (case k6 => k_is)
    (case a7 => k_is)
    (case l7 => k_is)
    (case c7 => k_is)
    (case k7 => k_is)
    (case a8 => k_is)
    (case l8 => k_is)
    (case c8 => k_is)
    (case k8 => k_is)
    (case a9 => k_is)
    (case l9 => k_is)
    (case c9 => k_is)
    (case k9 => k_is)
    (case a10 => k_is)
    (case l10 => k_is)
    (case c10 => k_is)
    (case k10 => k_is)
    (case a11 => k_is)
    (case l11 => k_is)
    (case c11 => k_is)
    (case k11 => k_is)
    (case a12 => k_is)
    (case l12 => k_is)
    (case c12 => k_is)
    (case k12 => k_is)
    (case a13 => k_is)
    (case l13 => k_is)
    (case c13 => k_is)
    (case k13 => k_is)
    (case a14 => k_is)
    (case l14 => k_is)
    (case c14 => k_is)
    (case k14 => k_is)
    (case a15 => k_is)
    (case l15 => k_is)
    (case c15 => k_is)
    (case k15 => k_is)
    (case a16 => k_is)
    (case l16 => k_is)
    (case c16 => k_is)
    (case k16 => k_is)
    (case a17 => k_is)
    (case l17 => k_is)
    (case c17 => k_is)
    (case k17 => k_is)
    (case a18 => k_is)
    (case l18 => k_is)
    (case c18 => k_is)
    (case k18 => k_is)
    (case a19 => k_is)
    (case l19 => k_is)
    (case c19 => k_is)
    (case k19 => k_is)
    (case a20 => k_is)
    (case l20 => k_is)
    (case c20 => k_is)
    (case k20 => k_is)
    (case a21 => k_is)
    (case l21 => k_is)
    (case c21 => k_is)
    (case k21 => k_is)
    (case ea_BadPlace => k_is)
    (case ek_BadPlace => k_is)
    (case ex_BadPlace => k_exc)
    (case eb_BadPlace => k_is)
    (case et_BadPlace => k_is)
    (case ea_BadFolds => k_is)
    (case ek_BadFolds => k_is)
    (case ex_BadFolds => k_exc)
    (case eb_BadFolds => k_is)
    (case et_BadFolds => k_is)
    (case ea_BadRow => k_is)
    (case ek_BadRow => k_is)
    (case ex_BadRow => k_exc)
    (case eb_BadRow => k_is)
    (case et_BadRow => k_is)
    (case ed_BadFolds => k_is)
    (case es_BadPlace_BadFolds => first | rfl | k_is)
    (case es_BadFolds_BadFolds => first | rfl | k_is)
    (case es_BadRow_BadFolds => first | rfl | k_is)
    (case ed_BadPlace => k_is)
    (case es_BadPlace_BadPlace => first | rfl | k_is)
    (case es_BadFolds_BadPlace => first | rfl | k_is)
    (case es_BadRow_BadPlace => first | rfl | k_is)
    (case ed_BadRow => k_is)
    (case es_BadPlace_BadRow => first | rfl | k_is)
    (case es_BadFolds_BadRow => first | rfl | k_is)
    (case es_BadRow_BadRow => first | rfl | k_is)
    (case z_abs => k_is)
    (case z_all => k_is)
    (case z_bool => k_is)
    (case z_int => k_is)
    (case z_isinstance => k_is)
    (case z_len => k_is)
    (case z_list => k_is)
    (case z_range => k_is)
    (case z_str => k_is)
    (case z_tuple => k_is)
    (case g_MOUNTAIN => k_is)
    (case g_VALLEY => k_is)
    (case g_OVER => k_is)
    (case g_UNDER => k_is)
    (case g_MOST_FOLDS => k_is)
    (case g_MOST_WHOLE => k_is)
    (case da_OTHERS => k_is)
    (case dl_OTHERS => k_is)
    (case dk_OTHERS => exact ⟨⟨_, _, rfl, rfl⟩, ⟨⟨_, _, rfl, rfl⟩, ⟨⟨_, _, rfl, rfl⟩, trivial⟩⟩⟩)
    (case dv_OTHERS_0 => k_is)
    (case dv_OTHERS_1 => k_is)
    (case dv_OTHERS_2 => k_is)
#print axioms PySem.Challenge.cw_creasewrit_k54_rows_of_halves_holds
