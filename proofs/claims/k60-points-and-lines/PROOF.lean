import PyProof.Rows.All
import Wide.All
import OpenK.AllK
import Wide.FinOn
import HandS.ForMost
import HandS.Exc
import HandS.TryOnly
import HandS.ExcOwn
import HandS.WordsExc
import HandS.Walk
import HandS.Wide
import HandS.TupAny
import HandS.TupMul
import HandS.TupLe
import HandS.Flow
import HandS.Deep
import HandS.IsInst
import HandS.Style
import HandS.Conv
import HandS.SortInts
import HandS.CallSlots
import HandS.Codes
import HandS.WideMore
import HandS.More
import HandS.TryMany
import HandS.Replace
import HandS.Text
import HandS.ExcIs
import PySem.Challenge.RW_creasewrit_k60_points_and_lines
set_option Elab.async false
set_option linter.all false
set_option maxRecDepth 100000
set_option maxHeartbeats 4000000
/-! The D layer, part 1: pure data, how values bear it, environments, judgements. -/
namespace Dl
open PySem PySem.Spec PyProof.Rows L2

/-! ### data -/
inductive Dat where
  | non | bl (b : Bool) | int (i : Int) | str (s : Str)
  | tup (l : List Dat) | lst (l : List Dat) | frz (l : List Dat) | obj (c : Nat) (l : List Dat)
inductive Res (α : Type) where
  | ok (a : α) | exc (c : Nat) | stuck
def Res.bind {α β : Type} : Res α → (α → Res β) → Res β
  | .ok a, k => k a
  | .exc c, _ => .exc c
  | .stuck, _ => .stuck
def ofO {α : Type} : Option α → Res α
  | some a => .ok a
  | none => .stuck
abbrev Sg := L2.St
abbrev DEnv := List (Option Dat)
/-- classes of objects, their attributes in order; classes of exceptions -/
structure CT where
  addr : Nat → Addr
  names : Nat → List Str
  exc : Nat → Value

/-! ### heaps -/
def Ex (H H' : Hp) : Prop := ∀ a o, H a = some o → H' a = some o
theorem Ex.refl (H : Hp) : Ex H H := fun _ _ h => h
theorem Ex.trans {H H1 H2 : Hp} (a : Ex H H1) (b : Ex H1 H2) : Ex H H2 := fun x o h => b x o (a x o h)
theorem Ex.new {H : Hp} {p : Addr} {o : HO} (h : H p = none) : Ex H (upd H p o) := fun a u e => by
  rw [upd_ne (ne_of_none e h)]
  exact e
theorem Ex.fresh {H H' : Hp} {p : Addr} (e : Ex H H') (h : H' p = none) : H p = none := by
  cases h1 : H p with
  | none => rfl
  | some o =>
    rw [e p o h1] at h
    cases h
def hide (H : Hp) (S : List Addr) : Hp := fun a => if a ∈ S then none else H a
theorem hide_ex {H : Hp} {S : List Addr} : Ex (hide H S) H := fun a o h => by
  unfold hide at h
  split at h
  · cases h
  · exact h
theorem hide_get {H : Hp} {S : List Addr} {a : Addr} {o : HO} (h : H a = some o) (n : a ∉ S) : hide H S a = some o := by
  unfold hide
  rw [if_neg n]
  exact h
theorem hide_mono {H H' : Hp} {S : List Addr} (e : Ex H H') : Ex (hide H S) (hide H' S) := fun a o h => by
  unfold hide at h ⊢
  split at h
  · cases h
  · rename_i n
    rw [if_neg n]
    exact e a o h
theorem hide_sub {H : Hp} {S S' : List Addr} (h : ∀ p ∈ S, p ∈ S') : Ex (hide H S') (hide H S) := fun a o e => by
  unfold hide at e ⊢
  split at e
  · cases e
  · rename_i n
    rw [if_neg fun z => n (h a z)]
    exact e
theorem hide_upd {H : Hp} {S : List Addr} {p : Addr} {o : HO} (h : p ∈ S) : hide (upd H p o) S = hide H S := by
  funext a
  unfold hide
  by_cases z : a ∈ S
  · rw [if_pos z, if_pos z]
  · rw [if_neg z, if_neg z, upd_ne fun e => z (by rw [e]; exact h)]
/-- one more is hidden that was not there -/
theorem hide_new {H H' : Hp} {S : List Addr} {p : Addr} (e : Ex H H') (h : H p = none) : Ex (hide H S) (hide H' (p :: S)) := fun a o q => by
  have n : a ∉ S := fun z => by
    unfold hide at q
    rw [if_pos z] at q
    cases q
  have q' := hide_ex a o q
  refine hide_get (e a o q') ?_
  intro z
  rcases List.mem_cons.mp z with z | z
  · exact ne_of_none q' h z
  · exact n z
theorem ex_rd {H H' : Hp} {a : Addr} {u : HO} (e : Ex H H') (h : Rd H a u) : Rd H' a u := by
  rcases h with h | ⟨o, h⟩
  · exact Or.inl (e a _ h)
  · exact Or.inr ⟨o, e a _ h⟩
theorem ex_l {K : PySem.W.Frag} {H H' : Hp} {a : Addr} {xs : List V} (e : Ex H H') (h : SqL K H a xs) : SqL K H' a xs := by
  rcases h with h | h
  · exact Or.inl (ex_rd e h)
  · exact Or.inr h
theorem ex_t {K : PySem.W.Frag} {H H' : Hp} {a : Addr} {xs : List V} (e : Ex H H') (h : SqT K H a xs) : SqT K H' a xs := by
  rcases h with h | h
  · exact Or.inl (ex_rd e h)
  · exact Or.inr h

/-! ### values that bear data -/
mutual
inductive Rep (K : PySem.W.Frag) (T : CT) (H : Hp) : V → Dat → Prop
  | non : Rep K T H .non .non
  | bl (b : Bool) : Rep K T H (.bl b) (.bl b)
  | int (i : Int) : Rep K T H (.int i) (.int i)
  | str (x : Str) : Rep K T H (.str x) (.str x)
  | tup {a : Addr} {vs : List V} {ds : List Dat} : SqT K H a vs → Reps K T H vs ds → Rep K T H (.ref a) (.tup ds)
  | lst {a : Addr} {vs : List V} {ds : List Dat} : H a = some (.lst vs) → Reps K T H vs ds → Rep K T H (.ref a) (.lst ds)
  | frz {a : Addr} {vs : List V} {ds : List Dat} : SqL K H a vs → Reps K T H vs ds → Rep K T H (.ref a) (.frz ds)
  | obj {a dx : Addr} {c : Nat} {fs : List (Str × V)} {ds : List Dat} : H a = some (.ins (T.addr c) dx fs) → fs.map (·.1) = T.names c → Reps K T H (fs.map (·.2)) ds → Rep K T H (.ref a) (.obj c ds)
inductive Reps (K : PySem.W.Frag) (T : CT) (H : Hp) : List V → List Dat → Prop
  | nil : Reps K T H [] []
  | cons {v : V} {vs : List V} {d : Dat} {ds : List Dat} : Rep K T H v d → Reps K T H vs ds → Reps K T H (v :: vs) (d :: ds)
end
section
variable {K : PySem.W.Frag} {T : CT} {H H' : Hp}
mutual
theorem Rep.mono (e : Ex H H') : ∀ {v : V} {d : Dat}, Rep K T H v d → Rep K T H' v d
  | _, _, .non => .non
  | _, _, .bl b => .bl b
  | _, _, .int i => .int i
  | _, _, .str x => .str x
  | _, _, .tup h r => .tup (ex_t e h) (Reps.mono e r)
  | _, _, .lst h r => .lst (e _ _ h) (Reps.mono e r)
  | _, _, .frz h r => .frz (ex_l e h) (Reps.mono e r)
  | _, _, .obj h n r => .obj (e _ _ h) n (Reps.mono e r)
theorem Reps.mono (e : Ex H H') : ∀ {vs : List V} {ds : List Dat}, Reps K T H vs ds → Reps K T H' vs ds
  | _, _, .nil => .nil
  | _, _, .cons h r => .cons (Rep.mono e h) (Reps.mono e r)
end
theorem Reps.length : ∀ {vs : List V} {ds : List Dat}, Reps K T H vs ds → vs.length = ds.length
  | _, _, .nil => rfl
  | _, _, .cons _ r => by simp [Reps.length r]
theorem Reps.get : ∀ {vs : List V} {ds : List Dat} {i : Nat} {d : Dat}, Reps K T H vs ds → ds[i]? = some d → ∃ v, vs[i]? = some v ∧ Rep K T H v d
  | _, _, _, _, .nil, e => by simp at e
  | _, _, 0, _, .cons h _, e => by
    simp at e
    subst e
    exact ⟨_, rfl, h⟩
  | _, _, i + 1, _, .cons _ r, e => by
    obtain ⟨v, h1, h2⟩ := Reps.get (i := i) r (by simpa using e)
    exact ⟨v, by simpa using h1, h2⟩
theorem Reps.getV : ∀ {vs : List V} {ds : List Dat} {i : Nat} {v : V}, Reps K T H vs ds → vs[i]? = some v → ∃ d, ds[i]? = some d ∧ Rep K T H v d
  | _, _, _, _, .nil, e => by simp at e
  | _, _, 0, _, .cons h _, e => by
    simp at e
    subst e
    exact ⟨_, rfl, h⟩
  | _, _, i + 1, _, .cons _ r, e => by
    obtain ⟨v, h1, h2⟩ := Reps.getV (i := i) r (by simpa using e)
    exact ⟨v, by simpa using h1, h2⟩
theorem Reps.append : ∀ {vs ws : List V} {ds es : List Dat}, Reps K T H vs ds → Reps K T H ws es → Reps K T H (vs ++ ws) (ds ++ es)
  | _, _, _, _, .nil, s => s
  | _, _, _, _, .cons h r, s => .cons h (Reps.append r s)
theorem Reps.take : ∀ {vs : List V} {ds : List Dat} (n : Nat), Reps K T H vs ds → Reps K T H (vs.take n) (ds.take n)
  | _, _, 0, _ => .nil
  | _, _, _ + 1, .nil => .nil
  | _, _, n + 1, .cons h r => .cons h (Reps.take n r)
theorem Reps.drop : ∀ {vs : List V} {ds : List Dat} (n : Nat), Reps K T H vs ds → Reps K T H (vs.drop n) (ds.drop n)
  | _, _, 0, r => r
  | _, _, _ + 1, .nil => .nil
  | _, _, n + 1, .cons _ r => Reps.drop n r
theorem Reps.set {v : V} {d : Dat} (h : Rep K T H v d) : ∀ {vs : List V} {ds : List Dat} (i : Nat), Reps K T H vs ds → Reps K T H (vs.set i v) (ds.set i d)
  | _, _, _, .nil => .nil
  | _, _, 0, .cons _ r => .cons h r
  | _, _, i + 1, .cons q r => .cons q (Reps.set h i r)
theorem Reps.reverse : ∀ {vs : List V} {ds : List Dat}, Reps K T H vs ds → Reps K T H vs.reverse ds.reverse
  | _, _, .nil => .nil
  | _, _, .cons h r => by
    rw [List.reverse_cons, List.reverse_cons]
    exact Reps.append (Reps.reverse r) (.cons h .nil)
theorem Reps.flatten_replicate {vs : List V} {ds : List Dat} (r : Reps K T H vs ds) : ∀ n : Nat, Reps K T H (List.replicate n vs).flatten (List.replicate n ds).flatten
  | 0 => .nil
  | n + 1 => by
    rw [List.replicate_succ, List.replicate_succ, List.flatten_cons, List.flatten_cons]
    exact Reps.append r (Reps.flatten_replicate r n)
theorem Reps.one {v : V} {d : Dat} (h : Rep K T H v d) : Reps K T H [v] [d] := .cons h .nil

/-! ### what may change: hidden -/
def mutO : HO → Bool
  | .lst _ => true
  | .ins _ _ _ => true
  | .dK _ => true
  | .dT _ => true
  | .set _ _ => true
  | _ => false
def Hid (H : Hp) (S : List Addr) : Prop := ∀ p ∈ S, ∃ o, H p = some o ∧ mutO o = true
theorem Hid.mono {S : List Addr} (h : Hid H S) (e : Ex H H') : Hid H' S := fun p hp => let ⟨o, a, b⟩ := h p hp; ⟨o, e p o a, b⟩
theorem Hid.not {S : List Addr} {p : Addr} (h : Hid H S) (n : H p = none) : p ∉ S := fun z => by
  obtain ⟨o, a, _⟩ := h p z
  rw [n] at a
  cases a
theorem Hid.notTup {S : List Addr} {p : Addr} {xs : List V} (h : Hid H S) (n : Rd H p (.tup xs)) : p ∉ S := fun z => by
  obtain ⟨o, a, b⟩ := h p z
  rcases n with n | ⟨q, n⟩
  · rw [n] at a
    cases a
    cases b
  · rw [n] at a
    cases a
    cases b
theorem rep_newL {S : List Addr} {p : Addr} {vs : List V} {ds : List Dat} (m : Hid H S) (n : H p = none) (r : Reps K T (hide H S) vs ds) : Rep K T (hide (upd H p (.lst vs)) S) (.ref p) (.lst ds) :=
  .lst (hide_get upd_same (m.not n)) (r.mono (hide_mono (Ex.new n)))
theorem rep_newT {S : List Addr} {p : Addr} {vs : List V} {ds : List Dat} (m : Hid H S) (n : H p = none) (r : Reps K T (hide H S) vs ds) : Rep K T (hide (upd H p (.tup vs)) S) (.ref p) (.tup ds) :=
  .tup (.inl (.inl (hide_get upd_same (m.not n)))) (r.mono (hide_mono (Ex.new n)))
/-- data without lists and objects: what is hidden does not touch it -/
def flat : Dat → Bool
  | .lst _ => false
  | .frz _ => false
  | .obj _ _ => false
  | .tup l => flats l
  | _ => true
where flats : List Dat → Bool
  | [] => true
  | d :: r => flat d && flats r
mutual
theorem Rep.bare {S : List Addr} (m : Hid H S) : ∀ {v : V} {d : Dat}, flat d = true → Rep K T H v d → Rep K T (hide H S) v d
  | _, _, _, .non => .non
  | _, _, _, .bl b => .bl b
  | _, _, _, .int i => .int i
  | _, _, _, .str x => .str x
  | _, .tup ds, f, .tup h r => by
    have f' : flat.flats ds = true := by simpa [flat] using f
    refine .tup ?_ (Reps.bare m f' r)
    rcases h with h | h
    · have z := m.notTup h
      rcases h with h | ⟨o, h⟩
      · exact .inl (.inl (hide_get h z))
      · exact .inl (.inr ⟨o, hide_get h z⟩)
    · exact .inr h
  | _, _, f, .lst _ _ => by simp [flat] at f
  | _, _, f, .frz _ _ => by simp [flat] at f
  | _, _, f, .obj _ _ _ => by simp [flat] at f
theorem Reps.bare {S : List Addr} (m : Hid H S) : ∀ {vs : List V} {ds : List Dat}, flat.flats ds = true → Reps K T H vs ds → Reps K T (hide H S) vs ds
  | _, _, _, .nil => .nil
  | _, d :: ds, f, .cons h r => by
    have f' : flat d = true ∧ flat.flats ds = true := by simpa [flat.flats] using f
    exact .cons (Rep.bare m f'.1 h) (Reps.bare m f'.2 r)
end
end

/-! ### environments -/
structure RE (K : PySem.W.Frag) (T : CT) (ow : List Nat) (σ : Sg) (ρ : DEnv) (H : Hp) (S : List Addr) : Prop where
  mt : Hid H S
  len : σ.length = ρ.length
  fro : ∀ (i : Nat) (d : Dat), i ∉ ow → ρ[i]? = some (some d) → ∃ v, σ[i]? = some (some v) ∧ Rep K T (hide H S) v d
  own : ∀ (i : Nat) (d : Dat), i ∈ ow → ρ[i]? = some (some d) → ∃ (p : Addr) (vs : List V) (ds : List Dat), σ[i]? = some (some (.ref p)) ∧ d = .lst ds ∧ p ∈ S ∧ H p = some (.lst vs) ∧ Reps K T (hide H S) vs ds
  inj : ∀ (i j : Nat) (d e : Dat) (p : Addr), i ∈ ow → j ∈ ow → ρ[i]? = some (some d) → ρ[j]? = some (some e) → σ[i]? = some (some (.ref p)) → σ[j]? = some (some (.ref p)) → i = j
section
variable {K : PySem.W.Frag} {T : CT} {H H' : Hp} {ow : List Nat} {σ : Sg} {ρ : DEnv} {S : List Addr}
theorem RE.mono (r : RE K T ow σ ρ H S) (e : Ex H H') : RE K T ow σ ρ H' S :=
  ⟨r.mt.mono e, r.len, fun i d hi hd => let ⟨v, a, b⟩ := r.fro i d hi hd; ⟨v, a, b.mono (hide_mono e)⟩,
    fun i d hi hd => let ⟨p, vs, ds, a, b, c, x, y⟩ := r.own i d hi hd; ⟨p, vs, ds, a, b, c, e p _ x, y.mono (hide_mono e)⟩, r.inj⟩

/-! ### what is wanted behind an expression -/
def Want (K : PySem.W.Frag) (T : CT) (W : WX) (σ : Sg) (H : Hp) (S : List Addr) : Res Dat → VK → Prop
  | .ok d, Q => ∀ v H', Ex H H' → Rep K T (hide H' S) v d → Q v H'
  | .exc c, _ => ∀ H', Ex H H' → W (T.exc c) none σ H'
  | .stuck, _ => False
def WantB (T : CT) (W : WX) (σ : Sg) (H : Hp) : Res Bool → (Bool → Hp → Prop) → Prop
  | .ok d, Q => ∀ H', Ex H H' → Q d H'
  | .exc c, _ => ∀ H', Ex H H' → W (T.exc c) none σ H'
  | .stuck, _ => False
def WantA (K : PySem.W.Frag) (T : CT) (W : WX) (σ : Sg) (H : Hp) (S : List Addr) : Res (List Dat) → (List V → Hp → Prop) → Prop
  | .ok ds, Q => ∀ vs H', Ex H H' → Reps K T (hide H' S) vs ds → Q vs H'
  | .exc c, _ => ∀ H', Ex H H' → W (T.exc c) none σ H'
  | .stuck, _ => False
/-- a new list -/
def WantF (K : PySem.W.Frag) (T : CT) (W : WX) (σ : Sg) (H : Hp) (S : List Addr) : Res (List Dat) → VK → Prop
  | .ok ds, Q => ∀ p vs H', Ex H H' → H p = none → H' p = some (.lst vs) → Reps K T (hide H' (p :: S)) vs ds → Q (.ref p) H'
  | .exc c, _ => ∀ H', Ex H H' → W (T.exc c) none σ H'
  | .stuck, _ => False
def tD (K : PySem.W.Frag) (T : CT) (W : WX) (ow : List Nat) (f : DEnv → Res Dat) : TE := fun σ H Q => ∃ ρ S, RE K T ow σ ρ H S ∧ Want K T W σ H S (f ρ) Q
def tDF (K : PySem.W.Frag) (T : CT) (W : WX) (ow : List Nat) (f : DEnv → Res (List Dat)) : TE := fun σ H Q => ∃ ρ S, RE K T ow σ ρ H S ∧ WantF K T W σ H S (f ρ) Q
def tDB (K : PySem.W.Frag) (T : CT) (W : WX) (ow : List Nat) (f : DEnv → Res Bool) : TT := fun σ H Q => ∃ ρ S, RE K T ow σ ρ H S ∧ WantB T W σ H (f ρ) Q
def tDA (K : PySem.W.Frag) (T : CT) (W : WX) (ow : List Nat) (f : DEnv → Res (List Dat)) : TA := fun σ H Q => ∃ ρ S, RE K T ow σ ρ H S ∧ WantA K T W σ H S (f ρ) Q
end
def DE (X : Cx) (T : CT) (W : WX) (ow : List Nat) (e : Expr) (f : DEnv → Res Dat) : Prop := PE X e (tD X.K T W ow f)
def DF (X : Cx) (T : CT) (W : WX) (ow : List Nat) (e : Expr) (f : DEnv → Res (List Dat)) : Prop := PE X e (tDF X.K T W ow f)
def DT (X : Cx) (T : CT) (W : WX) (ow : List Nat) (e : Expr) (f : DEnv → Res Bool) : Prop := PT X e (tDB X.K T W ow f)
def DA (X : Cx) (T : CT) (W : WX) (ow : List Nat) (es : List Expr) (f : DEnv → Res (List Dat)) : Prop := PA X es (tDA X.K T W ow f)

section
variable {X : Cx} {T : CT} {W : WX} {ow : List Nat} {e a b : Expr} {es : List Expr} {pos : Pos}
theorem pe_imp {t t' : TE} (h : PE X e t) (i : ∀ σ H Q, t' σ H Q → t σ H Q) : PE X e t' := ⟨fun pins s σ H Q I q => h.run pins s σ H Q I (i σ H Q q)⟩
theorem pt_imp {t t' : TT} (h : PT X e t) (i : ∀ σ H Q, t' σ H Q → t σ H Q) : PT X e t' := ⟨fun pins s σ H Q I q => h.run pins s σ H Q I (i σ H Q q)⟩
theorem pw_imp {t t' : TT} (h : PW X e t) (i : ∀ σ H Q, t' σ H Q → t σ H Q) : PW X e t' := ⟨fun wh pins s σ H Q I q => h.run wh pins s σ H Q I (i σ H Q q)⟩
theorem pa_imp {t t' : TA} (h : PA X es t) (i : ∀ σ H Q, t' σ H Q → t σ H Q) : PA X es t' := ⟨fun pos pins s σ H Q I q => h.run pos pins s σ H Q I (i σ H Q q)⟩
theorem ps_imp {st : Stmt} {t t' : TS} (h : PS X st t) (i : ∀ D σ H, t' D σ H → t D σ H) : PS X st t' := ⟨fun pins s σ H D I q => h.run pins s σ H D I (i D σ H q)⟩
theorem pss_imp {st : List Stmt} {t t' : TS} (h : PSs X st t) (i : ∀ D σ H, t' D σ H → t D σ H) : PSs X st t' := ⟨fun pins s σ H D I q => h.run pins s σ H D I (i D σ H q)⟩
end

section
variable {K : PySem.W.Frag} {T : CT} {W : WX} {H : Hp} {ow : List Nat} {σ : Sg} {ρ : DEnv} {S : List Addr}
/-- the first part of a bind, then the rest -/
theorem tD_bind {α : Type} {fa : DEnv → Res Dat} {k : Dat → Res α} {P : Hp → Res α → Prop} {R : VK} (re : RE K T ow σ ρ H S) (w : P H ((fa ρ).bind k)) (hx : ∀ c, P H (.exc c) → ∀ H', Ex H H' → W (T.exc c) none σ H') (hs : ¬ P H .stuck)
    (hk : ∀ v d H1, P H (k d) → Ex H H1 → Rep K T (hide H1 S) v d → R v H1) : tD K T W ow fa σ H R := by
  refine ⟨ρ, S, re, ?_⟩
  cases q : fa ρ with
  | ok d =>
    rw [q] at w
    exact fun v H' e r => hk v d H' w e r
  | exc c =>
    rw [q] at w
    exact hx c w
  | stuck =>
    rw [q] at w
    exact absurd w hs
theorem Want.mono {r : Res Dat} {Q : VK} {H' : Hp} (w : Want K T W σ H S r Q) (e : Ex H H') : Want K T W σ H' S r Q := by
  cases r with
  | ok d => exact fun v H2 e2 q => w v H2 (e.trans e2) q
  | exc c => exact fun H2 e2 => w H2 (e.trans e2)
  | stuck => exact w
theorem WantB.mono {r : Res Bool} {Q : Bool → Hp → Prop} {H' : Hp} (w : WantB T W σ H r Q) (e : Ex H H') : WantB T W σ H' r Q := by
  cases r with
  | ok d => exact fun H2 e2 => w H2 (e.trans e2)
  | exc c => exact fun H2 e2 => w H2 (e.trans e2)
  | stuck => exact w
theorem WantA.mono {r : Res (List Dat)} {Q : List V → Hp → Prop} {H' : Hp} (w : WantA K T W σ H S r Q) (e : Ex H H') : WantA K T W σ H' S r Q := by
  cases r with
  | ok d => exact fun v H2 e2 q => w v H2 (e.trans e2) q
  | exc c => exact fun H2 e2 => w H2 (e.trans e2)
  | stuck => exact w
theorem WantF.mono {r : Res (List Dat)} {Q : VK} {H' : Hp} (w : WantF K T W σ H S r Q) (e : Ex H H') : WantF K T W σ H' S r Q := by
  cases r with
  | ok d => exact fun p v H2 e2 n h q => w p v H2 (e.trans e2) (e.fresh n) h q
  | exc c => exact fun H2 e2 => w H2 (e.trans e2)
  | stuck => exact w
/-- the parts of an expression, one after the other -/
theorem Want.part {fa : DEnv → Res Dat} {k : Dat → Res Dat} {Q R : VK} (re : RE K T ow σ ρ H S) (w : Want K T W σ H S ((fa ρ).bind k) Q)
    (hk : ∀ v d H1, Want K T W σ H1 S (k d) Q → RE K T ow σ ρ H1 S → Ex H H1 → Rep K T (hide H1 S) v d → R v H1) : tD K T W ow fa σ H R :=
  tD_bind (P := fun H r => Want K T W σ H S r Q) re w (fun _ w => w) (fun w => w) fun v d H1 w e r => hk v d H1 (w.mono e) (re.mono e) e r
theorem WantB.part {fa : DEnv → Res Dat} {k : Dat → Res Bool} {Q : Bool → Hp → Prop} {R : VK} (re : RE K T ow σ ρ H S) (w : WantB T W σ H ((fa ρ).bind k) Q)
    (hk : ∀ v d H1, WantB T W σ H1 (k d) Q → RE K T ow σ ρ H1 S → Ex H H1 → Rep K T (hide H1 S) v d → R v H1) : tD K T W ow fa σ H R :=
  tD_bind (P := fun H r => WantB T W σ H r Q) re w (fun _ w => w) (fun w => w) fun v d H1 w e r => hk v d H1 (w.mono e) (re.mono e) e r
theorem WantA.part {fa : DEnv → Res Dat} {k : Dat → Res (List Dat)} {Q : List V → Hp → Prop} {R : VK} (re : RE K T ow σ ρ H S) (w : WantA K T W σ H S ((fa ρ).bind k) Q)
    (hk : ∀ v d H1, WantA K T W σ H1 S (k d) Q → RE K T ow σ ρ H1 S → Ex H H1 → Rep K T (hide H1 S) v d → R v H1) : tD K T W ow fa σ H R :=
  tD_bind (P := fun H r => WantA K T W σ H S r Q) re w (fun _ w => w) (fun w => w) fun v d H1 w e r => hk v d H1 (w.mono e) (re.mono e) e r
theorem WantF.part {fa : DEnv → Res Dat} {k : Dat → Res (List Dat)} {Q R : VK} (re : RE K T ow σ ρ H S) (w : WantF K T W σ H S ((fa ρ).bind k) Q)
    (hk : ∀ v d H1, WantF K T W σ H1 S (k d) Q → RE K T ow σ ρ H1 S → Ex H H1 → Rep K T (hide H1 S) v d → R v H1) : tD K T W ow fa σ H R :=
  tD_bind (P := fun H r => WantF K T W σ H S r Q) re w (fun _ w => w) (fun w => w) fun v d H1 w e r => hk v d H1 (w.mono e) (re.mono e) e r
/-- a test first -/
theorem Want.partB {fa : DEnv → Res Bool} {k : Bool → Res Dat} {Q : VK} {R : Bool → Hp → Prop} (re : RE K T ow σ ρ H S) (w : Want K T W σ H S ((fa ρ).bind k) Q)
    (hk : ∀ d H1, Want K T W σ H1 S (k d) Q → RE K T ow σ ρ H1 S → Ex H H1 → R d H1) : tDB K T W ow fa σ H R := by
  refine ⟨ρ, S, re, ?_⟩
  cases q : fa ρ with
  | ok d =>
    rw [q] at w
    exact fun H' e => hk d H' (w.mono e) (re.mono e) e
  | exc c =>
    rw [q] at w
    exact w
  | stuck =>
    rw [q] at w
    exact w.elim
theorem WantB.partB {fa : DEnv → Res Bool} {k : Bool → Res Bool} {Q R : Bool → Hp → Prop} (re : RE K T ow σ ρ H S) (w : WantB T W σ H ((fa ρ).bind k) Q)
    (hk : ∀ d H1, WantB T W σ H1 (k d) Q → RE K T ow σ ρ H1 S → Ex H H1 → R d H1) : tDB K T W ow fa σ H R := by
  refine ⟨ρ, S, re, ?_⟩
  cases q : fa ρ with
  | ok d =>
    rw [q] at w
    exact fun H' e => hk d H' (w.mono e) (re.mono e) e
  | exc c =>
    rw [q] at w
    exact w
  | stuck =>
    rw [q] at w
    exact w.elim
theorem WantF.partB {fa : DEnv → Res Bool} {k : Bool → Res (List Dat)} {Q : VK} {R : Bool → Hp → Prop} (re : RE K T ow σ ρ H S) (w : WantF K T W σ H S ((fa ρ).bind k) Q)
    (hk : ∀ d H1, WantF K T W σ H1 S (k d) Q → RE K T ow σ ρ H1 S → Ex H H1 → R d H1) : tDB K T W ow fa σ H R := by
  refine ⟨ρ, S, re, ?_⟩
  cases q : fa ρ with
  | ok d =>
    rw [q] at w
    exact fun H' e => hk d H' (w.mono e) (re.mono e) e
  | exc c =>
    rw [q] at w
    exact w
  | stuck =>
    rw [q] at w
    exact w.elim
/-- arguments first -/
theorem Want.partA {fa : DEnv → Res (List Dat)} {k : List Dat → Res Dat} {Q : VK} {R : List V → Hp → Prop} (re : RE K T ow σ ρ H S) (w : Want K T W σ H S ((fa ρ).bind k) Q)
    (hk : ∀ vs ds H1, Want K T W σ H1 S (k ds) Q → RE K T ow σ ρ H1 S → Ex H H1 → Reps K T (hide H1 S) vs ds → R vs H1) : tDA K T W ow fa σ H R := by
  refine ⟨ρ, S, re, ?_⟩
  cases q : fa ρ with
  | ok d =>
    rw [q] at w
    exact fun vs H' e r => hk vs d H' (w.mono e) (re.mono e) e r
  | exc c =>
    rw [q] at w
    exact w
  | stuck =>
    rw [q] at w
    exact w.elim
theorem WantA.partA {fa : DEnv → Res (List Dat)} {k : List Dat → Res (List Dat)} {Q R : List V → Hp → Prop} (re : RE K T ow σ ρ H S) (w : WantA K T W σ H S ((fa ρ).bind k) Q)
    (hk : ∀ vs ds H1, WantA K T W σ H1 S (k ds) Q → RE K T ow σ ρ H1 S → Ex H H1 → Reps K T (hide H1 S) vs ds → R vs H1) : tDA K T W ow fa σ H R := by
  refine ⟨ρ, S, re, ?_⟩
  cases q : fa ρ with
  | ok d =>
    rw [q] at w
    exact fun vs H' e r => hk vs d H' (w.mono e) (re.mono e) e r
  | exc c =>
    rw [q] at w
    exact w
  | stuck =>
    rw [q] at w
    exact w.elim
theorem WantF.partA {fa : DEnv → Res (List Dat)} {k : List Dat → Res (List Dat)} {Q : VK} {R : List V → Hp → Prop} (re : RE K T ow σ ρ H S) (w : WantF K T W σ H S ((fa ρ).bind k) Q)
    (hk : ∀ vs ds H1, WantF K T W σ H1 S (k ds) Q → RE K T ow σ ρ H1 S → Ex H H1 → Reps K T (hide H1 S) vs ds → R vs H1) : tDA K T W ow fa σ H R := by
  refine ⟨ρ, S, re, ?_⟩
  cases q : fa ρ with
  | ok d =>
    rw [q] at w
    exact fun vs H' e r => hk vs d H' (w.mono e) (re.mono e) e r
  | exc c =>
    rw [q] at w
    exact w
  | stuck =>
    rw [q] at w
    exact w.elim
/-- a new list is a value like others -/
theorem WantF.of {r : Res (List Dat)} {Q : VK} (w : Want K T W σ H S (r.bind fun l => .ok (.lst l)) Q) (m : Hid H S) : WantF K T W σ H S r Q := by
  cases r with
  | ok l =>
    intro p vs H' e n h q
    refine w (.ref p) H' e (.lst (hide_get h (m.not n)) (q.mono (hide_sub fun x hx => List.mem_cons_of_mem _ hx)))
  | exc c => exact w
  | stuck => exact w
end
end Dl
/-! The D layer, part 2: expressions. -/
namespace Dl
open PySem PySem.Spec PyProof.Rows L2

/-! ### names and constants -/
def vVar (i : Nat) : DEnv → Res Dat := fun ρ => match ρ[i]? with
  | some (some d) => .ok d
  | _ => .stuck
def vC (d : Dat) : DEnv → Res Dat := fun _ => .ok d
section
variable {X : Cx} {T : CT} {W : WX} {ow : List Nat} {e a b c : Expr} {es : List Expr} {pos : Pos} {fa fb fc : DEnv → Res Dat}
theorem de_var (i : Nat) {x : Str} (hN : X.N[i]? = some x := by rfl) (hv : Vis X.env.scope x := by first | exact Or.inl rfl | exact Or.inr (Or.inl rfl) | exact Or.inr (Or.inr rfl)) (hi : i ∉ ow := by decide) (hd : (x == ("__debug__" : Str)) = false := by decide)
    (hcd : (x == ("__classdict__" : Str)) = false := by decide) : DE X T W ow (.Name x pos) (vVar i) := pe_imp (pe_var hN hv hd hcd) fun σ H Q h => by
  obtain ⟨ρ, S, re, w⟩ := h
  unfold vVar at w
  split at w
  · rename_i d e
    obtain ⟨v, h1, h2⟩ := re.fro i d hi e
    exact ⟨v, h1, w v H (Ex.refl H) h2⟩
  · exact w.elim
theorem de_const {v : V} {d : Dat} (h : PE X e (tC v)) (r : ∀ H, Rep X.K T H v d) : DE X T W ow e (vC d) := pe_imp h fun σ H Q h => by
  obtain ⟨ρ, S, re, w⟩ := h
  exact w v H (Ex.refl H) (r _)
theorem de_int {i : Int} {j} : DE X T W ow (.Constant (.int i) j pos) (vC (.int i)) := de_const pe_int fun _ => .int i
theorem de_bl {k : Bool} {j} : DE X T W ow (.Constant (.bool k) j pos) (vC (.bl k)) := de_const pe_bl fun _ => .bl k
theorem de_non {j} : DE X T W ow (.Constant .none j pos) (vC .non) := de_const pe_non fun _ => .non
theorem de_str {x : Str} {j} : DE X T W ow (.Constant (.str x) j pos) (vC (.str x)) := de_const pe_str fun _ => .str x
/-- a constant of the module -/
structure GC (K : PySem.W.Frag) (T : CT) (mg : Str → Option Value) (x : Str) (d : Dat) : Prop where
  ex : ∃ v u, mg x = some u ∧ RelV v u ∧ ∀ H, Rep K T H v d
theorem GC.int {K : PySem.W.Frag} {T : CT} {mg : Str → Option Value} {x : Str} {i : Int} {t : Tok} (h : mg x = some (.int i t)) : GC K T mg x (.int i) := ⟨.int i, _, h, ⟨t, rfl⟩, fun _ => .int i⟩
theorem GC.str {K : PySem.W.Frag} {T : CT} {mg : Str → Option Value} {x : Str} {i : Str} {t : Tok} (h : mg x = some (.str i t)) : GC K T mg x (.str i) := ⟨.str i, _, h, ⟨t, rfl⟩, fun _ => .str i⟩
theorem de_glob {x : Str} {d : Dat} (g : GC X.K T X.mg x d) (hg : Gl X x := by rfl) (hd : (x == ("__debug__" : Str)) = false := by decide) : DE X T W ow (.Name x pos) (vC d) := by
  obtain ⟨v, u, h1, h2, h3⟩ := g.ex
  exact de_const (pe_glob hg h1 h2 hd) h3

/-! ### two-place operators -/
def R2D (K : PySem.W.Frag) (T : CT) (r : R2) (g : Dat → Dat → Option Dat) : Prop := ∀ (S : List Addr) (H : Hp) (x y : V) (dx dy d : Dat) (Q : VK), Hid H S → Rep K T (hide H S) x dx → Rep K T (hide H S) y dy → g dx dy = some d →
  (∀ v H', Ex H H' → Rep K T (hide H' S) v d → Q v H') → r x y H Q
def vOp (g : Dat → Dat → Option Dat) (fa fb : DEnv → Res Dat) : DEnv → Res Dat := fun ρ => (fa ρ).bind fun x => (fb ρ).bind fun y => ofO (g x y)
theorem R2D.read {r : R2} {g : Dat → Dat → Option Dat} {K : PySem.W.Frag} {σ : Sg} {H : Hp} {Q : VK} (rd : R2D K T r g) (h : tD K T W ow (vOp g fa fb) σ H Q) :
    tD K T W ow fa σ H fun x H1 => tD K T W ow fb σ H1 fun y H2 => r x y H2 Q := by
  obtain ⟨ρ, S, re, w⟩ := h
  refine Want.part re w fun x dx H1 w1 re1 e1 rx => ?_
  refine Want.part re1 w1 fun y dy H2 w2 re2 e2 ry => ?_
  cases q : g dx dy with
  | none =>
    rw [q] at w2
    exact w2.elim
  | some d =>
    rw [q] at w2
    exact rd S H2 x y dx dy d Q re2.mt (rx.mono (hide_mono e2)) ry q w2
theorem de_op {op : Operator} {r : R2} {g : Dat → Dat → Option Dat} (ho : OpR X (binaryOp op) r) (rd : R2D X.K T r g) (ha : DE X T W ow a fa) (hb : DE X T W ow b fb) : DE X T W ow (.BinOp a op b pos) (vOp g fa fb) :=
  pe_imp (pe_op ho ha hb) fun _ _ _ h => rd.read h
theorem de_cmp {op : CmpOp} {r : R2} {g : Dat → Dat → Option Dat} (ho : OpR X (compareOp op) r) (rd : R2D X.K T r g) (ha : DE X T W ow a fa) (hb : DE X T W ow b fb) (hm : behindInMarks op b = false) : DE X T W ow (.Compare a [op] [b] pos) (vOp g fa fb) :=
  pe_imp (pe_cmpR ho ha hb hm) fun _ _ _ h => rd.read h

/-- what a test asks of a value -/
def blOf : Dat → Option Bool
  | .bl b => some b
  | _ => none
def vTest (fa : DEnv → Res Dat) : DEnv → Res Bool := fun ρ => (fa ρ).bind fun x => ofO (blOf x)
theorem test_read {K : PySem.W.Frag} {σ : Sg} {H : Hp} {Q : Bool → Hp → Prop} (h : tDB K T W ow (vTest fa) σ H Q) : tD K T W ow fa σ H fun x H' => ∃ k, x = .bl k ∧ Q k H' := by
  obtain ⟨ρ, S, re, w⟩ := h
  refine WantB.part re w fun x dx H1 w1 re1 e1 rx => ?_
  cases rx with
  | bl k => exact ⟨k, rfl, w1 H1 (Ex.refl H1)⟩
  | _ => exact w1.elim
theorem dt_cmp {op : CmpOp} {r : R2} {g : Dat → Dat → Option Dat} (ho : OpR X (compareOp op) r) (rd : R2D X.K T r g) (ha : DE X T W ow a fa) (hb : DE X T W ow b fb) (hm : behindInMarks op b = false) : DT X T W ow (.Compare a [op] [b] pos) (vTest (vOp g fa fb)) :=
  pt_imp (pt_cmpR ho ha hb hm) fun σ H Q h => by
    obtain ⟨ρ, S, re, w⟩ := h
    refine rd.read (Q := fun x H' => ∃ k, x = .bl k ∧ Q k H') ?_
    exact test_read ⟨ρ, S, re, w⟩
/-- an expression that gives a bool, as a test -/
theorem dt_val (ha : DE X T W ow e fa) (he : ∀ whole, isTrue e X.env whole = (do let v ← whole; standAt e.pos; holding [v] (truthy v)) := by intro _; rfl) : DT X T W ow e (vTest fa) :=
  pt_imp (pt_val ha he) fun _ _ _ h => test_read h
/-- by truth -/
def truD : Dat → Option Bool
  | .non => some false
  | .bl b => some b
  | .int i => some (i != 0)
  | .str s => if s.length ≤ sizeLine then some ((s.length : Int) != 0) else none
  | .tup l => some !l.isEmpty
  | .lst l => some !l.isEmpty
  | _ => none
theorem truD_ok {K : PySem.W.Frag} {H H' : Hp} {x : V} {d : Dat} {k : Bool} (e : Ex H H') (r : Rep K T H x d) (h : truD d = some k) : TruV K x H' k := by
  have emp : ∀ {vs : List V} {ds : List Dat}, Reps K T H vs ds → (!vs.isEmpty) = !ds.isEmpty := fun r => by cases r <;> rfl
  cases r with
  | non => exact (Option.some.inj h).symm
  | bl b => exact (Option.some.inj h).symm
  | int i => exact (Option.some.inj h).symm
  | str s =>
    simp only [truD] at h
    by_cases z : s.length ≤ sizeLine
    · rw [if_pos z] at h
      exact ⟨z, (Option.some.inj h).symm⟩
    · rw [if_neg z] at h
      cases h
  | tup hs r => exact .inr (.inl ⟨_, ex_t e hs, by rw [emp r]; exact (Option.some.inj h).symm⟩)
  | lst hs r => exact .inl ⟨_, .inl (.inl (e _ _ hs)), by rw [emp r]; exact (Option.some.inj h).symm⟩
  | frz hs r => cases h
  | obj _ _ _ => cases h
def vTru (fa : DEnv → Res Dat) : DEnv → Res Bool := fun ρ => (fa ρ).bind fun x => ofO (truD x)
theorem dt_truth (ha : DE X T W ow e fa) (he : ∀ whole, isTrue e X.env whole = (do let v ← whole; standAt e.pos; holding [v] (truthy v)) := by intro _; rfl) : DT X T W ow e (vTru fa) :=
  pt_imp (pt_truth ha he) fun σ H Q h => by
    obtain ⟨ρ, S, re, w⟩ := h
    refine WantB.part re w fun x dx H1 w1 re1 e1 rx => ?_
    cases q : truD dx with
    | none =>
      rw [q] at w1
      exact w1.elim
    | some k =>
      rw [q] at w1
      exact ⟨k, truD_ok hide_ex rx q, w1 H1 (Ex.refl H1)⟩
/-- and, or, not as tests -/
def vAndT (f g : DEnv → Res Bool) : DEnv → Res Bool := fun ρ => (f ρ).bind fun x => if x = true then g ρ else .ok false
def vOrT (f g : DEnv → Res Bool) : DEnv → Res Bool := fun ρ => (f ρ).bind fun x => if x = true then .ok true else g ρ
def vNotT (f : DEnv → Res Bool) : DEnv → Res Bool := fun ρ => (f ρ).bind fun x => .ok (!x)
/-- a chain of and, or -/
def DW (X : Cx) (T : CT) (W : WX) (ow : List Nat) (e : Expr) (f : DEnv → Res Bool) : Prop := PW X e (tDB X.K T W ow f)
theorem DW.dt {f : DEnv → Res Bool} (h : DW X T W ow e f) : DT X T W ow e f := PW.pt h
variable {ta tb : DEnv → Res Bool} {rest : List Expr}
theorem dw_and1 (ha : DT X T W ow a ta) : DW X T W ow (.BoolOp .And [a] pos) ta := pw_and1 ha
theorem dw_or1 (ha : DT X T W ow a ta) : DW X T W ow (.BoolOp .Or [a] pos) ta := pw_or1 ha
theorem dw_and (ha : DT X T W ow a ta) (hb : DW X T W ow (.BoolOp .And (b :: rest) pos) tb) : DW X T W ow (.BoolOp .And (a :: b :: rest) pos) (vAndT ta tb) := pw_imp (pw_and ha hb) fun σ H Q h => by
  obtain ⟨ρ, S, re, w⟩ := h
  refine WantB.partB re w fun k H1 w1 re1 e1 => ?_
  cases k with
  | true => exact ⟨ρ, S, re1, w1⟩
  | false => exact w1 H1 (Ex.refl H1)
theorem dw_or (ha : DT X T W ow a ta) (hb : DW X T W ow (.BoolOp .Or (b :: rest) pos) tb) : DW X T W ow (.BoolOp .Or (a :: b :: rest) pos) (vOrT ta tb) := pw_imp (pw_or ha hb) fun σ H Q h => by
  obtain ⟨ρ, S, re, w⟩ := h
  refine WantB.partB re w fun k H1 w1 re1 e1 => ?_
  cases k with
  | true => exact w1 H1 (Ex.refl H1)
  | false => exact ⟨ρ, S, re1, w1⟩
theorem dt_not (ha : DT X T W ow a ta) : DT X T W ow (.UnaryOp .Not a pos) (vNotT ta) := pt_imp (pt_not ha) fun σ H Q h => by
  obtain ⟨ρ, S, re, w⟩ := h
  exact WantB.partB re w fun k H1 w1 re1 e1 => w1 H1 (Ex.refl H1)
/-- and, or, not as values: all but the last are bools -/
def vAnd (fa fb : DEnv → Res Dat) : DEnv → Res Dat := fun ρ => (fa ρ).bind fun x => match x with
  | .bl true => fb ρ
  | .bl false => .ok (.bl false)
  | _ => .stuck
def vOr (fa fb : DEnv → Res Dat) : DEnv → Res Dat := fun ρ => (fa ρ).bind fun x => match x with
  | .bl true => .ok (.bl true)
  | .bl false => fb ρ
  | _ => .stuck
def notD : Dat → Option Dat
  | .bl b => some (.bl !b)
  | _ => none
def v1 (g : Dat → Option Dat) (fa : DEnv → Res Dat) : DEnv → Res Dat := fun ρ => (fa ρ).bind fun x => ofO (g x)
theorem de_one {op} (h : DE X T W ow a fa) : DE X T W ow (.BoolOp op [a] pos) fa := pe_one h
theorem de_and (ha : DE X T W ow a fa) (hb : DE X T W ow (.BoolOp .And (b :: rest) pos) fb) : DE X T W ow (.BoolOp .And (a :: b :: rest) pos) (vAnd fa fb) := pe_imp (pe_and ha hb) fun σ H Q h => by
  obtain ⟨ρ, S, re, w⟩ := h
  refine Want.part re w fun x dx H1 w1 re1 e1 rx => ?_
  cases rx with
  | bl k =>
    cases k with
    | true => exact ⟨true, rfl, ρ, S, re1, w1⟩
    | false => exact ⟨false, rfl, w1 _ H1 (Ex.refl H1) (.bl false)⟩
  | _ => exact w1.elim
theorem de_or (ha : DE X T W ow a fa) (hb : DE X T W ow (.BoolOp .Or (b :: rest) pos) fb) : DE X T W ow (.BoolOp .Or (a :: b :: rest) pos) (vOr fa fb) := pe_imp (pe_or ha hb) fun σ H Q h => by
  obtain ⟨ρ, S, re, w⟩ := h
  refine Want.part re w fun x dx H1 w1 re1 e1 rx => ?_
  cases rx with
  | bl k =>
    cases k with
    | true => exact ⟨true, rfl, w1 _ H1 (Ex.refl H1) (.bl true)⟩
    | false => exact ⟨false, rfl, ρ, S, re1, w1⟩
  | _ => exact w1.elim
theorem de_not (ha : DE X T W ow a fa) : DE X T W ow (.UnaryOp .Not a pos) (v1 notD fa) := pe_imp (pe_not ha) fun σ H Q h => by
  obtain ⟨ρ, S, re, w⟩ := h
  refine Want.part re w fun x dx H1 w1 re1 e1 rx => ?_
  cases rx with
  | bl k => exact ⟨k, rfl, w1 _ H1 (Ex.refl H1) (.bl _)⟩
  | _ => exact w1.elim
/-- a if t else b -/
def vIf (t : DEnv → Res Bool) (fa fb : DEnv → Res Dat) : DEnv → Res Dat := fun ρ => (t ρ).bind fun x => if x = true then fa ρ else fb ρ
theorem de_if (hc : DT X T W ow c ta) (ha : DE X T W ow a fa) (hb : DE X T W ow b fb) : DE X T W ow (.IfExp c a b pos) (vIf ta fa fb) := pe_imp (pe_ifExp hc ha hb) fun σ H Q h => by
  obtain ⟨ρ, S, re, w⟩ := h
  refine Want.partB re w fun k H1 w1 re1 e1 => ?_
  cases k with
  | true => exact ⟨ρ, S, re1, w1⟩
  | false => exact ⟨ρ, S, re1, w1⟩
def vIfF (t : DEnv → Res Bool) (fa fb : DEnv → Res (List Dat)) : DEnv → Res (List Dat) := fun ρ => (t ρ).bind fun x => if x = true then fa ρ else fb ρ
theorem df_if {fa fb : DEnv → Res (List Dat)} (hc : DT X T W ow c ta) (ha : DF X T W ow a fa) (hb : DF X T W ow b fb) : DF X T W ow (.IfExp c a b pos) (vIfF ta fa fb) := pe_imp (pe_ifExp hc ha hb) fun σ H Q h => by
  obtain ⟨ρ, S, re, w⟩ := h
  refine WantF.partB re w fun k H1 w1 re1 e1 => ?_
  cases k with
  | true => exact ⟨ρ, S, re1, w1⟩
  | false => exact ⟨ρ, S, re1, w1⟩
/-- a new list as a value -/
def vL (f : DEnv → Res (List Dat)) : DEnv → Res Dat := fun ρ => (f ρ).bind fun l => .ok (.lst l)
theorem de_f {f : DEnv → Res (List Dat)} (h : DF X T W ow e f) : DE X T W ow e (vL f) := pe_imp h fun σ H Q h => by
  obtain ⟨ρ, S, re, w⟩ := h
  exact ⟨ρ, S, re, WantF.of w re.mt⟩
/-! ### arguments, displays -/
def aNil : DEnv → Res (List Dat) := fun _ => .ok []
def aCons (f : DEnv → Res Dat) (g : DEnv → Res (List Dat)) : DEnv → Res (List Dat) := fun ρ => (f ρ).bind fun x => (g ρ).bind fun l => .ok (x :: l)
theorem da_nil : DA X T W ow [] aNil := pa_imp pa_nil fun σ H Q h => by
  obtain ⟨ρ, S, re, w⟩ := h
  exact w [] H (Ex.refl H) .nil
theorem da_cons {fs : DEnv → Res (List Dat)} (h : DE X T W ow e fa) (hs : DA X T W ow es fs) (hst : starEach (e :: es) X.env = (false, eval e X.env) :: starEach es X.env := by rfl) : DA X T W ow (e :: es) (aCons fa fs) := pa_imp (pa_cons h hs hst) fun σ H Q h => by
  obtain ⟨ρ, S, re, w⟩ := h
  refine WantA.part re w fun x dx H1 w1 re1 e1 rx => ?_
  refine WantA.partA re1 w1 fun vs ds H2 w2 re2 e2 rs => ?_
  exact w2 _ H2 (Ex.refl H2) (.cons (rx.mono (hide_mono e2)) rs)
def vTup (f : DEnv → Res (List Dat)) : DEnv → Res Dat := fun ρ => (f ρ).bind fun l => if l.length ≤ 1000 then .ok (.tup l) else .stuck
def fLst (f : DEnv → Res (List Dat)) : DEnv → Res (List Dat) := fun ρ => (f ρ).bind fun l => if l.length ≤ 1000 then .ok l else .stuck
theorem de_tup {x1} {fs : DEnv → Res (List Dat)} (hs : DA X T W ow es fs) : DE X T W ow (.Tuple es x1 pos) (vTup fs) := pe_imp (pe_tup hs) fun σ H Q h => by
  obtain ⟨ρ, S, re, w⟩ := h
  refine Want.partA re w fun vs ds H1 w1 re1 e1 rs => ?_
  split at w1
  · rename_i hl
    refine ⟨Nat.le_trans (by rw [rs.length]; exact hl) (by decide : 1000 ≤ sizeLine), fun p hp => ?_⟩
    exact w1 _ _ (Ex.new hp) (rep_newT re1.mt hp rs)
  · exact w1.elim
theorem df_lst {fs : DEnv → Res (List Dat)} (hs : DA X T W ow es fs) : DF X T W ow (.List es pos) (fLst fs) := pe_imp (pe_lst hs) fun σ H Q h => by
  obtain ⟨ρ, S, re, w⟩ := h
  refine WantF.partA re w fun vs ds H1 w1 re1 e1 rs => ?_
  split at w1
  · rename_i hl
    refine ⟨Nat.le_trans (by rw [rs.length]; exact hl) (by decide : 1000 ≤ sizeLine), fun p hp => ?_⟩
    exact w1 p vs _ (Ex.new hp) hp upd_same (rs.mono (hide_new (Ex.new hp) hp))
  · exact w1.elim
end
end Dl
/-! The D layer, part 3: operators, items, slices, built-ins. -/
namespace Dl
open PySem PySem.Spec PyProof.Rows L2

/-! ### arithmetic -/
def addD : Dat → Dat → Option Dat
  | .int i, .int j => some (.int (i + j))
  | .str a, .str b => if a.length + b.length ≤ sizeLine then some (.str (a ++ b)) else none
  | .tup a, .tup b => if a.length + b.length ≤ sizeLine then some (.tup (a ++ b)) else none
  | .lst a, .lst b => if a.length + b.length ≤ sizeLine then some (.lst (a ++ b)) else none
  | _, _ => none
def intOp (g : Int → Int → Option Int) : Dat → Dat → Option Dat
  | .int i, .int j => (g i j).map .int
  | _, _ => none
def subD := intOp fun i j => some (i - j)
def fdivI (i j : Int) : Option Int := if 0 < j then (if j.natAbs.log2 < 9000 then some (i / j) else none) else if j ≠ 0 ∧ j.natAbs < 1073741824 then some (i.fdiv j) else none
def fdivD := intOp fdivI
def modI (i j : Int) : Option Int := if 0 < j then some (i % j) else if j ≠ 0 then some (i.fmod j) else none
def modD := intOp modI
def powI (i j : Int) : Option Int := if 0 ≤ j ∧ j ≤ 1000 ∧ i.natAbs < 2 ^ 64 then some (i ^ j.toNat) else none
def powD := intOp powI
def mulOk (i j : Int) : Bool := decide (i.natAbs < 2 ^ 64) || decide (j.natAbs < 2 ^ 64) || decide (i.natAbs.log2 + j.natAbs.log2 < 1000000)
def mulD : Dat → Dat → Option Dat
  | .int i, .int j => if mulOk i j then some (.int (i * j)) else none
  | .lst l, .int k => if k ≤ 100000 ∧ -100000 ≤ k ∧ l.length ≤ 100 then some (.lst (List.replicate k.toNat l).flatten) else none
  | .tup l, .int k => if 2 ≤ k ∧ k ≤ 1000 ∧ l.length ≤ 1000 ∧ l.isEmpty = false then some (.tup (List.replicate k.toNat l).flatten) else none
  | _, _ => none
def negD : Dat → Option Dat
  | .int i => some (.int (-i))
  | _ => none
section
variable {K : PySem.W.Frag} {T : CT}
theorem intOp_some {g : Int → Int → Option Int} {dx dy d : Dat} (h : intOp g dx dy = some d) : ∃ i j k, dx = .int i ∧ dy = .int j ∧ g i j = some k ∧ d = .int k := by
  unfold intOp at h
  split at h
  · rename_i i j
    cases q : g i j with
    | none =>
      rw [q] at h
      cases h
    | some k =>
      rw [q] at h
      exact ⟨i, j, k, rfl, rfl, q, (Option.some.inj h).symm⟩
  · cases h
theorem rd_int {r : R2} {g : Int → Int → Option Int} (h : ∀ i j k H (Q : VK), g i j = some k → Q (.int k) H → r (.int i) (.int j) H Q) : R2D K T r (intOp g) := fun S H x y dx dy d Q m rx ry e q => by
  obtain ⟨i, j, k, rfl, rfl, e2, rfl⟩ := intOp_some e
  cases rx
  cases ry
  exact h i j k H Q e2 (q _ H (Ex.refl H) (.int k))
theorem rd_sub : R2D K T (rI0 fun i j => .int (i - j)) subD := rd_int fun i j k H Q e q => ⟨i, j, rfl, rfl, by cases e; exact q⟩
def rFdivAll : R2 := fun x y H Q => rI CDivW (fun i j => .int (i / j)) x y H Q ∨ rI CDivN (fun i j => .int (i.fdiv j)) x y H Q
theorem op_fdivAll {X : Cx} : OpR X (binaryOp .FloorDiv) rFdivAll := op_fdivW.or op_fdivN
theorem rd_fdiv : R2D K T rFdivAll fdivD := rd_int fun i j k H Q e q => by
  unfold fdivI at e
  split at e
  · split at e
    · rename_i h1 h2
      exact .inl ⟨i, j, rfl, rfl, ⟨h1, h2⟩, by cases e; exact q⟩
    · cases e
  · split at e
    · rename_i h1 h2
      exact .inr ⟨i, j, rfl, rfl, h2, by cases e; exact q⟩
    · cases e
def rModAll : R2 := fun x y H Q => rI (fun _ j => 0 < j) (fun i j => .int (i % j)) x y H Q ∨ rI (fun _ j => j ≠ 0) (fun i j => .int (i.fmod j)) x y H Q
theorem op_modAll {X : Cx} : OpR X (binaryOp .Mod) rModAll := op_mod.or op_modN
theorem rd_mod : R2D K T rModAll modD := rd_int fun i j k H Q e q => by
  unfold modI at e
  split at e
  · rename_i h1
    exact .inl ⟨i, j, rfl, rfl, h1, by cases e; exact q⟩
  · split at e
    · rename_i h1 h2
      exact .inr ⟨i, j, rfl, rfl, h2, by cases e; exact q⟩
    · cases e
theorem rd_pow : R2D K T (rI CPow fun i j => .int (i ^ j.toNat)) powD := rd_int fun i j k H Q e q => by
  unfold powI at e
  split at e
  · rename_i h1
    exact ⟨i, j, rfl, rfl, ⟨h1.1, by omega, h1.2.2⟩, by cases e; exact q⟩
  · cases e
def rAddAll (K : PySem.W.Frag) : R2 := fun x y H Q => rI0 (fun i j => .int (i + j)) x y H Q ∨ ((∃ i j, x = .str i ∧ y = .str j ∧ i.length + j.length ≤ sizeLine ∧ Q (.str (i ++ j)) H) ∨ (rCatA K x y H Q ∨ rCat x y H Q))
theorem op_addAll {X : Cx} : OpR X (binaryOp .Add) (rAddAll X.K) := op_add.or (op_add_str.or (op_catA.or op_cat))
theorem rd_add : R2D K T (rAddAll K) addD := fun S H x y dx dy d Q m rx ry e q => by
  cases rx with
  | int i =>
    cases ry with
    | int j => exact .inl ⟨i, j, rfl, rfl, by cases e; exact q _ H (Ex.refl H) (.int _)⟩
    | _ => cases e
  | str a =>
    cases ry with
    | str b =>
      simp only [addD] at e
      by_cases z : a.length + b.length ≤ sizeLine
      · rw [if_pos z] at e
        exact .inr (.inl ⟨a, b, rfl, rfl, z, by cases e; exact q _ H (Ex.refl H) (.str _)⟩)
      · rw [if_neg z] at e
        cases e
    | _ => cases e
  | @tup p vs ds hs rs =>
    cases ry with
    | @tup p' ws es ht ss =>
      simp only [addD] at e
      by_cases z : ds.length + es.length ≤ sizeLine
      · rw [if_pos z] at e
        cases e
        refine .inr (.inr (.inl ⟨p, p', vs, ws, rfl, rfl, ex_t hide_ex hs, ex_t hide_ex ht, by rw [rs.length, ss.length]; exact z, fun h => ?_, fun _ h => ?_, fun _ _ p2 np => ?_⟩))
        · subst h
          cases rs
          exact q _ H (Ex.refl H) (.tup ht ss)
        · subst h
          cases ss
          rw [List.append_nil] at q
          exact q _ H (Ex.refl H) (.tup hs rs)
        · exact q _ _ (Ex.new np) (rep_newT m np (rs.append ss))
      · rw [if_neg z] at e
        cases e
    | _ => cases e
  | @lst p vs ds hs rs =>
    cases ry with
    | @lst p' ws es ht ss =>
      simp only [addD] at e
      by_cases z : ds.length + es.length ≤ sizeLine
      · rw [if_pos z] at e
        cases e
        refine .inr (.inr (.inr ⟨p, p', vs, ws, rfl, rfl, hide_ex _ _ hs, hide_ex _ _ ht, by rw [rs.length, ss.length]; exact z, fun p2 np => ?_⟩))
        exact q _ _ (Ex.new np) (rep_newL m np (rs.append ss))
      · rw [if_neg z] at e
        cases e
    | _ => cases e
  | _ => cases e
def rMulAll (K : PySem.W.Frag) : R2 := fun x y H Q => rI CMul (fun i j => .int (i * j)) x y H Q ∨ (rI CMulW (fun i j => .int (i * j)) x y H Q ∨ (rRep x y H Q ∨ rRepT K x y H Q))
theorem op_mulAll {X : Cx} : OpR X (binaryOp .Mult) (rMulAll X.K) := op_mul.or (op_mulW.or (op_rep.or op_repT))
theorem mul64 {i : Int} (h : i.natAbs < 2 ^ 64) : -(2 ^ 64) < i ∧ i < 2 ^ 64 := by omega
theorem rd_mul : R2D K T (rMulAll K) mulD := fun S H x y dx dy d Q m rx ry e q => by
  cases rx with
  | int i =>
    cases ry with
    | int j =>
      simp only [mulD] at e
      by_cases z : mulOk i j = true
      · rw [if_pos z] at e
        cases e
        unfold mulOk at z
        rw [Bool.or_eq_true, Bool.or_eq_true] at z
        rcases z with (z | z) | z
        · exact .inl ⟨i, j, rfl, rfl, .inl (mul64 (of_decide_eq_true z)), q _ H (Ex.refl H) (.int _)⟩
        · exact .inl ⟨i, j, rfl, rfl, .inr (mul64 (of_decide_eq_true z)), q _ H (Ex.refl H) (.int _)⟩
        · have z' := of_decide_eq_true z
          exact .inr (.inl ⟨i, j, rfl, rfl, z', q _ H (Ex.refl H) (.int _)⟩)
      · rw [if_neg z] at e
        cases e
    | _ => cases e
  | @lst p vs ds hs rs =>
    cases ry with
    | int k =>
      simp only [mulD] at e
      by_cases z : k ≤ 100000 ∧ -100000 ≤ k ∧ ds.length ≤ 100
      · rw [if_pos z] at e
        cases e
        obtain ⟨z1, z2, z3⟩ := z
        have hk : k.toNat ≤ 100000 := by omega
        refine .inr (.inr (.inl ⟨p, k, vs, rfl, rfl, hide_ex _ _ hs, by omega, by omega, ?_, fun p2 np => ?_⟩))
        · rw [rs.length]
          exact Nat.le_trans (Nat.mul_le_mul z3 hk) (by decide)
        · exact q _ _ (Ex.new np) (rep_newL m np (rs.flatten_replicate _))
      · rw [if_neg z] at e
        cases e
    | _ => cases e
  | @tup p vs ds hs rs =>
    cases ry with
    | int k =>
      simp only [mulD] at e
      by_cases z : 2 ≤ k ∧ k ≤ 1000 ∧ ds.length ≤ 1000 ∧ ds.isEmpty = false
      · rw [if_pos z] at e
        cases e
        obtain ⟨z1, z2, z3, z4⟩ := z
        refine .inr (.inr (.inr ⟨p, k, vs, rfl, rfl, ex_t hide_ex hs, ?_, z1, z2, by rw [rs.length]; exact z3, fun p2 np => ?_⟩))
        · rintro rfl
          cases rs
          cases z4
        · exact q _ _ (Ex.new np) (rep_newT m np (rs.flatten_replicate _))
      · rw [if_neg z] at e
        cases e
    | _ => cases e
  | _ => cases e
end

/-! ### == at any depth -/
mutual
def toPy : Dat → PyData
  | .non => .none
  | .bl b => .bool b
  | .int i => .int i
  | .str s => .str s
  | .tup l => .tuple (toPys l)
  | .lst l => .list (toPys l)
  | .frz _ => .none
  | .obj _ _ => .none
def toPys : List Dat → List PyData
  | [] => []
  | d :: r => toPy d :: toPys r
end
mutual
def eqvD : Dat → Dat → Bool
  | .non, .non => true
  | .bl a, .bl b => a == b
  | .bl a, .int j => (if a then 1 else 0) == j
  | .int i, .bl b => i == (if b then 1 else 0)
  | .int i, .int j => i == j
  | .str x, .str y => x == y
  | .lst xs, .lst ys => eqvDs xs ys
  | .tup xs, .tup ys => eqvDs xs ys
  | _, _ => false
def eqvDs : List Dat → List Dat → Bool
  | [], [] => true
  | x :: xs, y :: ys => eqvD x y && eqvDs xs ys
  | _, _ => false
end
/-- what may be compared: none, bools, ints, texts, lists and tuples of these, n deep -/
def shp : Nat → Dat → Bool
  | _, .non => true
  | _, .bl _ => true
  | _, .int _ => true
  | _, .str s => s.cps.all fun c => decide (c < 0x110000)
  | n + 1, .tup l => l.all (shp n)
  | n + 1, .lst l => l.all (shp n)
  | _, _ => false
theorem toPys_map (l : List Dat) : toPys l = l.map toPy := by
  induction l with
  | nil => rfl
  | cons d r ih => rw [toPys, ih]; rfl
theorem canAll_of {l : List PyData} (h : ∀ d ∈ l, d.canLay0 = true) : PyData.canLayAll0 l = true := by
  induction l with
  | nil => simp [PyData.canLayAll0]
  | cons d r ih =>
    rw [PyData.canLayAll0, h d List.mem_cons_self, ih fun e he => h e (List.mem_cons_of_mem _ he)]
    rfl
theorem depthAll_of {l : List PyData} {n : Nat} (h : ∀ d ∈ l, d.depth ≤ n) : PyData.depthAll l ≤ n := by
  induction l with
  | nil => simp [PyData.depthAll]
  | cons d r ih =>
    rw [PyData.depthAll]
    exact Nat.max_le.mpr ⟨h d List.mem_cons_self, ih fun e he => h e (List.mem_cons_of_mem _ he)⟩
theorem shp_ok : ∀ (n : Nat) (d : Dat), shp n d = true → (toPy d).canLay0 = true ∧ (toPy d).depth ≤ n
  | n, .non, _ => ⟨by simp [toPy, PyData.canLay0], by simp [toPy, PyData.depth]⟩
  | n, .bl _, _ => ⟨by simp [toPy, PyData.canLay0], by simp [toPy, PyData.depth]⟩
  | n, .int _, _ => ⟨by simp [toPy, PyData.canLay0], by simp [toPy, PyData.depth]⟩
  | n, .str s, h => by
    have h' : s.cps.all (fun c => decide (c < 0x110000)) = true := by
      cases n <;> exact h
    exact ⟨by simp only [toPy, PyData.canLay0]; exact h', by simp [toPy, PyData.depth]⟩
  | 0, .tup _, h => by cases h
  | 0, .lst _, h => by cases h
  | n + 1, .tup l, h => by
    have h' : ∀ d ∈ l, shp n d = true := List.all_eq_true.mp h
    have ih : ∀ p ∈ toPys l, p.canLay0 = true ∧ p.depth ≤ n := fun p hp => by
      rw [toPys_map] at hp
      obtain ⟨d, hd, rfl⟩ := List.mem_map.mp hp
      exact shp_ok n d (h' d hd)
    refine ⟨?_, ?_⟩
    · simp only [toPy, PyData.canLay0]
      exact canAll_of fun p hp => (ih p hp).1
    · simp only [toPy, PyData.depth]
      exact Nat.succ_le_succ (depthAll_of fun p hp => (ih p hp).2)
  | n + 1, .lst l, h => by
    have h' : ∀ d ∈ l, shp n d = true := List.all_eq_true.mp h
    have ih : ∀ p ∈ toPys l, p.canLay0 = true ∧ p.depth ≤ n := fun p hp => by
      rw [toPys_map] at hp
      obtain ⟨d, hd, rfl⟩ := List.mem_map.mp hp
      exact shp_ok n d (h' d hd)
    refine ⟨?_, ?_⟩
    · simp only [toPy, PyData.canLay0]
      exact canAll_of fun p hp => (ih p hp).1
    · simp only [toPy, PyData.depth]
      exact Nat.succ_le_succ (depthAll_of fun p hp => (ih p hp).2)
  | 0, .frz _, h => by cases h
  | n + 1, .frz _, h => by cases h
  | 0, .obj _ _, h => by cases h
  | n + 1, .obj _ _, h => by cases h
theorem shaped_of {n : Nat} {d : Dat} (h : shp n d = true) (hn : n ≤ 64) : SeqAt.shaped (toPy d) = true := by
  obtain ⟨a, b⟩ := shp_ok n d h
  unfold SeqAt.shaped
  rw [a, decide_eq_true (Nat.le_trans b hn)]
  rfl
mutual
theorem eqv_toPy : ∀ (n : Nat) (d e : Dat), shp n d = true → shp n e = true → PyData.eqv (toPy d) (toPy e) = eqvD d e
  | n, .non, e, _, he => by cases e <;> first | rfl | (cases n <;> cases he)
  | n, .bl _, e, _, he => by cases e <;> first | rfl | (cases n <;> cases he)
  | n, .int _, e, _, he => by cases e <;> first | rfl | (cases n <;> cases he)
  | n, .str _, e, _, he => by cases e <;> first | rfl | (cases n <;> cases he)
  | 0, .tup _, _, hd, _ => by cases hd
  | 0, .lst _, _, hd, _ => by cases hd
  | n + 1, .tup l, e, hd, he => by
    cases e with
    | tup m =>
      simp only [toPy, PyData.eqv, eqvD]
      exact eqvs_toPy n l m (List.all_eq_true.mp hd) (List.all_eq_true.mp he)
    | frz _ => cases he
    | obj _ _ => cases he
    | _ => simp [toPy, PyData.eqv, eqvD]
  | n + 1, .lst l, e, hd, he => by
    cases e with
    | lst m =>
      simp only [toPy, PyData.eqv, eqvD]
      exact eqvs_toPy n l m (List.all_eq_true.mp hd) (List.all_eq_true.mp he)
    | frz _ => cases he
    | obj _ _ => cases he
    | _ => simp [toPy, PyData.eqv, eqvD]
  | 0, .frz _, _, hd, _ => by cases hd
  | n + 1, .frz _, _, hd, _ => by cases hd
  | 0, .obj _ _, _, hd, _ => by cases hd
  | n + 1, .obj _ _, _, hd, _ => by cases hd
theorem eqvs_toPy : ∀ (n : Nat) (l m : List Dat), (∀ d ∈ l, shp n d = true) → (∀ d ∈ m, shp n d = true) → PyData.eqvAll (toPys l) (toPys m) = eqvDs l m
  | _, [], [], _, _ => by simp [toPys, PyData.eqvAll, eqvDs]
  | _, [], _ :: _, _, _ => by simp [toPys, PyData.eqvAll, eqvDs]
  | _, _ :: _, [], _, _ => by simp [toPys, PyData.eqvAll, eqvDs]
  | n, d :: l, e :: m, h1, h2 => by
    simp only [toPys, PyData.eqvAll, eqvDs]
    rw [eqv_toPy n d e (h1 d List.mem_cons_self) (h2 e List.mem_cons_self), eqvs_toPy n l m (fun x hx => h1 x (List.mem_cons_of_mem _ hx)) fun x hx => h2 x (List.mem_cons_of_mem _ hx)]
end
section
variable {K : PySem.W.Frag} {T : CT} {H : Hp}
mutual
theorem Rep.dp : ∀ {n : Nat} {v : V} {d : Dat}, shp n d = true → Rep K T H v d → Dp K H v (toPy d)
  | _, _, _, _, .non => .non
  | _, _, _, _, .bl b => .bl b
  | _, _, _, _, .int i => .int i
  | _, _, _, _, .str x => .str x
  | n + 1, _, .tup l, h, .tup hs r => .tup hs (Reps.dp (List.all_eq_true.mp h) r)
  | n + 1, _, .lst l, h, .lst hs r => .lst (.inl (.inl hs)) (Reps.dp (List.all_eq_true.mp h) r)
  | 0, _, _, h, .tup _ _ => by cases h
  | 0, _, _, h, .lst _ _ => by cases h
  | 0, _, _, h, .frz _ _ => by cases h
  | _ + 1, _, _, h, .frz _ _ => by cases h
  | 0, _, _, h, .obj _ _ _ => by cases h
  | _ + 1, _, _, h, .obj _ _ _ => by cases h
theorem Reps.dp : ∀ {n : Nat} {vs : List V} {ds : List Dat}, (∀ d ∈ ds, shp n d = true) → Reps K T H vs ds → DpAll K H vs (toPys ds)
  | _, _, _, _, .nil => .nil
  | _, _, _, h, .cons r rs => .cons (Rep.dp (h _ List.mem_cons_self) r) (Reps.dp (fun d hd => h d (List.mem_cons_of_mem _ hd)) rs)
end
end
def eqD (d e : Dat) : Option Dat := if (shp 8 d && shp 8 e) = true then some (.bl (eqvD d e)) else none
def neD (d e : Dat) : Option Dat := if (shp 8 d && shp 8 e) = true then some (.bl (!eqvD d e)) else none
section
variable {K : PySem.W.Frag} {T : CT}
theorem rd_eq : R2D K T (rEqD K) eqD := fun S H x y dx dy d Q m rx ry e q => by
  unfold eqD at e
  split at e
  · rename_i z
    rw [Bool.and_eq_true] at z
    cases e
    refine ⟨toPy dx, toPy dy, (rx.mono hide_ex).dp z.1, (ry.mono hide_ex).dp z.2, shaped_of z.1 (by decide), shaped_of z.2 (by decide), ?_⟩
    rw [eqv_toPy 8 _ _ z.1 z.2]
    exact q _ H (Ex.refl H) (.bl _)
  · cases e
theorem rd_ne : R2D K T (rNeD K) neD := fun S H x y dx dy d Q m rx ry e q => by
  unfold neD at e
  split at e
  · rename_i z
    rw [Bool.and_eq_true] at z
    cases e
    refine ⟨toPy dx, toPy dy, (rx.mono hide_ex).dp z.1, (ry.mono hide_ex).dp z.2, shaped_of z.1 (by decide), shaped_of z.2 (by decide), ?_⟩
    rw [eqv_toPy 8 _ _ z.1 z.2]
    exact q _ H (Ex.refl H) (.bl _)
  · cases e
/-! ### order of ints, is, in -/
def cmpI (g : Int → Int → Bool) : Dat → Dat → Option Dat
  | .int i, .int j => some (.bl (g i j))
  | _, _ => none
def ltD := cmpI fun i j => decide (i < j)
def leD := cmpI fun i j => decide (i ≤ j)
def gtD := cmpI fun i j => decide (j < i)
def geD := cmpI fun i j => decide (j ≤ i)
theorem rd_cmp {g : Int → Int → Bool} : R2D K T (rI0 fun i j => .bl (g i j)) (cmpI g) := fun S H x y dx dy d Q m rx ry e q => by
  cases rx with
  | int i =>
    cases ry with
    | int j => exact ⟨i, j, rfl, rfl, by cases e; exact q _ H (Ex.refl H) (.bl _)⟩
    | _ => cases e
  | _ => cases e
def isNonD : Dat → Bool
  | .non => true
  | _ => false
def isND : Dat → Dat → Option Dat
  | d, .non => some (.bl (isNonD d))
  | _, _ => none
def notND : Dat → Dat → Option Dat
  | d, .non => some (.bl (!isNonD d))
  | _, _ => none
theorem isNon_rep {H : Hp} {x : V} {d : Dat} (r : Rep K T H x d) : decide (x = V.non) = isNonD d := by cases r <;> rfl
theorem rd_isN : R2D K T (fun x y H Q => y = .non ∧ Q (.bl (decide (x = .non))) H) isND := fun S H x y dx dy d Q m rx ry e q => by
  cases ry with
  | non =>
    refine ⟨rfl, ?_⟩
    rw [isNon_rep rx]
    have e' : some (Dat.bl (isNonD dx)) = some d := by cases dx <;> exact e
    cases e'
    exact q _ H (Ex.refl H) (.bl _)
  | _ => cases dx <;> cases e
theorem rd_notN : R2D K T (fun x y H Q => y = .non ∧ Q (.bl (!decide (x = .non))) H) notND := fun S H x y dx dy d Q m rx ry e q => by
  cases ry with
  | non =>
    refine ⟨rfl, ?_⟩
    rw [isNon_rep rx]
    have e' : some (Dat.bl (!isNonD dx)) = some d := by cases dx <;> exact e
    cases e'
    exact q _ H (Ex.refl H) (.bl _)
  | _ => cases dx <;> cases e
def isFlat : Dat → Bool
  | .non => true
  | .bl _ => true
  | .int _ => true
  | .str _ => true
  | _ => false
/-- one sign in a text -/
def oneIn (x z : Str) : Option Bool := match x.cps.toList with
  | [c] => some (decide (c ∈ z.cps.toList))
  | _ => none
def inD (neg : Bool) : Dat → Dat → Option Dat
  | x, .tup l => if (isFlat x && l.all isFlat) = true then some (.bl (if neg then !l.any (fun y => eqvD y x) else l.any (fun y => eqvD y x))) else none
  | x, .lst l => if (shp 8 x && shp 8 (.lst l)) = true then some (.bl (if neg then !l.any (fun y => eqvD y x) else l.any (fun y => eqvD y x))) else none
  | .str x, .str z => (oneIn x z).map fun b => .bl (if neg then !b else b)
  | _, _ => none
theorem flat_rep {H : Hp} {x : V} {d : Dat} (r : Rep K T H x d) : flatV x = isFlat d := by cases r <;> rfl
theorem flats_rep {H : Hp} : ∀ {xs : List V} {ds : List Dat}, Reps K T H xs ds → xs.all flatV = ds.all isFlat
  | _, _, .nil => rfl
  | _, _, .cons r s => by rw [List.all_cons, List.all_cons, flat_rep r, flats_rep s]
theorem eqV_rep {H : Hp} {x y : V} {d e : Dat} (r : Rep K T H y e) (s : Rep K T H x d) (f : isFlat d = true) (g : isFlat e = true) : eqV y x = eqvD e d := by
  cases r <;> cases s <;> first | rfl | (cases f) | (cases g) | skip
theorem inV_rep {H : Hp} {x : V} {d : Dat} (s : Rep K T H x d) (f : isFlat d = true) : ∀ {xs : List V} {ds : List Dat}, Reps K T H xs ds → ds.all isFlat = true → inV x xs = ds.any fun y => eqvD y d
  | _, _, .nil, _ => rfl
  | _, e :: es, .cons r rs, g => by
    have g' : isFlat e = true ∧ es.all isFlat = true := by
      rw [List.all_cons, Bool.and_eq_true] at g
      exact g
    have ih := inV_rep s f rs g'.2
    unfold inV at ih ⊢
    rw [List.any_cons, List.any_cons, eqV_rep r s f g'.1, ih]
def rInAll (K : PySem.W.Frag) (neg : Bool) : R2 := fun x y H Q => rIn K neg x y H Q ∨ ((∃ d ds, Dp K H x d ∧ Dp K H y (.list ds) ∧ SeqAt.shaped d = true ∧ SeqAt.shaped (.list ds) = true ∧ Q (.bl (if neg then !ds.any fun z => PyData.eqv z d else ds.any fun z => PyData.eqv z d)) H) ∨
  ∃ (c : Nat) (z : Str), x = .str ⟨#[c]⟩ ∧ y = .str z ∧ Q (.bl (if neg then !decide (c ∈ z.cps.toList) else decide (c ∈ z.cps.toList))) H)
theorem op_inAll {X : Cx} (hu : X.A.units + 65 < cLine) : OpR X (compareOp .In) (rInAll X.K false) := op_in_seq.or ((op_inD hu).or op_in_sign)
theorem op_notInAll {X : Cx} (hu : X.A.units + 65 < cLine) : OpR X (compareOp .NotIn) (rInAll X.K true) := op_notIn_seq.or ((op_notInD hu).or op_notIn_sign)
theorem any_toPy {n : Nat} {d : Dat} (h : shp n d = true) : ∀ {l : List Dat}, (∀ e ∈ l, shp n e = true) → (toPys l).any (fun z => PyData.eqv z (toPy d)) = l.any fun y => eqvD y d
  | [], _ => rfl
  | e :: l, hl => by rw [toPys, List.any_cons, List.any_cons, eqv_toPy n e d (hl e List.mem_cons_self) h, any_toPy h fun x hx => hl x (List.mem_cons_of_mem _ hx)]
theorem shp_up : ∀ (n : Nat) (d : Dat), shp n d = true → shp (n + 1) d = true
  | n, .non, _ => rfl
  | n, .bl _, _ => rfl
  | n, .int _, _ => rfl
  | n, .str s, h => by cases n <;> exact h
  | 0, .tup _, h => by cases h
  | 0, .lst _, h => by cases h
  | n + 1, .tup l, h => by
    have h' : ∀ d ∈ l, shp n d = true := List.all_eq_true.mp h
    exact List.all_eq_true.mpr fun d hd => shp_up n d (h' d hd)
  | n + 1, .lst l, h => by
    have h' : ∀ d ∈ l, shp n d = true := List.all_eq_true.mp h
    exact List.all_eq_true.mpr fun d hd => shp_up n d (h' d hd)
  | 0, .frz _, h => by cases h
  | n + 1, .frz _, h => by cases h
  | 0, .obj _ _, h => by cases h
  | n + 1, .obj _ _, h => by cases h
theorem rd_in {neg : Bool} : R2D K T (rInAll K neg) (inD neg) := fun S H x y dx dy d Q m rx ry e q => by
  cases ry with
  | @tup p vs ds hs rs =>
    have e' : (if (isFlat dx && ds.all isFlat) = true then some (Dat.bl (if neg then !ds.any (fun y => eqvD y dx) else ds.any (fun y => eqvD y dx))) else none) = some d := by cases dx <;> exact e
    split at e'
    · rename_i z
      rw [Bool.and_eq_true] at z
      cases e'
      refine .inl ⟨p, vs, rfl, .inr (ex_t hide_ex hs), by rw [flat_rep rx]; exact z.1, by rw [flats_rep rs]; exact z.2, ?_⟩
      rw [inV_rep rx z.1 rs z.2]
      exact q _ H (Ex.refl H) (.bl _)
    · cases e'
  | @lst p vs ds hs rs =>
    have e' : (if (shp 8 dx && shp 8 (.lst ds)) = true then some (Dat.bl (if neg then !ds.any (fun y => eqvD y dx) else ds.any (fun y => eqvD y dx))) else none) = some d := by cases dx <;> exact e
    split at e'
    · rename_i z
      rw [Bool.and_eq_true] at z
      cases e'
      have za : ∀ d ∈ ds, shp 8 d = true := fun d hd => shp_up 7 d (List.all_eq_true.mp z.2 d hd)
      refine .inr (.inl ⟨toPy dx, toPys ds, (rx.mono hide_ex).dp z.1, ?_, shaped_of z.1 (by decide), ?_, ?_⟩)
      · exact (Rep.mono hide_ex (.lst hs rs)).dp (d := .lst ds) z.2
      · exact shaped_of (d := .lst ds) z.2 (by decide)
      · rw [any_toPy z.1 za]
        exact q _ H (Ex.refl H) (.bl _)
    · cases e'
  | str z =>
    cases rx with
    | str w =>
      obtain ⟨⟨l⟩⟩ := w
      simp only [inD, oneIn] at e
      match l, e with
      | [], e => cases e
      | [c], e =>
        cases e
        exact .inr (.inr ⟨c, z, rfl, rfl, q _ H (Ex.refl H) (.bl _)⟩)
      | _ :: _ :: _, e => cases e
    | _ => cases e
  | _ => cases dx <;> cases e
/-! ### items -/
def ixD : Dat → Dat → Option Dat
  | .lst l, .int i => atI l i
  | .frz l, .int i => atI l i
  | .tup l, .int i => atI l i
  | .str z, .int i => if z.length ≤ sizeLine then (atI z.cps.toList i).map fun c => .str ⟨#[c]⟩ else none
  | _, _ => none
theorem atI_rep {H : Hp} {vs : List V} {ds : List Dat} {i : Int} {d : Dat} (r : Reps K T H vs ds) (h : atI ds i = some d) : ∃ v, atI vs i = some v ∧ Rep K T H v d := by
  unfold atI at h ⊢
  rw [r.length]
  cases q : ixN ds.length i with
  | none =>
    rw [q] at h
    cases h
  | some j =>
    rw [q] at h
    obtain ⟨v, h1, h2⟩ := r.get h
    exact ⟨v, h1, h2⟩
theorem rd_ix : R2D K T (rIx K) ixD := fun S H x y dx dy d Q m rx ry e q => by
  cases rx with
  | @lst p vs ds hs rs =>
    cases ry with
    | int i =>
      obtain ⟨v, h1, h2⟩ := atI_rep rs e
      exact .inl ⟨p, vs, i, v, rfl, rfl, .inl (.inl (hide_ex _ _ hs)), h1, q v H (Ex.refl H) h2⟩
    | _ => cases e
  | @frz p vs ds hs rs =>
    cases ry with
    | int i =>
      obtain ⟨v, h1, h2⟩ := atI_rep rs e
      exact .inl ⟨p, vs, i, v, rfl, rfl, ex_l hide_ex hs, h1, q v H (Ex.refl H) h2⟩
    | _ => cases e
  | @tup p vs ds hs rs =>
    cases ry with
    | int i =>
      obtain ⟨v, h1, h2⟩ := atI_rep rs e
      exact .inr (.inl ⟨p, vs, i, v, rfl, rfl, ex_t hide_ex hs, h1, q v H (Ex.refl H) h2⟩)
    | _ => cases e
  | str z =>
    cases ry with
    | int i =>
      simp only [ixD] at e
      split at e
      · rename_i hz
        cases h : atI z.cps.toList i with
        | none =>
          rw [h] at e
          cases e
        | some c =>
          rw [h] at e
          cases e
          exact .inr (.inr ⟨z, i, c, rfl, rfl, hz, h, q _ H (Ex.refl H) (.str _)⟩)
      · cases e
    | _ => cases e
  | _ => cases e
end
section
variable {X : Cx} {T : CT} {W : WX} {ow : List Nat} {e a b c : Expr} {es : List Expr} {pos : Pos} {fa fb fc : DEnv → Res Dat}
theorem de_ix (ha : DE X T W ow a fa) (hb : DE X T W ow b fb) (hs : PlainIx b := by exact fun _ _ => rfl) : DE X T W ow (.Subscript a b pos) (vOp ixD fa fb) := pe_imp (pe_ix ix_seq ha hb hs) fun _ _ _ h => rd_ix.read h
theorem de_neg (ha : DE X T W ow a fa) : DE X T W ow (.UnaryOp .USub a pos) (v1 negD fa) := pe_imp (pe_un un_neg ha) fun σ H Q h => by
  obtain ⟨ρ, S, re, w⟩ := h
  refine Want.part re w fun x dx H1 w1 re1 e1 rx => ?_
  cases rx with
  | int i => exact ⟨i, rfl, w1 _ H1 (Ex.refl H1) (.int _)⟩
  | _ => exact w1.elim
/-- a < b < c -/
def vChainK (h : Dat → Dat → Option Dat) (fc : DEnv → Res Dat) (ρ : DEnv) (y : Dat) : Dat → Res Dat
  | .bl true => (fc ρ).bind fun w => ofO (h y w)
  | .bl false => .ok (.bl false)
  | _ => .stuck
def vChain (g h : Dat → Dat → Option Dat) (fa fb fc : DEnv → Res Dat) : DEnv → Res Dat := fun ρ => (fa ρ).bind fun x => (fb ρ).bind fun y => (ofO (g x y)).bind fun z => vChainK h fc ρ y z
theorem chain_read {r r' : R2} {g h : Dat → Dat → Option Dat} {K : PySem.W.Frag} {σ : Sg} {H : Hp} {Q : VK} (rd : R2D K T r g) (rd' : R2D K T r' h) (q : tD K T W ow (vChain g h fa fb fc) σ H Q) :
    tChain r r' (tD K T W ow fa) (tD K T W ow fb) (tD K T W ow fc) σ H Q := by
  obtain ⟨ρ, S, re, w⟩ := q
  refine Want.part re w fun x dx H1 w1 re1 e1 rx => ?_
  refine Want.part re1 w1 fun y dy H2 w2 re2 e2 ry => ?_
  cases q : g dx dy with
  | none =>
    rw [q] at w2
    exact w2.elim
  | some d =>
    rw [q] at w2
    refine rd S H2 x y dx dy d _ re2.mt (rx.mono (hide_mono e2)) ry q fun v H3 e3 rv => ?_
    have w3 : Want K T W σ H3 S (vChainK h fc ρ dy d) Q := Want.mono w2 e3
    cases rv with
    | bl k =>
      refine ⟨k, rfl, ?_⟩
      cases k with
      | false => exact w3 _ H3 (Ex.refl H3) (.bl false)
      | true =>
        show tD K T W ow fc σ H3 _
        refine Want.part (re2.mono e3) w3 fun z dz H4 w4 re4 e4 rz => ?_
        cases q' : h dy dz with
        | none =>
          rw [q'] at w4
          exact w4.elim
        | some d' =>
          rw [q'] at w4
          exact rd' S H4 y z dy dz d' Q re4.mt ((ry.mono (hide_mono e3)).mono (hide_mono e4)) rz q' w4
    | _ => exact w3.elim
end
end Dl
/-! The D layer, part 4: slices, attributes, built-ins, calls, comprehensions. -/
namespace Dl
open PySem PySem.Spec PyProof.Rows L2

/-! ### slices -/
def WantO (T : CT) (W : WX) (σ : Sg) (H : Hp) : Res (Option Int) → (Option Int → Hp → Prop) → Prop
  | .ok d, Q => ∀ H', Ex H H' → Q d H'
  | .exc c, _ => ∀ H', Ex H H' → W (T.exc c) none σ H'
  | .stuck, _ => False
def tDO (K : PySem.W.Frag) (T : CT) (W : WX) (ow : List Nat) (f : DEnv → Res (Option Int)) : TO := fun σ H Q => ∃ ρ S, RE K T ow σ ρ H S ∧ WantO T W σ H (f ρ) Q
def DO (X : Cx) (T : CT) (W : WX) (ow : List Nat) (e : Option Expr) (f : DEnv → Res (Option Int)) : Prop := PO X e (tDO X.K T W ow f)
theorem po_imp {X : Cx} {e : Option Expr} {t t' : TO} (h : PO X e t) (i : ∀ σ H Q, t' σ H Q → t σ H Q) : PO X e t' := ⟨fun pins s σ H Q I q => h.run pins s σ H Q I (i σ H Q q)⟩
def oNone : DEnv → Res (Option Int) := fun _ => .ok none
def oInt : Dat → Res (Option Int)
  | .int i => .ok (some i)
  | _ => .stuck
def oSome (f : DEnv → Res Dat) : DEnv → Res (Option Int) := fun ρ => (f ρ).bind oInt
def cutD {α : Type} (xs : List α) (lo hi : Option Int) : List α := (xs.drop (HT.sIx xs.length 0 lo)).take (HT.sIx xs.length xs.length hi - HT.sIx xs.length 0 lo)
def slD : Dat → Option Int → Option Int → Option Dat
  | .lst l, lo, hi => some (.lst (cutD l lo hi))
  | .frz l, lo, hi => some (.lst (cutD l lo hi))
  | .tup l, lo, hi => some (.tup (cutD l lo hi))
  | .str z, lo, hi => if z.length ≤ sizeLine then some (.str (cutS z lo hi)) else none
  | _, _, _ => none
def vSl (fa : DEnv → Res Dat) (fl fh : DEnv → Res (Option Int)) : DEnv → Res Dat := fun ρ => (fa ρ).bind fun x => (fl ρ).bind fun l => (fh ρ).bind fun h => ofO (slD x l h)
def fSl (fa : DEnv → Res Dat) (fl fh : DEnv → Res (Option Int)) : DEnv → Res (List Dat) := fun ρ => (fa ρ).bind fun x => (fl ρ).bind fun l => (fh ρ).bind fun h => match x with
  | .lst xs => .ok (cutD xs l h)
  | .frz xs => .ok (cutD xs l h)
  | _ => .stuck
section
variable {K : PySem.W.Frag} {T : CT} {W : WX} {H : Hp} {ow : List Nat} {σ : Sg} {ρ : DEnv} {S : List Addr}
theorem Reps.cut {vs : List V} {ds : List Dat} (r : Reps K T H vs ds) (lo hi : Option Int) : Reps K T H (cutV vs lo hi) (cutD ds lo hi) := by
  unfold cutV cutD
  rw [r.length]
  exact (r.drop _).take _
theorem Want.partO {fa : DEnv → Res (Option Int)} {k : Option Int → Res Dat} {Q : VK} {R : Option Int → Hp → Prop} (re : RE K T ow σ ρ H S) (w : Want K T W σ H S ((fa ρ).bind k) Q)
    (hk : ∀ d H1, Want K T W σ H1 S (k d) Q → RE K T ow σ ρ H1 S → Ex H H1 → R d H1) : tDO K T W ow fa σ H R := by
  refine ⟨ρ, S, re, ?_⟩
  cases q : fa ρ with
  | ok d =>
    rw [q] at w
    exact fun H' e => hk d H' (w.mono e) (re.mono e) e
  | exc c =>
    rw [q] at w
    exact w
  | stuck =>
    rw [q] at w
    exact w.elim
theorem WantF.partO {fa : DEnv → Res (Option Int)} {k : Option Int → Res (List Dat)} {Q : VK} {R : Option Int → Hp → Prop} (re : RE K T ow σ ρ H S) (w : WantF K T W σ H S ((fa ρ).bind k) Q)
    (hk : ∀ d H1, WantF K T W σ H1 S (k d) Q → RE K T ow σ ρ H1 S → Ex H H1 → R d H1) : tDO K T W ow fa σ H R := by
  refine ⟨ρ, S, re, ?_⟩
  cases q : fa ρ with
  | ok d =>
    rw [q] at w
    exact fun H' e => hk d H' (w.mono e) (re.mono e) e
  | exc c =>
    rw [q] at w
    exact w
  | stuck =>
    rw [q] at w
    exact w.elim
end
section
variable {X : Cx} {T : CT} {W : WX} {ow : List Nat} {e a b c : Expr} {es : List Expr} {pos p2 : Pos} {fa fb fc : DEnv → Res Dat} {lo hi : Option Expr} {fl fh : DEnv → Res (Option Int)}
theorem do_none : DO X T W ow none oNone := po_imp po_none fun σ H Q h => by
  obtain ⟨ρ, S, re, w⟩ := h
  exact w H (Ex.refl H)
theorem do_some (h : DE X T W ow e fa) : DO X T W ow (some e) (oSome fa) := po_imp (po_some h) fun σ H Q h => by
  obtain ⟨ρ, S, re, w⟩ := h
  refine ⟨ρ, S, re, ?_⟩
  unfold oSome at w
  cases q : fa ρ with
  | ok d =>
    rw [q] at w
    intro v H' e r
    cases r with
    | int i => exact ⟨i, rfl, w H' e⟩
    | _ => exact w.elim
  | exc c =>
    rw [q] at w
    exact w
  | stuck =>
    rw [q] at w
    exact w.elim
theorem de_slice (ha : DE X T W ow e fa) (hl : DO X T W ow lo fl) (hh : DO X T W ow hi fh) : DE X T W ow (.Subscript e (.Slice lo hi none p2) pos) (vSl fa fl fh) := pe_imp (pe_slice (sl_list.or (sl_tupA.or sl_str)) ha hl hh) fun σ H Q h => by
  obtain ⟨ρ, S, re, w⟩ := h
  refine Want.part re w fun x dx H1 w1 re1 e1 rx => ?_
  refine Want.partO re1 w1 fun l H2 w2 re2 e2 => ?_
  refine Want.partO re2 w2 fun h H3 w3 re3 e3 => ?_
  have rx3 := (rx.mono (hide_mono e2)).mono (hide_mono e3)
  cases rx3 with
  | @lst p vs ds hs rs => exact .inl ⟨p, vs, rfl, .inl (.inl (hide_ex _ _ hs)), fun p2 np => w3 _ _ (Ex.new np) (rep_newL re3.mt np (rs.cut l h))⟩
  | @frz p vs ds hs rs => exact .inl ⟨p, vs, rfl, ex_l hide_ex hs, fun p2 np => w3 _ _ (Ex.new np) (rep_newL re3.mt np (rs.cut l h))⟩
  | @tup p vs ds hs rs =>
    refine .inr (.inl ⟨p, vs, rfl, ex_t hide_ex hs, fun hw => ?_, fun hw p2 np => w3 _ _ (Ex.new np) (rep_newT re3.mt np (rs.cut l h))⟩)
    have e0 : cutD ds l h = ds := by
      unfold cutD
      rw [rs.length] at hw
      rw [hw.1, hw.2, List.drop_zero, Nat.sub_zero, List.take_length]
    have w4 : Want X.K T W σ H3 S (.ok (.tup (cutD ds l h))) Q := w3
    rw [e0] at w4
    exact w4 _ H3 (Ex.refl H3) (.tup hs rs)
  | str z =>
    have w4 : Want X.K T W σ H3 S (ofO (if z.length ≤ sizeLine then some (.str (cutS z l h)) else none)) Q := w3
    by_cases hz : z.length ≤ sizeLine
    · rw [if_pos hz] at w4
      exact .inr (.inr ⟨z, rfl, hz, w4 _ H3 (Ex.refl H3) (.str _)⟩)
    · rw [if_neg hz] at w4
      exact w4.elim
  | _ => exact w3.elim
theorem df_slice (ha : DE X T W ow e fa) (hl : DO X T W ow lo fl) (hh : DO X T W ow hi fh) : DF X T W ow (.Subscript e (.Slice lo hi none p2) pos) (fSl fa fl fh) := pe_imp (pe_slice sl_list ha hl hh) fun σ H Q h => by
  obtain ⟨ρ, S, re, w⟩ := h
  refine WantF.part re w fun x dx H1 w1 re1 e1 rx => ?_
  refine WantF.partO re1 w1 fun l H2 w2 re2 e2 => ?_
  refine WantF.partO re2 w2 fun h H3 w3 re3 e3 => ?_
  have rx3 := (rx.mono (hide_mono e2)).mono (hide_mono e3)
  cases rx3 with
  | @lst p vs ds hs rs => exact ⟨p, vs, rfl, .inl (.inl (hide_ex _ _ hs)), fun p2 np => w3 p2 _ _ (Ex.new np) np upd_same ((rs.cut l h).mono (hide_new (Ex.new np) np))⟩
  | @frz p vs ds hs rs => exact ⟨p, vs, rfl, ex_l hide_ex hs, fun p2 np => w3 p2 _ _ (Ex.new np) np upd_same ((rs.cut l h).mono (hide_new (Ex.new np) np))⟩
  | _ => exact w3.elim

/-! ### attributes -/
theorem lookup_at {ns : List Str} {f : Str} : ∀ {fs : List (Str × V)} {ns : List Str} {j : Nat}, fs.map (·.1) = ns → ns.findIdx? (· == f) = some j → fs.lookup f = (fs.map (·.2))[j]?
  | [], ns, j, h, h2 => by
    subst h
    cases h2
  | (g, v) :: fs, ns, j, h, h2 => by
    subst h
    rw [List.map_cons, List.findIdx?_cons] at h2
    by_cases z : (g == f) = true
    · rw [if_pos z] at h2
      cases h2
      have z' : g = f := eq_of_beq z
      subst z'
      simp [List.lookup]
    · rw [if_neg z] at h2
      cases q : List.findIdx? (fun x => x == f) (List.map (fun x => x.1) fs) with
      | none =>
        rw [q] at h2
        cases h2
      | some i =>
        rw [q] at h2
        cases h2
        have ih := lookup_at (ns := ns) (fs := fs) rfl q
        have z2 : (f == g) = false := by
          cases y : f == g with
          | false => rfl
          | true =>
            have y' : f = g := eq_of_beq y
            subst y'
            exact absurd (beq_self_eq_true f) z
        rw [List.lookup, z2]
        simpa using ih
def fldD (c j : Nat) : Dat → Option Dat
  | .obj c' l => if c' = c then l[j]? else none
  | _ => none
theorem de_fld {f : Str} {c j : Nat} (ha : DE X T W ow e fa) (cl : Cls X.K (T.addr c)) (na : NoAttr X.K (T.addr c) f) (hj : (T.names c).findIdx? (· == f) = some j) (hb : attributeBase e f X.env (eval e X.env) = eval e X.env := by rfl) :
    DE X T W ow (.Attribute e f pos) (v1 (fldD c j) fa) := pe_imp (pe_fld ha hb) fun σ H Q h => by
  obtain ⟨ρ, S, re, w⟩ := h
  refine Want.part re w fun x dx H1 w1 re1 e1 rx => ?_
  cases rx with
  | @obj p dx c' fs ds hs hn rs =>
    have w2 : Want X.K T W σ H1 S (ofO (if c' = c then ds[j]? else none)) Q := w1
    by_cases z : c' = c
    · subst z
      rw [if_pos rfl] at w2
      cases q : ds[j]? with
      | none =>
        rw [q] at w2
        exact w2.elim
      | some d =>
        rw [q] at w2
        obtain ⟨v, h1, h2⟩ := rs.get q
        exact ⟨p, _, dx, fs, v, rfl, hide_ex _ _ hs, cl, na, (lookup_at (ns := []) hn hj).trans h1, w2 v H1 (Ex.refl H1) h2⟩
    · rw [if_neg z] at w2
      exact w2.elim
  | _ => exact w1.elim

/-! ### built-ins -/
def RcD (K : PySem.W.Frag) (T : CT) (r : List V → Hp → VK → Prop) (g : List Dat → Option Dat) : Prop := ∀ (S : List Addr) (H : Hp) (vs : List V) (ds : List Dat) (d : Dat) (Q : VK), Hid H S → Reps K T (hide H S) vs ds → g ds = some d →
  (∀ v H', Ex H H' → Rep K T (hide H' S) v d → Q v H') → r vs H Q
def vCB (g : List Dat → Option Dat) (fs : DEnv → Res (List Dat)) : DEnv → Res Dat := fun ρ => (fs ρ).bind fun ds => ofO (g ds)
theorem RcD.read {K : PySem.W.Frag} {r : List V → Hp → VK → Prop} {g : List Dat → Option Dat} {fs : DEnv → Res (List Dat)} {σ : Sg} {H : Hp} {Q : VK} (rd : RcD K T r g) (h : tD K T W ow (vCB g fs) σ H Q) : tCB r (tDA K T W ow fs) σ H Q := by
  obtain ⟨ρ, S, re, w⟩ := h
  refine Want.partA re w fun vs ds H1 w1 re1 e1 rs => ?_
  cases q : g ds with
  | none =>
    rw [q] at w1
    exact w1.elim
  | some d =>
    rw [q] at w1
    exact rd S H1 vs ds d Q re1.mt rs q w1
variable {x : Str} {id Ty : String} {r : List V → Hp → VK → Prop} {g : List Dat → Option Dat} {fs : DEnv → Res (List Dat)} {p : Pos}
theorem de_callB (hc : CallR X (.builtin id) r) (rd : RcD X.K T r g) (hm : X.mg x = none) (hv : bootBuiltins x = some (.builtin id)) (ha : DA X T W ow (e :: es) fs) (hg : Gl X x := by rfl) (hn : x ≠ "__name__" := by decide) (hdb : (x == ("__debug__" : Str)) = false := by decide)
    (he : starEach (e :: es) X.env = (false, eval e X.env) :: starEach es X.env := by rfl) (hpl : (backTo pos (starEach es X.env)).any (·.1) = false := by rfl) : DE X T W ow (.Call (.Name x p) (e :: es) [] pos) (vCB g fs) :=
  pe_imp (pe_callB hc hg hm hv ha hn hdb he hpl) fun _ _ _ h => rd.read h
theorem de_callTy (hc : CallR X (.type Ty) r) (rd : RcD X.K T r g) (hm : X.mg x = none) (hv : bootBuiltins x = some (.type Ty)) (ha : DA X T W ow (e :: es) fs) (hg : Gl X x := by rfl) (hn : x ≠ "__name__" := by decide) (hdb : (x == ("__debug__" : Str)) = false := by decide)
    (he : starEach (e :: es) X.env = (false, eval e X.env) :: starEach es X.env := by rfl) (hpl : (backTo pos (starEach es X.env)).any (·.1) = false := by rfl) : DE X T W ow (.Call (.Name x p) (e :: es) [] pos) (vCB g fs) :=
  pe_imp (pe_callTy hc hg hm hv ha hn hdb he hpl) fun _ _ _ h => rd.read h
end
/-- the data of each built-in -/
def lenD : List Dat → Option Dat
  | [.str s] => if s.length ≤ sizeLine then some (.int s.length) else none
  | [.lst l] => some (.int l.length)
  | [.frz l] => some (.int l.length)
  | [.tup l] => some (.int l.length)
  | _ => none
def absD : List Dat → Option Dat
  | [.int i] => some (.int (if i < 0 then -i else i))
  | _ => none
def intD : List Dat → Option Dat
  | [.int i] => some (.int i)
  | [.bl k] => some (.int (if k then 1 else 0))
  | _ => none
def max2D : List Dat → Option Dat
  | [.int i, .int j] => some (.int (if j > i then j else i))
  | _ => none
def min2D : List Dat → Option Dat
  | [.int i, .int j] => some (.int (if j < i then j else i))
  | _ => none
def boolsD : List Dat → Option (List Bool)
  | [] => some []
  | .bl b :: r => (boolsD r).map fun l => b :: l
  | _ => none
def intsD : List Dat → Option (List Int)
  | [] => some []
  | .int b :: r => (intsD r).map fun l => b :: l
  | _ => none
def allD : List Dat → Option Dat
  | [.lst l] => (boolsD l).map fun bs => .bl (bs.all id)
  | _ => none
def anyD : List Dat → Option Dat
  | [.lst l] => (boolsD l).map fun bs => .bl (bs.any id)
  | _ => none
def sumD : List Dat → Option Dat
  | [.lst l] => (intsD l).map fun bs => .int bs.sum
  | _ => none
def tupleD : List Dat → Option Dat
  | [.lst l] => some (.tup l)
  | [.frz l] => some (.tup l)
  | [.tup l] => some (.tup l)
  | _ => none
def listD : List Dat → Option Dat
  | [.lst l] => some (.lst l)
  | [.frz l] => some (.lst l)
  | [.tup l] => some (.lst l)
  | _ => none
section
variable {K : PySem.W.Frag} {T : CT} {H : Hp}
theorem Reps.boolsD : ∀ {vs : List V} {ds : List Dat} {bs : List Bool}, Reps K T H vs ds → Dl.boolsD ds = some bs → vs = bs.map V.bl
  | _, _, _, .nil, h => by
    cases h
    rfl
  | _, _, _, .cons (d := d) (ds := ds) r rs, h => by
    cases r with
    | bl b =>
      unfold Dl.boolsD at h
      cases q : Dl.boolsD ds with
      | none =>
        rw [q] at h
        cases h
      | some l =>
        rw [q] at h
        cases h
        rw [Reps.boolsD rs q]
        rfl
    | _ => cases h
theorem Reps.intsD : ∀ {vs : List V} {ds : List Dat} {bs : List Int}, Reps K T H vs ds → Dl.intsD ds = some bs → vs = bs.map V.int
  | _, _, _, .nil, h => by
    cases h
    rfl
  | _, _, _, .cons (d := d) (ds := ds) r rs, h => by
    cases r with
    | int b =>
      unfold Dl.intsD at h
      cases q : Dl.intsD ds with
      | none =>
        rw [q] at h
        cases h
      | some l =>
        rw [q] at h
        cases h
        rw [Reps.intsD rs q]
        rfl
    | _ => cases h
theorem Reps.of_ints : ∀ (l : List Int), Reps K T H (l.map V.int) (l.map Dat.int)
  | [] => .nil
  | i :: l => .cons (.int i) (Reps.of_ints l)
theorem rc_len : RcD K T (fun xs H Q => ∃ x n, xs = [x] ∧ LenV K x H n ∧ Q (.int n) H) lenD := fun S H vs ds d Q m rs e q => by
  cases rs with
  | nil => cases e
  | cons r rs =>
    cases rs with
    | cons _ _ => cases r <;> cases e
    | nil =>
      cases r with
      | str s =>
        simp only [lenD] at e
        split at e
        · rename_i z
          cases e
          exact ⟨_, s.length, rfl, ⟨z, rfl⟩, q _ H (Ex.refl H) (.int _)⟩
        · cases e
      | @lst p vs ds hs rs =>
        cases e
        exact ⟨_, ds.length, rfl, .inl ⟨vs, .inl (.inl (hide_ex _ _ hs)), rs.length.symm⟩, q _ H (Ex.refl H) (.int _)⟩
      | @frz p vs ds hs rs =>
        cases e
        exact ⟨_, ds.length, rfl, .inl ⟨vs, ex_l hide_ex hs, rs.length.symm⟩, q _ H (Ex.refl H) (.int _)⟩
      | @tup p vs ds hs rs =>
        cases e
        exact ⟨_, ds.length, rfl, .inr ⟨vs, ex_t hide_ex hs, rs.length.symm⟩, q _ H (Ex.refl H) (.int _)⟩
      | _ => cases e
theorem rc_abs : RcD K T (fun xs H Q => ∃ i, xs = [.int i] ∧ Q (.int (if i < 0 then -i else i)) H) absD := fun S H vs ds d Q m rs e q => by
  cases rs with
  | nil => cases e
  | cons r rs =>
    cases rs with
    | cons _ _ => cases r <;> cases e
    | nil =>
      cases r with
      | int i =>
        cases e
        exact ⟨i, rfl, q _ H (Ex.refl H) (.int _)⟩
      | _ => cases e
theorem rc_int : RcD K T (fun xs H Q => (∃ i, xs = [.int i] ∧ Q (.int i) H) ∨ ∃ k, xs = [.bl k] ∧ Q (.int (if k then 1 else 0)) H) intD := fun S H vs ds d Q m rs e q => by
  cases rs with
  | nil => cases e
  | cons r rs =>
    cases rs with
    | cons _ _ => cases r <;> cases e
    | nil =>
      cases r with
      | int i =>
        cases e
        exact .inl ⟨i, rfl, q _ H (Ex.refl H) (.int _)⟩
      | bl k =>
        cases e
        exact .inr ⟨k, rfl, q _ H (Ex.refl H) (.int _)⟩
      | _ => cases e
theorem rc_max2 : RcD K T (fun xs H Q => ∃ i j, xs = [.int i, .int j] ∧ Q (.int (if j > i then j else i)) H) max2D := fun S H vs ds d Q m rs e q => by
  cases rs with
  | nil => cases e
  | cons r rs =>
    cases rs with
    | nil => cases r <;> cases e
    | cons r2 rs =>
      cases rs with
      | cons _ _ => cases r <;> cases r2 <;> cases e
      | nil =>
        cases r with
        | int i =>
          cases r2 with
          | int j =>
            cases e
            exact ⟨i, j, rfl, q _ H (Ex.refl H) (.int _)⟩
          | _ => cases e
        | _ => cases e
theorem rc_min2 : RcD K T (fun xs H Q => ∃ i j, xs = [.int i, .int j] ∧ Q (.int (if j < i then j else i)) H) min2D := fun S H vs ds d Q m rs e q => by
  cases rs with
  | nil => cases e
  | cons r rs =>
    cases rs with
    | nil => cases r <;> cases e
    | cons r2 rs =>
      cases rs with
      | cons _ _ => cases r <;> cases r2 <;> cases e
      | nil =>
        cases r with
        | int i =>
          cases r2 with
          | int j =>
            cases e
            exact ⟨i, j, rfl, q _ H (Ex.refl H) (.int _)⟩
          | _ => cases e
        | _ => cases e
/-- one list -/
theorem rc_list {r : List V → Hp → VK → Prop} {g : List Dat → Option Dat} {k : List Dat → Option Dat} (hg : ∀ ds d, g ds = some d → ∃ l, ds = [.lst l] ∧ k l = some d)
    (h : ∀ (S : List Addr) (H : Hp) (p : Addr) (vs : List V) (l : List Dat) (d : Dat) (Q : VK), Hid H S → H p = some (.lst vs) → Reps K T (hide H S) vs l → k l = some d → (∀ v H', Ex H H' → Rep K T (hide H' S) v d → Q v H') → r [.ref p] H Q) : RcD K T r g :=
  fun S H vs ds d Q m rs e q => by
    obtain ⟨l, rfl, e2⟩ := hg ds d e
    cases rs with
    | cons r rs =>
      cases rs
      cases r with
      | @lst p vs _ hs rs => exact h S H p vs l d Q m (hide_ex _ _ hs) rs e2 q
theorem rc_all : RcD K T (rAll K) allD := rc_list (k := fun l => (boolsD l).map fun bs => .bl (bs.all id)) (fun ds d e => by
  unfold allD at e
  split at e
  · exact ⟨_, rfl, e⟩
  · cases e) fun S H p vs l d Q m hs rs e q => by
    cases z : boolsD l with
    | none =>
      rw [z] at e
      cases e
    | some bs =>
      rw [z] at e
      cases e
      have := rs.boolsD z
      subst this
      exact ⟨p, bs, rfl, .inl (.inl hs), q _ H (Ex.refl H) (.bl _)⟩
theorem rc_any : RcD K T (rAny K) anyD := rc_list (k := fun l => (boolsD l).map fun bs => .bl (bs.any id)) (fun ds d e => by
  unfold anyD at e
  split at e
  · exact ⟨_, rfl, e⟩
  · cases e) fun S H p vs l d Q m hs rs e q => by
    cases z : boolsD l with
    | none =>
      rw [z] at e
      cases e
    | some bs =>
      rw [z] at e
      cases e
      have := rs.boolsD z
      subst this
      exact ⟨p, bs, rfl, .inl (.inl hs), q _ H (Ex.refl H) (.bl _)⟩
theorem rc_sum : RcD K T (rSum K) sumD := rc_list (k := fun l => (intsD l).map fun bs => .int bs.sum) (fun ds d e => by
  unfold sumD at e
  split at e
  · exact ⟨_, rfl, e⟩
  · cases e) fun S H p vs l d Q m hs rs e q => by
    cases z : intsD l with
    | none =>
      rw [z] at e
      cases e
    | some bs =>
      rw [z] at e
      cases e
      have := rs.intsD z
      subst this
      exact ⟨p, bs, rfl, .inl (.inl hs), q _ H (Ex.refl H) (.int _)⟩
theorem rc_tuple : RcD K T (fun xs H Q => ∃ p ys, xs = [.ref p] ∧ ((SqL K H p ys ∧ ∀ l, H l = none → Q (.ref l) (upd H l (.tup ys))) ∨ (SqT K H p ys ∧ Q (.ref p) H))) tupleD := fun S H vs ds d Q m rs e q => by
  cases rs with
  | nil => cases e
  | cons r rs =>
    cases rs with
    | cons _ _ => cases r <;> cases e
    | nil =>
      cases r with
      | @lst p vs ds hs rs =>
        cases e
        exact ⟨p, vs, rfl, .inl ⟨.inl (.inl (hide_ex _ _ hs)), fun l nl => q _ _ (Ex.new nl) (rep_newT m nl rs)⟩⟩
      | @frz p vs ds hs rs =>
        cases e
        exact ⟨p, vs, rfl, .inl ⟨ex_l hide_ex hs, fun l nl => q _ _ (Ex.new nl) (rep_newT m nl rs)⟩⟩
      | @tup p vs ds hs rs =>
        cases e
        exact ⟨p, vs, rfl, .inr ⟨ex_t hide_ex hs, q _ H (Ex.refl H) (.tup hs rs)⟩⟩
      | _ => cases e
theorem rc_listOf : RcD K T (fun xs H Q => ∃ p ys, xs = [.ref p] ∧ (SqL K H p ys ∨ SqT K H p ys) ∧ ∀ l, H l = none → Q (.ref l) (upd H l (.lst ys))) listD := fun S H vs ds d Q m rs e q => by
  cases rs with
  | nil => cases e
  | cons r rs =>
    cases rs with
    | cons _ _ => cases r <;> cases e
    | nil =>
      cases r with
      | @lst p vs ds hs rs =>
        cases e
        exact ⟨p, vs, rfl, .inl (.inl (.inl (hide_ex _ _ hs))), fun l nl => q _ _ (Ex.new nl) (rep_newL m nl rs)⟩
      | @frz p vs ds hs rs =>
        cases e
        exact ⟨p, vs, rfl, .inl (ex_l hide_ex hs), fun l nl => q _ _ (Ex.new nl) (rep_newL m nl rs)⟩
      | @tup p vs ds hs rs =>
        cases e
        exact ⟨p, vs, rfl, .inr (ex_t hide_ex hs), fun l nl => q _ _ (Ex.new nl) (rep_newL m nl rs)⟩
      | _ => cases e
end
/-! ### isinstance of a built-in class -/
def isTy : String → Dat → Option Bool
  | n, .non => some (n == "NoneType")
  | n, .bl _ => some (n == "bool" || n == "int")
  | n, .int _ => some (n == "int")
  | n, .str _ => some (n == "str")
  | n, .tup _ => some (n == "tuple")
  | n, .lst _ => some (n == "list")
  | n, .frz _ => some (n == "list")
  | _, .obj _ _ => none
def isiD (n : String) (d : Dat) : Option Dat := (isTy n d).map .bl
/-- a built-in class of which isinstance is known -/
structure KitT (n : String) : Prop where
  non : kitB "NoneType" n = some (n == "NoneType")
  bl : kitB "bool" n = some (n == "bool" || n == "int")
  int : kitB "int" n = some (n == "int")
  str : kitB "str" n = some (n == "str")
  tup : kitB "tuple" n = some (n == "tuple")
  lst : kitB "list" n = some (n == "list")
theorem kit_int : KitT "int" := ⟨by decide +kernel, by decide +kernel, by decide +kernel, by decide +kernel, by decide +kernel, by decide +kernel⟩
theorem kit_bool : KitT "bool" := ⟨by decide +kernel, by decide +kernel, by decide +kernel, by decide +kernel, by decide +kernel, by decide +kernel⟩
theorem kit_str : KitT "str" := ⟨by decide +kernel, by decide +kernel, by decide +kernel, by decide +kernel, by decide +kernel, by decide +kernel⟩
theorem kit_tuple : KitT "tuple" := ⟨by decide +kernel, by decide +kernel, by decide +kernel, by decide +kernel, by decide +kernel, by decide +kernel⟩
theorem kit_list : KitT "list" := ⟨by decide +kernel, by decide +kernel, by decide +kernel, by decide +kernel, by decide +kernel, by decide +kernel⟩
section
variable {X : Cx} {T : CT} {W : WX} {ow : List Nat} {e a b c : Expr} {es : List Expr} {pos p p2 : Pos} {fa fb fc : DEnv → Res Dat}
theorem de_isi {y : Str} {n : String} (k : KitT n) (hm : X.mg "isinstance" = none) (hmy : X.mg y = none) (hvy : bootBuiltins y = some (.type n)) (ha : DE X T W ow e fa) (hg : Gl X "isinstance" := by rfl) (hgy : Gl X y := by rfl) (hny : y ≠ "__name__" := by decide) (hdy : (y == ("__debug__" : Str)) = false := by decide)
    (h1 : starEach [e, .Name y p2] X.env = (false, eval e X.env) :: starEach [.Name y p2] X.env := by rfl) (h2 : starEach [.Name y p2] X.env = (false, eval (.Name y p2) X.env) :: starEach [] X.env := by rfl) (hpl : (backTo pos (starEach [.Name y p2] X.env)).any (·.1) = false := by rfl) :
    DE X T W ow (.Call (.Name "isinstance" p) [e, .Name y p2] [] pos) (v1 (isiD n) fa) := pe_imp (pe_callB call_isi hg hm (by decide +kernel) (pa_cons ha (pa_cons (pe_bltn (v := .ty n) hgy hmy hvy rfl hny hdy) pa_nil h2) h1) (by decide) (by decide) h1 hpl) fun σ H Q h => by
  obtain ⟨ρ, S, re, w⟩ := h
  refine Want.part re w fun x dx H1 w1 re1 e1 rx => ?_
  show rIsi X.K [x, .ty n] H1 Q
  cases rx with
  | non => exact ⟨_, _, _, _, _, rfl, .ty n, .base .non, kit_ty k.non, w1 _ H1 (Ex.refl H1) (.bl _)⟩
  | bl z => exact ⟨_, _, _, _, _, rfl, .ty n, .base (.bl z), kit_ty k.bl, w1 _ H1 (Ex.refl H1) (.bl _)⟩
  | int z => exact ⟨_, _, _, _, _, rfl, .ty n, .base (.int z), kit_ty k.int, w1 _ H1 (Ex.refl H1) (.bl _)⟩
  | str z => exact ⟨_, _, _, _, _, rfl, .ty n, .base (.str z), kit_ty k.str, w1 _ H1 (Ex.refl H1) (.bl _)⟩
  | tup hs rs =>
    rcases ex_t hide_ex hs with (hs | ⟨o, hs⟩) | ⟨o, its, m, hs, hc, _⟩
    · exact ⟨_, _, _, _, _, rfl, .ty n, .base (.tup hs), kit_ty k.tup, w1 _ H1 (Ex.refl H1) (.bl _)⟩
    · exact ⟨_, _, _, _, _, rfl, .ty n, .fTuple hs, kit_ty k.tup, w1 _ H1 (Ex.refl H1) (.bl _)⟩
    · exact ⟨_, _, _, _, _, rfl, .ty n, .kTuple hs hc, kit_ty k.tup, w1 _ H1 (Ex.refl H1) (.bl _)⟩
  | lst hs rs => exact ⟨_, _, _, _, _, rfl, .ty n, .base (.lst (hide_ex _ _ hs)), kit_ty k.lst, w1 _ H1 (Ex.refl H1) (.bl _)⟩
  | frz hs rs =>
    rcases ex_l hide_ex hs with (hs | ⟨o, hs⟩) | ⟨o, its, m, hs, hc, _⟩
    · exact ⟨_, _, _, _, _, rfl, .ty n, .base (.lst hs), kit_ty k.lst, w1 _ H1 (Ex.refl H1) (.bl _)⟩
    · exact ⟨_, _, _, _, _, rfl, .ty n, .base (.frz hs), kit_ty k.lst, w1 _ H1 (Ex.refl H1) (.bl _)⟩
    · exact ⟨_, _, _, _, _, rfl, .ty n, .kList hs hc, kit_ty k.lst, w1 _ H1 (Ex.refl H1) (.bl _)⟩
  | obj _ _ _ => exact w1.elim

/-! ### defs of one's own -/
end
/-- a def's promise: it computes F (n arguments) -/
def spD (K : PySem.W.Frag) (T : CT) (n : Nat) (F : List Dat → Res Dat) : Sp := fun vs H Q E => vs.length = n ∧ ∃ S ds, Hid H S ∧ Reps K T (hide H S) vs ds ∧ Want K T (fun cls d _ H => E cls d H) [] H S (F ds) Q
structure FnD (P : Program) (w : World) (K : PySem.W.Frag) (mg : Str → Option Value) (base : Heap) (T : CT) (k : Nat) (x : Str) (n : Nat) (F : List Dat → Res Dat) : Prop where
  ex : ∃ f fd ps, mg x = some (.ref f) ∧ PySem.W.keepIn K (.ref f) = true ∧ Binds K fd ps [] ∧ FnOk P w K mg base (L2.CX P w) k f fd ps (spD K T n F)
def vCall (n : Nat) (F : List Dat → Res Dat) (fs : DEnv → Res (List Dat)) : DEnv → Res Dat := fun ρ => (fs ρ).bind fun ds => if ds.length = n then F ds else .stuck
abbrev wNo : WX := fun _ _ _ _ => False
theorem passNo {X : Cx} (σ : Sg) : PassesAt (L2.CX X.prog X.w) X σ (WE wNo σ) := fun _ _ _ _ _ _ c => by
  obtain ⟨_, _, _, _, _, _, _, _, _, _, _, _, h⟩ := c
  exact h.elim
section
variable {X : Cx} {T : CT} {W : WX} {ow : List Nat} {e a b c : Expr} {es : List Expr} {pos p p2 : Pos} {fa fb fc : DEnv → Res Dat} {fs : DEnv → Res (List Dat)}
theorem de_call {k j n : Nat} {x : Str} {F : List Dat → Res Dat} (c : FnD X.prog X.w X.K X.mg X.base T k x n F) (hr : Room j X.A) (hk : k ≤ j) (hp : ∀ σ, PassesAt (L2.CX X.prog X.w) X σ (WE W σ)) (ha : DA X T W ow (e :: es) fs) (hg : Gl X x := by rfl)
    (hdb : (x == ("__debug__" : Str)) = false := by decide) (he : starEach (e :: es) X.env = (false, eval e X.env) :: starEach es X.env := by rfl) (hpl : (backTo pos (starEach es X.env)).any (·.1) = false := by rfl) :
    DE X T W ow (.Call (.Name x p) (e :: es) [] pos) (vCall n F fs) := by
  obtain ⟨f, fd, ps, h1, h2, h3, h4⟩ := c.ex
  refine pe_imp (pe_callS h4 (hr.mono hk) hg h1 h2 h3 hp ha hdb he hpl) fun σ H Q h => ?_
  obtain ⟨ρ, S, re, w⟩ := h
  refine Want.partA re w fun vs ds H1 w1 re1 e1 rs => ?_
  split at w1
  · rename_i hl
    refine ⟨by rw [rs.length]; exact hl, S, ds, re1.mt, rs, ?_⟩
    revert w1
    cases F ds with
    | ok d => exact fun w1 => w1
    | exc c => exact fun w1 => w1
    | stuck => exact fun w1 => w1
  · exact w1.elim
end
end Dl
/-! The D layer, part 5: what is walked; targets; comprehensions; objects made. -/
namespace Dl
open PySem PySem.Spec PyProof.Rows L2

/-! ### what is walked -/
structure Src (K : PySem.W.Frag) (T : CT) (S : List Addr) (items : List Dat) (J : It) (H1 : Hp) : Prop where
  ex : ∃ (G : Hp → Prop) (Y : Nat → Hp → V → Hp → Prop), Walk J items.length G Y ∧ (∀ H' S', Ex (hide H1 S) (hide H' S') → G H') ∧
    ∀ i d x H2 H3 S', items[i]? = some d → Ex (hide H1 S) (hide H2 S') → Hid H2 S' → Y i H2 x H3 → Ex H2 H3 ∧ Rep K T (hide H3 S') x d
def WantI (K : PySem.W.Frag) (T : CT) (W : WX) (σ : Sg) (H : Hp) (S : List Addr) : Res (List Dat) → (It → Hp → Prop) → Prop
  | .ok items, R => ∀ J H1, Ex H H1 → Src K T S items J H1 → R J H1
  | .exc c, _ => ∀ H', Ex H H' → W (T.exc c) none σ H'
  | .stuck, _ => False
def tDI (K : PySem.W.Frag) (T : CT) (W : WX) (ow : List Nat) (g : DEnv → Res (List Dat)) : TI := fun σ H R => ∃ ρ S, RE K T ow σ ρ H S ∧ WantI K T W σ H S (g ρ) R
def DI (X : Cx) (T : CT) (W : WX) (ow : List Nat) (tg iter : Expr) (g : DEnv → Res (List Dat)) : Prop := PI X tg iter (tDI X.K T W ow g)
theorem pi_imp {X : Cx} {tg iter : Expr} {t t' : TI} (h : PI X tg iter t) (i : ∀ σ H R, t' σ H R → t σ H R) : PI X tg iter t' := ⟨fun pins s σ H R I q => h.run pins s σ H R I (i σ H R q)⟩
theorem PI.or {X : Cx} {tg iter : Expr} {t t' : TI} (h : PI X tg iter t) (h' : PI X tg iter t') : PI X tg iter (fun σ H R => t σ H R ∨ t' σ H R) := ⟨fun pins s σ H R I q => q.elim (h.run pins s σ H R I) (h'.run pins s σ H R I)⟩
theorem WantI.mono {K : PySem.W.Frag} {T : CT} {W : WX} {σ : Sg} {H H' : Hp} {S : List Addr} {r : Res (List Dat)} {R : It → Hp → Prop} (w : WantI K T W σ H S r R) (e : Ex H H') : WantI K T W σ H' S r R := by
  cases r with
  | ok items => exact fun J H1 e1 s => w J H1 (e.trans e1) s
  | exc c => exact fun H2 e2 => w H2 (e.trans e2)
  | stuck => exact w
theorem WantI.part {K : PySem.W.Frag} {T : CT} {W : WX} {ow : List Nat} {ρ : DEnv} {σ : Sg} {H : Hp} {S : List Addr} {fa : DEnv → Res Dat} {k : Dat → Res (List Dat)} {Q : It → Hp → Prop} {R : VK} (re : RE K T ow σ ρ H S) (w : WantI K T W σ H S ((fa ρ).bind k) Q)
    (hk : ∀ v d H1, WantI K T W σ H1 S (k d) Q → RE K T ow σ ρ H1 S → Ex H H1 → Rep K T (hide H1 S) v d → R v H1) : tD K T W ow fa σ H R :=
  tD_bind (P := fun H r => WantI K T W σ H S r Q) re w (fun _ w => w) (fun w => w) fun v d H1 w e r => hk v d H1 (w.mono e) (re.mono e) e r
theorem WantI.partA {K : PySem.W.Frag} {T : CT} {W : WX} {ow : List Nat} {ρ : DEnv} {σ : Sg} {H : Hp} {S : List Addr} {fa : DEnv → Res (List Dat)} {k : List Dat → Res (List Dat)} {Q : It → Hp → Prop} {R : List V → Hp → Prop} (re : RE K T ow σ ρ H S) (w : WantI K T W σ H S ((fa ρ).bind k) Q)
    (hk : ∀ vs ds H1, WantI K T W σ H1 S (k ds) Q → RE K T ow σ ρ H1 S → Ex H H1 → Reps K T (hide H1 S) vs ds → R vs H1) : tDA K T W ow fa σ H R := by
  refine ⟨ρ, S, re, ?_⟩
  cases q : fa ρ with
  | ok d =>
    rw [q] at w
    exact fun vs H' e r => hk vs d H' (w.mono e) (re.mono e) e r
  | exc c =>
    rw [q] at w
    exact w
  | stuck =>
    rw [q] at w
    exact w.elim
theorem walk_of_eq {J : It} {n m : Nat} {G : Hp → Prop} {Y : Nat → Hp → V → Hp → Prop} (h : Walk J n G Y) (e : m = n) : Walk J m G Y := e ▸ h
section
variable {K : PySem.W.Frag} {T : CT} {S : List Addr} {H1 : Hp} {vs : List V} {ds : List Dat} {a : Addr}
theorem src_list (h : SqL K (hide H1 S) a vs) (rs : Reps K T (hide H1 S) vs ds) : Src K T S ds (Itl K a) H1 :=
  ⟨_, _, walk_of_eq walk_list rs.length.symm, fun H' S' e => ex_l hide_ex (ex_l e h), fun i d x H2 H3 S' hi e m y => by
    obtain ⟨rfl, hy⟩ := y
    obtain ⟨v, h1, h2⟩ := rs.get hi
    rw [h1] at hy
    cases hy
    exact ⟨Ex.refl _, h2.mono e⟩⟩
theorem src_tup (h : SqT K (hide H1 S) a vs) (rs : Reps K T (hide H1 S) vs ds) : Src K T S ds (Itt K a) H1 :=
  ⟨_, _, walk_of_eq walk_tup rs.length.symm, fun H' S' e => ex_t hide_ex (ex_t e h), fun i d x H2 H3 S' hi e m y => by
    obtain ⟨rfl, hy⟩ := y
    obtain ⟨v, h1, h2⟩ := rs.get hi
    rw [h1] at hy
    cases hy
    exact ⟨Ex.refl _, h2.mono e⟩⟩
theorem src_str {z : Str} : Src K T S (z.cps.toList.map fun c => .str ⟨#[c]⟩) (Its z) H1 :=
  ⟨_, _, walk_of_eq walk_str (by rw [List.length_map, Array.length_toList]), fun _ _ _ => trivial, fun i d x H2 H3 S' hi e m y => by
    obtain ⟨rfl, c, hc, rfl⟩ := y
    rw [List.getElem?_map, Array.getElem?_toList, hc] at hi
    cases hi
    exact ⟨Ex.refl _, .str _⟩⟩
theorem src_range {lo : Int} {n : Nat} : Src K T S ((List.range n).map fun i => .int (lo + (i : Nat))) (Itr lo n) H1 :=
  ⟨_, _, walk_of_eq walk_range (by rw [List.length_map, List.length_range]), fun _ _ _ => trivial, fun i d x H2 H3 S' hi e m y => by
    obtain ⟨rfl, rfl⟩ := y
    rw [List.getElem?_map] at hi
    cases q : (List.range n)[i]? with
    | none =>
      rw [q] at hi
      cases hi
    | some j =>
      rw [q] at hi
      cases hi
      rw [List.getElem?_range (by
        have := (List.getElem?_eq_some_iff.mp q).1
        rw [List.length_range] at this
        exact this)] at q
      cases q
      exact ⟨Ex.refl _, .int _⟩⟩
theorem src_rangeC {lo c : Int} {n : Nat} : Src K T S ((List.range n).map fun i => .int (lo + (i : Nat) * c)) (Itc lo c n) H1 :=
  ⟨_, _, walk_of_eq walk_rangeC (by rw [List.length_map, List.length_range]), fun _ _ _ => trivial, fun i d x H2 H3 S' hi e m y => by
    obtain ⟨rfl, rfl⟩ := y
    rw [List.getElem?_map] at hi
    cases q : (List.range n)[i]? with
    | none =>
      rw [q] at hi
      cases hi
    | some j =>
      rw [q] at hi
      cases hi
      rw [List.getElem?_range (by
        have := (List.getElem?_eq_some_iff.mp q).1
        rw [List.length_range] at this
        exact this)] at q
      cases q
      exact ⟨Ex.refl _, .int _⟩⟩
end
def itemsD : Dat → Res (List Dat)
  | .lst l => .ok l
  | .frz l => .ok l
  | .tup l => .ok l
  | .str z => .ok (z.cps.toList.map fun c => .str ⟨#[c]⟩)
  | _ => .stuck
def gSeq (fa : DEnv → Res Dat) : DEnv → Res (List Dat) := fun ρ => (fa ρ).bind itemsD
def rng (lo : Int) (n : Nat) : List Dat := (List.range n).map fun i => .int (lo + (i : Nat))
def rngC (lo c : Int) (n : Nat) : List Dat := (List.range n).map fun i => .int (lo + (i : Nat) * c)
def big62 (i : Int) : Bool := decide (-(2 ^ 62) ≤ i) && decide (i < 2 ^ 62)
def range1D : List Dat → Res (List Dat)
  | [.int j] => if big62 j then .ok (rng 0 j.toNat) else .stuck
  | _ => .stuck
def range2D : List Dat → Res (List Dat)
  | [.int i, .int j] => if big62 i && big62 j then .ok (rng i (j - i).toNat) else .stuck
  | _ => .stuck
/-- the number of turns of range(i, j, c) -/
def turns (i j c : Int) : Nat := if 0 < c then ((j - i + c - 1) / c).toNat else ((i - j - c - 1) / (-c)).toNat
def gA (k : List Dat → Res (List Dat)) (fs : DEnv → Res (List Dat)) : DEnv → Res (List Dat) := fun ρ => (fs ρ).bind k
theorem big62_ok {i : Int} (h : big62 i = true) : -(2 ^ 62) ≤ i ∧ i < 2 ^ 62 := by
  unfold big62 at h
  rw [Bool.and_eq_true] at h
  exact ⟨of_decide_eq_true h.1, of_decide_eq_true h.2⟩
section
variable {X : Cx} {T : CT} {W : WX} {ow : List Nat} {e a b c tg : Expr} {es : List Expr} {pos p p2 : Pos} {fa fb fc : DEnv → Res Dat} {fs : DEnv → Res (List Dat)}
theorem di_seq (ha : DE X T W ow e fa) : DI X T W ow tg e (gSeq fa) := pi_imp (PI.or (pi_list ha) (PI.or (pi_tup ha) (pi_str ha))) fun σ H R h => by
  obtain ⟨ρ, S, re, w⟩ := h
  unfold gSeq at w
  cases q : fa ρ with
  | exc c =>
    rw [q] at w
    refine .inl ⟨ρ, S, re, ?_⟩
    rw [q]
    exact w
  | stuck =>
    rw [q] at w
    exact w.elim
  | ok d =>
    rw [q] at w
    cases d with
    | lst l =>
      refine .inl ⟨ρ, S, re, ?_⟩
      rw [q]
      intro v H' e r
      cases r with
      | lst hs rs => exact ⟨_, rfl, ⟨_, .inl (.inl (hide_ex _ _ hs))⟩, w _ H' e (src_list (.inl (.inl hs)) rs)⟩
    | frz l =>
      refine .inl ⟨ρ, S, re, ?_⟩
      rw [q]
      intro v H' e r
      cases r with
      | frz hs rs => exact ⟨_, rfl, ⟨_, ex_l hide_ex hs⟩, w _ H' e (src_list hs rs)⟩
    | tup l =>
      refine .inr (.inl ⟨ρ, S, re, ?_⟩)
      rw [q]
      intro v H' e r
      cases r with
      | tup hs rs => exact ⟨_, rfl, ⟨_, ex_t hide_ex hs⟩, w _ H' e (src_tup hs rs)⟩
    | str z =>
      refine .inr (.inr ⟨ρ, S, re, ?_⟩)
      rw [q]
      intro v H' e r
      cases r with
      | str _ => exact ⟨z, rfl, w _ H' e src_str⟩
    | _ => exact w.elim
theorem di_range1 (hm : X.mg "range" = none) (ha : DA X T W ow [a] fs) (hg : Gl X "range" := by rfl) (hs : starEach [a] X.env = [(false, eval a X.env)] := by rfl) : DI X T W ow tg (.Call (.Name "range" p) [a] [] pos) (gA range1D fs) := pi_imp (pi_range1 hg hm ha hs) fun σ H R h => by
  obtain ⟨ρ, S, re, w⟩ := h
  refine WantI.partA re w fun vs ds H1 w1 re1 e1 rs => ?_
  cases rs with
  | nil => exact w1.elim
  | cons r rs =>
    cases rs with
    | cons _ _ => cases r <;> exact w1.elim
    | nil =>
      cases r with
      | int j =>
        have w2 : WantI X.K T W σ H1 S (if big62 j then .ok (rng 0 j.toNat) else .stuck) R := w1
        by_cases z : big62 j = true
        · rw [if_pos z] at w2
          obtain ⟨z1, z2⟩ := big62_ok z
          exact ⟨j, rfl, z1, z2, w2 _ H1 (Ex.refl H1) src_range⟩
        · rw [if_neg z] at w2
          exact w2.elim
      | _ => exact w1.elim
theorem di_range2 (hm : X.mg "range" = none) (ha : DA X T W ow [a, b] fs) (hg : Gl X "range" := by rfl) (hs : starEach [a, b] X.env = [(false, eval a X.env), (false, eval b X.env)] := by rfl) (hs2 : starEach [b] X.env = [(false, eval b X.env)] := by rfl) :
    DI X T W ow tg (.Call (.Name "range" p) [a, b] [] pos) (gA range2D fs) := pi_imp (pi_range2 hg hm ha hs hs2) fun σ H R h => by
  obtain ⟨ρ, S, re, w⟩ := h
  refine WantI.partA re w fun vs ds H1 w1 re1 e1 rs => ?_
  cases rs with
  | nil => exact w1.elim
  | cons r rs =>
    cases rs with
    | nil => cases r <;> exact w1.elim
    | cons r2 rs =>
      cases rs with
      | cons _ _ => cases r <;> cases r2 <;> exact w1.elim
      | nil =>
        cases r with
        | int i =>
          cases r2 with
          | int j =>
            have w2 : WantI X.K T W σ H1 S (if big62 i && big62 j then .ok (rng i (j - i).toNat) else .stuck) R := w1
            by_cases z : (big62 i && big62 j) = true
            · rw [if_pos z] at w2
              rw [Bool.and_eq_true] at z
              obtain ⟨z1, z2⟩ := big62_ok z.1
              obtain ⟨z3, z4⟩ := big62_ok z.2
              exact ⟨i, j, rfl, ⟨z1, z2, z3, z4⟩, w2 _ H1 (Ex.refl H1) src_range⟩
            · rw [if_neg z] at w2
              exact w2.elim
          | _ => exact w1.elim
        | _ => exact w1.elim
end

/-! ### targets -/
/-- the data goes to slots; is: which -/
def tDG (K : PySem.W.Frag) (T : CT) (ow : List Nat) (is : List Nat) (asg : Dat → DEnv → Option DEnv) : TG := fun x σ H Q => ∃ ρ S d, RE K T ow σ ρ H S ∧ Rep K T (hide H S) x d ∧ ∃ ρ', asg d ρ = some ρ' ∧
  ∀ σ', RE K T ow σ' ρ' H S → (∀ j, j ∉ is → σ'[j]? = σ[j]?) → σ'.length = σ.length → Q σ' H
def DG (X : Cx) (T : CT) (ow : List Nat) (is : List Nat) (tg : Expr) (asg : Dat → DEnv → Option DEnv) : Prop := PG X tg (tDG X.K T ow is asg)
theorem pg_imp {X : Cx} {tg : Expr} {t t' : TG} (h : PG X tg t) (i : ∀ x σ H Q, t' x σ H Q → t x σ H Q) : PG X tg t' := ⟨fun pins s σ H v u Q I r q => h.run pins s σ H v u Q I r (i v σ H Q q)⟩
theorem PG.or {X : Cx} {tg : Expr} {t t' : TG} (h : PG X tg t) (h' : PG X tg t') : PG X tg (fun x σ H Q => t x σ H Q ∨ t' x σ H Q) := ⟨fun pins s σ H v u Q I r q => q.elim (h.run pins s σ H v u Q I r) (h'.run pins s σ H v u Q I r)⟩
def aName (i : Nat) : Dat → DEnv → Option DEnv := fun d ρ => some (ρ.set i (some d))
section
variable {K : PySem.W.Frag} {T : CT} {ow : List Nat} {σ : Sg} {ρ : DEnv} {H : Hp} {S : List Addr}
/-- a frozen slot is stored -/
theorem RE.set {i : Nat} {v : V} {d : Dat} (re : RE K T ow σ ρ H S) (hi : i ∉ ow) (r : Rep K T (hide H S) v d) : RE K T ow (σ.set i (some v)) (ρ.set i (some d)) H S := by
  have hl := re.len
  refine ⟨re.mt, by rw [List.length_set, List.length_set]; exact hl, fun j e hj he => ?_, fun j e hj he => ?_, fun j k e f p hj hk he hf h1 h2 => ?_⟩
  · by_cases z : i = j
    · subst z
      by_cases zl : i < ρ.length
      · rw [List.getElem?_set_self zl] at he
        cases he
        exact ⟨v, List.getElem?_set_self (by rw [hl]; exact zl), r⟩
      · rw [List.getElem?_eq_none (by rw [List.length_set]; omega)] at he
        cases he
    · rw [List.getElem?_set_ne z] at he ⊢
      exact re.fro j e hj he
  · have z : i ≠ j := fun q => hi (q ▸ hj)
    rw [List.getElem?_set_ne z] at he ⊢
    exact re.own j e hj he
  · have z : i ≠ j := fun q => hi (q ▸ hj)
    have z2 : i ≠ k := fun q => hi (q ▸ hk)
    rw [List.getElem?_set_ne z] at he h1
    rw [List.getElem?_set_ne z2] at hf h2
    exact re.inj j k e f p hj hk he hf h1 h2
end
section
variable {X : Cx} {T : CT} {ow : List Nat} {pos : Pos} {es : List Expr}
theorem dg_name {i : Nat} {x : Str} (hN : X.N.Nodup) (hi : X.N[i]? = some x := by rfl) (hx : Loc X.env.scope x := by first | exact .inl rfl | exact .inr rfl) (ho : i ∉ ow := by decide) (hf : X.fn x = true ∨ X.env.scope.names.lookup x = some .local := by first | exact .inl rfl | exact .inr rfl) :
    DG X T ow [i] (.Name x pos) (aName i) := pg_imp (pg_name hN hi hx hf) fun x σ H Q h => by
  obtain ⟨ρ, S, d, re, r, ρ', e, k⟩ := h
  cases e
  exact k _ (re.set ho r) (fun j hj => List.getElem?_set_ne fun z => hj (by rw [z]; exact List.mem_singleton_self _)) (List.length_set ..)
/-- several targets -/
def tDGs (K : PySem.W.Frag) (T : CT) (ow : List Nat) (is : List Nat) (asg : List Dat → DEnv → Option DEnv) : TGs := fun xs σ H Q => ∃ ρ S ds, RE K T ow σ ρ H S ∧ Reps K T (hide H S) xs ds ∧ ∃ ρ', asg ds ρ = some ρ' ∧
  ∀ σ', RE K T ow σ' ρ' H S → (∀ j, j ∉ is → σ'[j]? = σ[j]?) → σ'.length = σ.length → Q σ' H
def DGs (X : Cx) (T : CT) (ow : List Nat) (is : List Nat) (tgs : List Expr) (asg : List Dat → DEnv → Option DEnv) : Prop := PGs X tgs (tDGs X.K T ow is asg)
theorem pgs_imp {tgs : List Expr} {t t' : TGs} (h : PGs X tgs t) (i : ∀ x σ H Q, t' x σ H Q → t x σ H Q) : PGs X tgs t' := ⟨fun pins s σ H v u Q I r q => h.run pins s σ H v u Q I r (i v σ H Q q)⟩
def asNil : List Dat → DEnv → Option DEnv
  | [], ρ => some ρ
  | _, _ => none
def asCons (f : Dat → DEnv → Option DEnv) (g : List Dat → DEnv → Option DEnv) : List Dat → DEnv → Option DEnv
  | d :: r, ρ => (f d ρ).bind fun ρ' => g r ρ'
  | [], _ => none
theorem dgs_nil : DGs X T ow [] [] asNil := pgs_imp pgs_nil fun x σ H Q h => by
  obtain ⟨ρ, S, d, re, r, ρ', e, k⟩ := h
  cases r with
  | nil =>
    cases e
    exact ⟨rfl, k σ re (fun _ _ => rfl) rfl⟩
  | cons _ _ => cases e
theorem dgs_cons {e : Expr} {is js : List Nat} {f : Dat → DEnv → Option DEnv} {g : List Dat → DEnv → Option DEnv} (h1 : DG X T ow is e f) (h2 : DGs X T ow js es g) (hst : (assignEach (e :: es) X.env).map (·.2) = assign e X.env :: (assignEach es X.env).map (·.2) := by rfl) : DGs X T ow (is ++ js) (e :: es) (asCons f g) :=
  pgs_imp (pgs_cons h1 h2 hst) fun x σ H Q h => by
    obtain ⟨ρ, S, ds, re, r, ρ', e, k⟩ := h
    cases r with
    | nil => cases e
    | cons r rs =>
      rename_i v vs d ds
      cases q : f d ρ with
      | none =>
        simp only [asCons, q] at e
        cases e
      | some ρ1 =>
        simp only [asCons, q] at e
        refine ⟨v, vs, rfl, ρ, S, d, re, r, ρ1, q, fun σ1 re1 h1 l1 => ⟨ρ1, S, ds, re1, rs, ρ', e, fun σ2 re2 h2 l2 => k σ2 re2 (fun j hj => ?_) (l2.trans l1)⟩⟩
        rw [List.mem_append, not_or] at hj
        exact (h2 j hj.2).trans (h1 j hj.1)
def aTup (g : List Dat → DEnv → Option DEnv) : Dat → DEnv → Option DEnv
  | .tup l, ρ => g l ρ
  | .lst l, ρ => g l ρ
  | _, _ => none
theorem dg_tup {is : List Nat} {k n : Nat} {g : List Dat → DEnv → Option DEnv} (hc : X.calm = true) (h : DGs X T ow is es g) (hlen : ∀ ds ρ ρ', g ds ρ = some ρ' → ds.length = n)
    (hn : (assignEach es X.env).length = n := by rfl) (hst : (assignEach es X.env).findIdx? (·.1) = none := by rfl) : DG X T ow is (.Tuple es k pos) (aTup g) :=
  pg_imp (PG.or (pg_tup hc h hn hst) (pg_lst hc h hn hst)) fun x σ H Q h => by
    obtain ⟨ρ, S, d, re, r, ρ', e, k⟩ := h
    cases r with
    | tup hs rs => exact .inl ⟨_, _, rfl, ex_t hide_ex hs, by rw [rs.length]; exact hlen _ _ _ e, ρ, S, _, re, rs, ρ', e, k⟩
    | lst hs rs => exact .inr ⟨_, _, rfl, .inl (.inl (hide_ex _ _ hs)), by rw [rs.length]; exact hlen _ _ _ e, ρ, S, _, re, rs, ρ', e, k⟩
    | _ => cases e
theorem asNil_len {ds : List Dat} {ρ ρ' : DEnv} (h : asNil ds ρ = some ρ') : ds.length = 0 := by
  cases ds with
  | nil => rfl
  | cons _ _ => cases h
theorem asCons_len {f : Dat → DEnv → Option DEnv} {g : List Dat → DEnv → Option DEnv} {n : Nat} (hg : ∀ ds ρ ρ', g ds ρ = some ρ' → ds.length = n) : ∀ ds ρ ρ', asCons f g ds ρ = some ρ' → ds.length = n + 1 := fun ds ρ ρ' h => by
  cases ds with
  | nil => cases h
  | cons d r =>
    cases q : f d ρ with
    | none =>
      simp only [asCons, q] at h
      cases h
    | some ρ1 =>
      simp only [asCons, q] at h
      rw [List.length_cons, hg _ _ _ h]
end

/-! ### comprehensions -/
def wipeD (ρ : DEnv) : List Nat → DEnv
  | [] => ρ
  | v :: vs => (wipeD ρ vs).set v none
theorem wipeD_length (ρ : DEnv) : ∀ vs : List Nat, (wipeD ρ vs).length = ρ.length
  | [] => rfl
  | v :: vs => by unfold wipeD; rw [List.length_set, wipeD_length ρ vs]
theorem wipeD_some {ρ : DEnv} {i : Nat} {x : Dat} : ∀ {vs : List Nat}, (wipeD ρ vs)[i]? = some (some x) → ρ[i]? = some (some x) ∧ i ∉ vs
  | [], h => ⟨h, by simp⟩
  | v :: vs, h => by
    unfold wipeD at h
    by_cases hi : v = i
    · subst hi
      by_cases hv : v < (wipeD ρ vs).length
      · rw [List.getElem?_set_self hv] at h; cases h
      · rw [List.getElem?_eq_none (by simpa using hv)] at h; cases h
    · rw [List.getElem?_set_ne hi] at h
      obtain ⟨h1, h2⟩ := wipeD_some h
      exact ⟨h1, by simp only [List.mem_cons, not_or]; exact ⟨fun e => hi e.symm, h2⟩⟩
theorem wipe_get {σ : Sg} {i : Nat} : ∀ {vs : List Nat}, i ∉ vs → (wipe σ vs)[i]? = σ[i]?
  | [], _ => rfl
  | v :: vs, h => by
    rw [List.mem_cons, not_or] at h
    unfold wipe
    rw [List.getElem?_set_ne (Ne.symm h.1), wipe_get h.2]
theorem wipe_gone {σ : Sg} {i : Nat} (hl : i < σ.length) : ∀ {vs : List Nat}, i ∈ vs → (wipe σ vs)[i]? = some none
  | v :: vs, h => by
    unfold wipe
    by_cases z : v = i
    · subst z
      exact List.getElem?_set_self (by rw [wipe_length]; exact hl)
    · rw [List.getElem?_set_ne z]
      rcases List.mem_cons.mp h with e | h
      · exact absurd e.symm z
      · exact wipe_gone hl h
/-- what is wiped is wiped whatever stood there -/
theorem wipe_eq {σ τ : Sg} {vs : List Nat} (hl : τ.length = σ.length) (h : ∀ j, j ∉ vs → τ[j]? = σ[j]?) : wipe τ vs = wipe σ vs := by
  apply List.ext_getElem?
  intro i
  by_cases z : i ∈ vs
  · by_cases l : i < σ.length
    · rw [wipe_gone l z, wipe_gone (by rw [hl]; exact l) z]
    · rw [List.getElem?_eq_none (by rw [wipe_length]; omega), List.getElem?_eq_none (by rw [wipe_length]; omega)]
  · rw [wipe_get z, wipe_get z, h i z]
section
variable {K : PySem.W.Frag} {T : CT} {ow : List Nat} {σ : Sg} {ρ : DEnv} {H H' : Hp} {S : List Addr}
theorem RE.wipe (re : RE K T ow σ ρ H S) (vs : List Nat) : RE K T ow (L2.wipe σ vs) (wipeD ρ vs) H S := by
  refine ⟨re.mt, by rw [L2.wipe_length, wipeD_length]; exact re.len, fun i d hi hd => ?_, fun i d hi hd => ?_, fun i j d e p hi hj hd he h1 h2 => ?_⟩
  · obtain ⟨h1, h2⟩ := wipeD_some hd
    obtain ⟨v, h3, h4⟩ := re.fro i d hi h1
    exact ⟨v, by rw [wipe_get h2]; exact h3, h4⟩
  · obtain ⟨h1, h2⟩ := wipeD_some hd
    obtain ⟨p, vs', ds, h3, h4⟩ := re.own i d hi h1
    exact ⟨p, vs', ds, by rw [wipe_get h2]; exact h3, h4⟩
  · obtain ⟨a1, a2⟩ := wipeD_some hd
    obtain ⟨b1, b2⟩ := wipeD_some he
    rw [wipe_get a2] at h1
    rw [wipe_get b2] at h2
    exact re.inj i j d e p hi hj a1 b1 h1 h2
/-- one more object is hidden, that came later -/
theorem RE.more {p : Addr} (re : RE K T ow σ ρ H S) (e : Ex H H') (n : H p = none) (m : ∃ o, H' p = some o ∧ mutO o = true) : RE K T ow σ ρ H' (p :: S) := by
  have ex := hide_new (S := S) e n
  refine ⟨fun q hq => ?_, re.len, fun i d hi hd => ?_, fun i d hi hd => ?_, re.inj⟩
  · rcases List.mem_cons.mp hq with z | z
    · rw [z]; exact m
    · exact re.mt.mono e q z
  · obtain ⟨v, h1, h2⟩ := re.fro i d hi hd
    exact ⟨v, h1, h2.mono ex⟩
  · obtain ⟨q, vs, ds, h1, h2, h3, h4, h5⟩ := re.own i d hi hd
    exact ⟨q, vs, ds, h1, h2, List.mem_cons_of_mem _ h3, e _ _ h4, h5.mono ex⟩
/-- a hidden object that is no slot's changes -/
theorem RE.chg {p : Addr} {o : HO} (re : RE K T ow σ ρ H S) (hp : p ∈ S) (m : mutO o = true) (h : ∀ i d, i ∈ ow → ρ[i]? = some (some d) → σ[i]? ≠ some (some (.ref p))) : RE K T ow σ ρ (upd H p o) S := by
  refine ⟨fun q hq => ?_, re.len, fun i d hi hd => ?_, fun i d hi hd => ?_, re.inj⟩
  · by_cases z : q = p
    · subst z
      exact ⟨o, upd_same, m⟩
    · obtain ⟨u, h1, h2⟩ := re.mt q hq
      exact ⟨u, by rw [upd_ne z]; exact h1, h2⟩
  · rw [hide_upd hp]
    exact re.fro i d hi hd
  · rw [hide_upd hp]
    obtain ⟨q, vs, ds, h1, h2, h3, h4, h5⟩ := re.own i d hi hd
    refine ⟨q, vs, ds, h1, h2, h3, ?_, h5⟩
    rw [upd_ne fun z => h i d hi hd (by rw [← z]; exact h1)]
    exact h4
end
def noExc {α : Type} : Res α → Res α
  | .ok a => .ok a
  | _ => .stuck
def lcL (asg : Dat → DEnv → Option DEnv) (t : DEnv → Res Bool) (f : DEnv → Res Dat) (ρ : DEnv) : List Dat → Res (List Dat)
  | [] => .ok []
  | d :: r => match asg d ρ with
    | none => .stuck
    | some ρ1 => (noExc (t ρ1)).bind fun b => if b = true then (noExc (f ρ1)).bind fun y => (lcL asg t f ρ r).bind fun ys => .ok (y :: ys) else lcL asg t f ρ r
def vLc (g : DEnv → Res (List Dat)) (asg : Dat → DEnv → Option DEnv) (vs : List Nat) (t : DEnv → Res Bool) (f : DEnv → Res Dat) : DEnv → Res (List Dat) := fun ρ => (g ρ).bind fun items => if items.length ≤ 10000000 then lcL asg t f (wipeD ρ vs) items else .stuck
theorem noExc_ok {α : Type} {r : Res α} {a : α} (h : noExc r = .ok a) : r = .ok a := by
  cases r with
  | ok b => exact h
  | exc _ => cases h
  | stuck => cases h
theorem bind_ok {α β : Type} {r : Res α} {k : α → Res β} {b : β} (h : r.bind k = .ok b) : ∃ a, r = .ok a ∧ k a = .ok b := by
  cases r with
  | ok a => exact ⟨a, rfl, h⟩
  | exc _ => cases h
  | stuck => cases h
theorem lcL_no {asg : Dat → DEnv → Option DEnv} {t : DEnv → Res Bool} {f : DEnv → Res Dat} {ρ : DEnv} {c : Nat} : ∀ {l : List Dat}, lcL asg t f ρ l ≠ .exc c
  | [], h => by cases h
  | d :: r, h => by
    unfold lcL at h
    split at h
    · cases h
    · rename_i ρ1 _
      cases q : noExc (t ρ1) with
      | exc _ =>
        cases z : t ρ1 <;> rw [z] at q <;> cases q
      | stuck =>
        rw [q] at h
        cases h
      | ok b =>
        rw [q] at h
        cases b with
        | false => exact lcL_no (l := r) h
        | true =>
          have h : ((noExc (f ρ1)).bind fun y => (lcL asg t f ρ r).bind fun ys => .ok (y :: ys)) = .exc c := h
          cases q2 : noExc (f ρ1) with
          | exc _ => cases z : f ρ1 <;> rw [z] at q2 <;> cases q2
          | stuck =>
            rw [q2] at h
            cases h
          | ok y =>
            rw [q2] at h
            cases q3 : lcL asg t f ρ r with
            | exc c' => exact lcL_no (l := r) q3
            | stuck =>
              rw [q3] at h
              cases h
            | ok ys =>
              rw [q3] at h
              cases h
/-- a clause's tests -/
def DTs (X : Cx) (T : CT) (ow : List Nat) (ifs : List Expr) (t : DEnv → Res Bool) : Prop := PTs X ifs (tDB X.K T wNo ow t)
def tYesD : DEnv → Res Bool := fun _ => .ok true
theorem dts_nil {X : Cx} {T : CT} {ow : List Nat} : DTs X T ow [] tYesD := ⟨fun pins s σ H Q I h => by
  obtain ⟨ρ, S, re, w⟩ := h
  exact pts_nil.run pins s σ H Q I (w H (Ex.refl H))⟩
theorem dts_one {X : Cx} {T : CT} {ow : List Nat} {c : Expr} {t : DEnv → Res Bool} (h : DT X T wNo ow c t) : DTs X T ow [c] t := pts_one h
section
variable {X : Cx} {T : CT} {W : WX} {ow : List Nat}
theorem lc_read {g : DEnv → Res (List Dat)} {asg : Dat → DEnv → Option DEnv} {is vs : List Nat} {t : DEnv → Res Bool} {f : DEnv → Res Dat} {K : PySem.W.Frag} {σ : Sg} {H : Hp} {Q : VK} (hi : ∀ i ∈ is, i ∈ vs) (h : tDF K T W ow (vLc g asg vs t f) σ H Q) :
    tLc (tDI K T W ow g) (tDG K T ow is asg) (tDB K T wNo ow t) (tD K T wNo ow f) vs σ H Q := by
  obtain ⟨ρ, S, re, w⟩ := h
  refine ⟨ρ, S, re, ?_⟩
  unfold vLc at w
  cases q : g ρ with
  | exc c =>
    rw [q] at w
    exact w
  | stuck =>
    rw [q] at w
    exact w.elim
  | ok items =>
    rw [q] at w
    have w : WantF K T W σ H S (if items.length ≤ 10000000 then lcL asg t f (wipeD ρ vs) items else .stuck) Q := w
    by_cases hlen : items.length ≤ 10000000
    rotate_left
    · rw [if_neg hlen] at w
      exact w.elim
    rw [if_pos hlen] at w
    obtain ⟨res, hres⟩ : ∃ res, lcL asg t f (wipeD ρ vs) items = .ok res := by
      cases z : lcL asg t f (wipeD ρ vs) items with
      | ok r => exact ⟨r, rfl⟩
      | exc c => exact absurd z lcL_no
      | stuck =>
        rw [z] at w
        exact w.elim
    rw [hres] at w
    intro J H1 e1 src D hD
    obtain ⟨G, Y, walk, gok, yok⟩ := src.ex
    have re1 := re.mono e1
    refine lc_it walk (fun i H' => ∃ acc ds ys, Ex H1 H' ∧ H' D = some (.lst acc) ∧ Reps K T (hide H' (D :: S)) acc ds ∧ acc.length ≤ i ∧ lcL asg t f (wipeD ρ vs) (items.drop i) = .ok ys ∧ res = ds ++ ys) ?_ ?_ ?_ ?_
    · exact ⟨[], [], res, Ex.new hD, upd_same, .nil, Nat.le_refl _, by rw [List.drop_zero]; exact hres, rfl⟩
    · rintro i H' _ ⟨acc, ds, ys, ex, _⟩
      exact gok H' (D :: S) (hide_new ex hD)
    · rintro i x H2 H3 hlt ⟨acc, ds, ys, ex, hDl, rs, hal, hl, hr⟩ y
      obtain ⟨d, hd⟩ : ∃ d, items[i]? = some d := ⟨items[i], by simp [hlt]⟩
      have ex2 := hide_new (S := S) ex hD
      have re2 := (re1.wipe vs).more ex hD ⟨_, hDl, rfl⟩
      obtain ⟨ex3, rx⟩ := yok i d x H2 H3 (D :: S) hd ex2 re2.mt y
      have hdrop : items.drop i = d :: items.drop (i + 1) := by
        have h1 := List.getElem?_eq_some_iff.mp hd
        obtain ⟨h1, h2⟩ := h1
        rw [List.drop_eq_getElem_cons h1, h2]
      rw [hdrop] at hl
      unfold lcL at hl
      cases qa : asg d (wipeD ρ vs) with
      | none =>
        rw [qa] at hl
        cases hl
      | some ρ1 =>
        rw [qa] at hl
        have hl : ((noExc (t ρ1)).bind fun b => if b = true then (noExc (f ρ1)).bind fun y => (lcL asg t f (wipeD ρ vs) (items.drop (i + 1))).bind fun ys => .ok (y :: ys) else lcL asg t f (wipeD ρ vs) (items.drop (i + 1))) = .ok ys := hl
        refine ⟨wipeD ρ vs, D :: S, d, re2.mono ex3, rx, ρ1, qa, fun σ2 re4 hsame hlen2 => ?_⟩
        refine ⟨?_, ?_⟩
        · have h1 : L2.wipe σ2 vs = L2.wipe (L2.wipe σ vs) vs := wipe_eq hlen2 fun j hj => hsame j fun z => hj (hi j z)
          rw [h1]
          exact wipe_eq (wipe_length _ _) fun j hj => wipe_get hj
        · obtain ⟨b, hb, hl⟩ := bind_ok hl
          have hb := noExc_ok hb
          refine ⟨ρ1, D :: S, re4, ?_⟩
          rw [hb]
          intro H5 e5
          cases b with
          | false =>
            show ∃ acc ds ys, _
            exact ⟨acc, ds, ys, ex.trans (ex3.trans e5), e5 _ _ (ex3 _ _ hDl), rs.mono (hide_mono (ex3.trans e5)), Nat.le_succ_of_le hal, hl, hr⟩
          | true =>
            obtain ⟨y1, hy, hl⟩ := bind_ok (show ((noExc (f ρ1)).bind fun y => (lcL asg t f (wipeD ρ vs) (items.drop (i + 1))).bind fun ys => .ok (y :: ys)) = .ok ys from hl)
            obtain ⟨ys2, hy2, hl⟩ := bind_ok hl
            cases hl
            have hy := noExc_ok hy
            show tD K T wNo ow f σ2 H5 _
            refine ⟨ρ1, D :: S, re4.mono e5, ?_⟩
            rw [hy]
            intro v H6 e6 rv
            refine ⟨acc, e6 _ _ (e5 _ _ (ex3 _ _ hDl)), ?_, ?_⟩
            · have : (10000000 : Nat) < sizeLine := by decide
              omega
            · refine ⟨acc ++ [v], ds ++ [y1], ys2, ?_, upd_same, ?_, ?_, hy2, ?_⟩
              · intro a o ha
                rw [upd_ne (ne_of_none ha hD)]
                exact e6 _ _ (e5 _ _ (ex3 _ _ (ex a o ha)))
              · rw [hide_upd List.mem_cons_self]
                exact (rs.mono (hide_mono ((ex3.trans e5).trans e6))).append (.one rv)
              · rw [List.length_append, List.length_singleton]
                omega
              · rw [hr, List.append_assoc]
                rfl
    · rintro H' ⟨acc, ds, ys, ex, hDl, rs, hal, hl, hr⟩
      rw [List.drop_length] at hl
      cases hl
      rw [List.append_nil] at hr
      subst hr
      exact w D acc H' (e1.trans ex) (e1.fresh hD) hDl rs
theorem df_lc {elt tg iter : Expr} {ifs : List Expr} {scope : Scope} {own : List (Str × Nat)} {pos : Pos} {g : DEnv → Res (List Dat)} {asg : Dat → DEnv → Option DEnv} {is : List Nat} {t : DEnv → Res Bool} {f : DEnv → Res Dat} (hc : X.calm = true) (hN : X.N.Nodup) (hi : DI X T W ow tg iter g)
    (ok : BlkOk X.N X.env.scope scope own) (his : ∀ i ∈ is, i ∈ own.map (·.2))
    (hg : ∀ (s : Shared) (H : Hp) (C : Addr) (cl : List (Str × Addr)) (fp : List Addr), DG (X.blk s H scope (compEnvC scope cl C X.env) fp) T ow is tg asg) (ht : ∀ (s : Shared) (H : Hp) (C : Addr) (cl : List (Str × Addr)) (fp : List Addr), DTs (X.blk s H scope (compEnvC scope cl C X.env) fp) T ow ifs t)
    (he : ∀ (s : Shared) (H : Hp) (C : Addr) (cl : List (Str × Addr)) (fp : List Addr), DE (X.blk s H scope (compEnvC scope cl C X.env) fp) T wNo ow elt f) (hs : ∀ x, foldedSetIterable iter X.env x = pure x := by intro _; rfl) :
    DF X T W ow (.ListComp elt [⟨tg, iter, ifs, 0⟩] scope pos) (vLc g asg (own.map (·.2)) t f) := pe_imp (pe_lc (g := tDG X.K T ow is asg) (tt := tDB X.K T wNo ow t) (te := tD X.K T wNo ow f) hc hN hi ok hg ht he hs) fun _ _ _ h => lc_read his h
end
end Dl
/-! The D layer, part 6: statements, defs, objects made. -/
namespace Dl
open PySem PySem.Spec PyProof.Rows L2

inductive DFlow where
  | nx (ρ : DEnv) | rt (d : Dat) | bk (ρ : DEnv) | ct (ρ : DEnv) | ex (c : Nat) (ρ : DEnv) | stuck
structure RS (K : PySem.W.Frag) (T : CT) (B : Hp) (B0 : List Addr) (ow : List Nat) (σ : Sg) (ρ : DEnv) (H : Hp) (S : List Addr) : Prop where
  re : RE K T ow σ ρ H S
  ex : Ex B H
  sub : ∀ p ∈ B0, p ∈ S
  bd : ∀ p ∈ B0, B p ≠ none
  onew : ∀ (i : Nat) (d : Dat) (p : Addr), i ∈ ow → ρ[i]? = some (some d) → σ[i]? = some (some (.ref p)) → B p = none
  new : ∀ p ∈ S, p ∈ B0 ∨ B p = none
section
variable {K : PySem.W.Frag} {T : CT} {B H H' H1 : Hp} {B0 S S' : List Addr} {ow ow' ob : List Nat} {σ : Sg} {ρ : DEnv}
theorem RS.mono (r : RS K T B B0 ow σ ρ H S) (e : Ex H H') : RS K T B B0 ow σ ρ H' S := ⟨r.re.mono e, r.ex.trans e, r.sub, r.bd, r.onew, r.new⟩
/-- the addresses of owned slots -/
def ownA (ow : List Nat) (σ : Sg) (ρ : DEnv) : List Addr := ow.filterMap fun i => match ρ[i]?, σ[i]? with
  | some (some _), some (some (V.ref p)) => some p
  | _, _ => none
theorem mem_ownA {p : Addr} : p ∈ ownA ow σ ρ ↔ ∃ i d, i ∈ ow ∧ ρ[i]? = some (some d) ∧ σ[i]? = some (some (.ref p)) := by
  unfold ownA
  rw [List.mem_filterMap]
  constructor
  · rintro ⟨i, hi, h⟩
    split at h
    · rename_i d q h1 h2
      cases h
      exact ⟨i, d, hi, h1, h2⟩
    · cases h
  · rintro ⟨i, d, hi, h1, h2⟩
    exact ⟨i, hi, by rw [h1, h2]⟩
/-- fewer slots are owned: the others' lists are frozen -/
theorem RS.less (r : RS K T B B0 ow σ ρ H S) (h : ∀ i ∈ ow', i ∈ ow) : RS K T B B0 ow' σ ρ H (B0 ++ ownA ow' σ ρ) ∧ ∀ p ∈ B0 ++ ownA ow' σ ρ, p ∈ S := by
  have hS : ∀ p ∈ B0 ++ ownA ow' σ ρ, p ∈ S := fun p hp => by
    rcases List.mem_append.mp hp with z | z
    · exact r.sub p z
    · obtain ⟨i, d, hi, h1, h2⟩ := mem_ownA.mp z
      obtain ⟨q, vs, ds, e1, _, e3, _⟩ := r.re.own i d (h i hi) h1
      rw [h2] at e1
      cases e1
      exact e3
  have sub := hide_sub (H := H) hS
  refine ⟨⟨⟨fun p hp => r.re.mt p (hS p hp), r.re.len, fun i d hi hd => ?_, fun i d hi hd => ?_, fun i j d e p hi hj => r.re.inj i j d e p (h i hi) (h j hj)⟩, r.ex, fun p hp => List.mem_append_left _ hp, r.bd, fun i d p hi => r.onew i d p (h i hi), fun p hp => ?_⟩, hS⟩
  · by_cases z : i ∈ ow
    · obtain ⟨q, vs, ds, e1, e2, e3, e4, e5⟩ := r.re.own i d z hd
      refine ⟨_, e1, ?_⟩
      rw [e2]
      refine .lst (hide_get e4 fun hq => ?_) (e5.mono sub)
      rcases List.mem_append.mp hq with y | y
      · exact r.bd q y (r.onew i d q z hd e1)
      · obtain ⟨j, d', hj, h1, h2⟩ := mem_ownA.mp y
        have := r.re.inj i j d d' q z (h j hj) hd h1 e1 h2
        subst this
        exact hi hj
    · obtain ⟨v, h1, h2⟩ := r.re.fro i d z hd
      exact ⟨v, h1, h2.mono sub⟩
  · obtain ⟨q, vs, ds, e1, e2, e3, e4, e5⟩ := r.re.own i d (h i hi) hd
    exact ⟨q, vs, ds, e1, e2, List.mem_append_right _ (mem_ownA.mpr ⟨i, d, hi, hd, e1⟩), e4, e5.mono sub⟩
  · exact r.new p (hS p hp)
theorem RS.bare (r : RS K T B B0 ow σ ρ H S) : RS K T B B0 [] σ ρ H B0 ∧ Ex (hide H S) (hide H B0) := by
  have h := (r.less (ow' := []) fun _ z => by cases z).1
  have e : B0 ++ ownA [] σ ρ = B0 := List.append_nil _
  rw [e] at h
  exact ⟨h, hide_sub r.sub⟩
/-- what is wanted behind a statement -/
def Wants (K : PySem.W.Frag) (T : CT) (W : WX) (B : Hp) (B0 : List Addr) (ow' ob : List Nat) (H : Hp) (S : List Addr) (D : Ends) : DFlow → Prop
  | .nx ρ => ∀ σ' H' S', RS K T B B0 ow' σ' ρ H' S' → Ex (hide H S) (hide H' S') → D.nx σ' H'
  | .rt d => ∀ v H', Ex B H' → Rep K T (hide H' B0) v d → D.rt v H'
  | .bk ρ => ∀ σ' H' S', RS K T B B0 ob σ' ρ H' S' → Ex (hide H S) (hide H' S') → D.bk σ' H'
  | .ct ρ => ∀ σ' H' S', RS K T B B0 ob σ' ρ H' S' → Ex (hide H S) (hide H' S') → D.ct σ' H'
  | .ex c ρ => ∀ σ' H', RS K T B B0 [] σ' ρ H' B0 → Ex (hide H S) (hide H' B0) → W (T.exc c) none σ' H'
  | .stuck => False
theorem Wants.mono {W : WX} {D : Ends} {f : DFlow} (w : Wants K T W B B0 ow' ob H S D f) (e : Ex (hide H S) (hide H' S')) : Wants K T W B B0 ow' ob H' S' D f := by
  cases f with
  | nx ρ => exact fun σ' H2 S2 r e2 => w σ' H2 S2 r (e.trans e2)
  | rt d => exact w
  | bk ρ => exact fun σ' H2 S2 r e2 => w σ' H2 S2 r (e.trans e2)
  | ct ρ => exact fun σ' H2 S2 r e2 => w σ' H2 S2 r (e.trans e2)
  | ex c ρ => exact fun σ' H2 r e2 => w σ' H2 r (e.trans e2)
  | stuck => exact w
def tDS (K : PySem.W.Frag) (T : CT) (W : WX) (ow ow' ob : List Nat) (F : DEnv → DFlow) : TS := fun D σ H => ∃ B B0 ρ S, RS K T B B0 ow σ ρ H S ∧ Wants K T W B B0 ow' ob H S D (F ρ)
end
def DS (X : Cx) (T : CT) (W : WX) (ow ow' ob : List Nat) (st : Stmt) (F : DEnv → DFlow) : Prop := PS X st (tDS X.K T W ow ow' ob F)
def DSs (X : Cx) (T : CT) (W : WX) (ow ow' ob : List Nat) (st : List Stmt) (F : DEnv → DFlow) : Prop := PSs X st (tDS X.K T W ow ow' ob F)

section
variable {K : PySem.W.Frag} {T : CT} {W : WX} {B H H' H1 : Hp} {B0 S S' : List Addr} {ow ow' ob : List Nat} {σ : Sg} {ρ : DEnv} {D : Ends}
/-- a result, then a statement's end -/
def rBind {α : Type} (r : Res α) (ρ : DEnv) (k : α → DFlow) : DFlow := match r with
  | .ok a => k a
  | .exc c => .ex c ρ
  | .stuck => .stuck
/-- an expression within a statement -/
theorem Wants.part {fa : DEnv → Res Dat} {k : Dat → DFlow} {R : VK} (rs : RS K T B B0 ow σ ρ H S) (w : Wants K T W B B0 ow' ob H S D (rBind (fa ρ) ρ k))
    (hk : ∀ v d H1, Wants K T W B B0 ow' ob H1 S D (k d) → RS K T B B0 ow σ ρ H1 S → Ex H H1 → Rep K T (hide H1 S) v d → R v H1) : tD K T W ow fa σ H R := by
  refine ⟨ρ, S, rs.re, ?_⟩
  unfold rBind at w
  cases q : fa ρ with
  | ok d =>
    rw [q] at w
    exact fun v H' e r => hk v d H' (Wants.mono w (hide_mono e)) (rs.mono e) e r
  | exc c =>
    rw [q] at w
    intro H' e
    have r2 := (rs.mono e).bare
    exact w σ H' r2.1 ((hide_mono e).trans r2.2)
  | stuck =>
    rw [q] at w
    exact w.elim
theorem Wants.partF {fa : DEnv → Res (List Dat)} {k : List Dat → DFlow} {R : VK} (rs : RS K T B B0 ow σ ρ H S) (w : Wants K T W B B0 ow' ob H S D (rBind (fa ρ) ρ k))
    (hk : ∀ p vs ds H1, Wants K T W B B0 ow' ob H S D (k ds) → RS K T B B0 ow σ ρ H1 S → Ex H H1 → H p = none → H1 p = some (.lst vs) → Reps K T (hide H1 (p :: S)) vs ds → R (.ref p) H1) : tDF K T W ow fa σ H R := by
  refine ⟨ρ, S, rs.re, ?_⟩
  unfold rBind at w
  cases q : fa ρ with
  | ok d =>
    rw [q] at w
    exact fun p vs H' e n h r => hk p vs d H' w (rs.mono e) e n h r
  | exc c =>
    rw [q] at w
    intro H' e
    have r2 := (rs.mono e).bare
    exact w σ H' r2.1 ((hide_mono e).trans r2.2)
  | stuck =>
    rw [q] at w
    exact w.elim
theorem Wants.partB {fa : DEnv → Res Bool} {k : Bool → DFlow} {R : Bool → Hp → Prop} (rs : RS K T B B0 ow σ ρ H S) (w : Wants K T W B B0 ow' ob H S D (rBind (fa ρ) ρ k))
    (hk : ∀ d H1, Wants K T W B B0 ow' ob H1 S D (k d) → RS K T B B0 ow σ ρ H1 S → Ex H H1 → R d H1) : tDB K T W ow fa σ H R := by
  refine ⟨ρ, S, rs.re, ?_⟩
  unfold rBind at w
  cases q : fa ρ with
  | ok d =>
    rw [q] at w
    exact fun H' e => hk d H' (Wants.mono w (hide_mono e)) (rs.mono e) e
  | exc c =>
    rw [q] at w
    intro H' e
    have r2 := (rs.mono e).bare
    exact w σ H' r2.1 ((hide_mono e).trans r2.2)
  | stuck =>
    rw [q] at w
    exact w.elim
theorem Wants.partA {fa : DEnv → Res (List Dat)} {k : List Dat → DFlow} {R : List V → Hp → Prop} (rs : RS K T B B0 ow σ ρ H S) (w : Wants K T W B B0 ow' ob H S D (rBind (fa ρ) ρ k))
    (hk : ∀ vs ds H1, Wants K T W B B0 ow' ob H1 S D (k ds) → RS K T B B0 ow σ ρ H1 S → Ex H H1 → Reps K T (hide H1 S) vs ds → R vs H1) : tDA K T W ow fa σ H R := by
  refine ⟨ρ, S, rs.re, ?_⟩
  unfold rBind at w
  cases q : fa ρ with
  | ok d =>
    rw [q] at w
    exact fun vs H' e r => hk vs d H' (Wants.mono w (hide_mono e)) (rs.mono e) e r
  | exc c =>
    rw [q] at w
    intro H' e
    have r2 := (rs.mono e).bare
    exact w σ H' r2.1 ((hide_mono e).trans r2.2)
  | stuck =>
    rw [q] at w
    exact w.elim
/-- the statement goes on: the slots' new state -/
theorem Wants.go {ρ' : DEnv} {σ' : Sg} (w : Wants K T W B B0 ow' ob H S D (.nx ρ')) (r : RS K T B B0 ow' σ' ρ' H' S') (e : Ex (hide H S) (hide H' S')) : D.nx σ' H' := w σ' H' S' r e
theorem RS.set {i : Nat} {v : V} {d : Dat} (rs : RS K T B B0 ow σ ρ H S) (hi : i ∉ ow) (r : Rep K T (hide H S) v d) : RS K T B B0 ow (σ.set i (some v)) (ρ.set i (some d)) H S := by
  refine ⟨rs.re.set hi r, rs.ex, rs.sub, rs.bd, fun j e p hj h1 h2 => ?_, rs.new⟩
  have z : i ≠ j := fun q => hi (q ▸ hj)
  rw [List.getElem?_set_ne z] at h1 h2
  exact rs.onew j e p hj h1 h2
/-- a new list becomes a slot's own -/
theorem RS.own {i : Nat} {p : Addr} {vs : List V} {ds : List Dat} (rs : RS K T B B0 ow σ ρ H S) (hi : i ∉ ow) (e : Ex H H') (n : H p = none) (hp : H' p = some (.lst vs)) (r : Reps K T (hide H' (p :: S)) vs ds) :
    RS K T B B0 (i :: ow) (σ.set i (some (.ref p))) (ρ.set i (some (.lst ds))) H' (p :: S) := by
  have re := rs.re.more e n ⟨_, hp, rfl⟩
  have hB : B p = none := rs.ex.fresh n
  have hl := rs.re.len
  have pn : p ∉ S := rs.re.mt.not n
  refine ⟨⟨re.mt, by rw [List.length_set, List.length_set]; exact hl, fun j d hj hd => ?_, fun j d hj hd => ?_, fun j k d f q hj hk hd hf h1 h2 => ?_⟩, rs.ex.trans e, fun q hq => List.mem_cons_of_mem _ (rs.sub q hq), rs.bd, fun j d q hj hd h1 => ?_, fun q hq => ?_⟩
  · rw [List.mem_cons, not_or] at hj
    rw [List.getElem?_set_ne (Ne.symm hj.1)] at hd ⊢
    exact re.fro j d hj.2 hd
  · by_cases z : i = j
    · subst z
      by_cases zl : i < ρ.length
      · rw [List.getElem?_set_self zl] at hd
        cases hd
        exact ⟨p, vs, ds, List.getElem?_set_self (by rw [hl]; exact zl), rfl, List.mem_cons_self, hp, r⟩
      · rw [List.getElem?_eq_none (by rw [List.length_set]; omega)] at hd
        cases hd
    · rw [List.getElem?_set_ne z] at hd ⊢
      rcases List.mem_cons.mp hj with y | y
      · exact absurd y.symm z
      · exact re.own j d y hd
  · have key : ∀ {m : Nat} {g : Dat}, m ∈ ow → (ρ.set i (some (.lst ds)))[m]? = some (some g) → (σ.set i (some (.ref p)))[m]? = some (some (.ref p)) → False := fun {m g} hm h1 h2 => by
      have z : i ≠ m := fun y => hi (y ▸ hm)
      rw [List.getElem?_set_ne z] at h1 h2
      obtain ⟨q', _, _, e1, _, e3, _⟩ := rs.re.own m g hm h1
      rw [h2] at e1
      cases e1
      exact pn e3
    have self : ∀ {m : Nat} {g : Dat}, (ρ.set i (some (.lst ds)))[i]? = some (some g) → (σ.set i (some (.ref p)))[i]? = some (some (.ref q)) → q = p := fun {m g} h1 h2 => by
      by_cases zl : i < ρ.length
      · rw [List.getElem?_set_self (by rw [hl]; exact zl)] at h2
        cases h2
        rfl
      · rw [List.getElem?_eq_none (by rw [List.length_set]; omega)] at h1
        cases h1
    rcases List.mem_cons.mp hj with y | y <;> rcases List.mem_cons.mp hk with x | x
    · rw [y, x]
    · subst y
      have q1 := self (m := 0) hd h1
      subst q1
      exact (key x hf h2).elim
    · subst x
      have q1 := self (m := 0) hf h2
      subst q1
      exact (key y hd h1).elim
    · have z1 : i ≠ j := fun w => hi (w ▸ y)
      have z2 : i ≠ k := fun w => hi (w ▸ x)
      rw [List.getElem?_set_ne z1] at hd h1
      rw [List.getElem?_set_ne z2] at hf h2
      exact rs.re.inj j k d f q y x hd hf h1 h2
  · by_cases z : i = j
    · subst z
      by_cases zl : i < ρ.length
      · rw [List.getElem?_set_self (by rw [hl]; exact zl)] at h1
        cases h1
        exact hB
      · rw [List.getElem?_eq_none (by rw [List.length_set]; omega)] at hd
        cases hd
    · rw [List.getElem?_set_ne z] at hd h1
      rcases List.mem_cons.mp hj with y | y
      · exact absurd y.symm z
      · exact rs.onew j d q y hd h1
  · rcases List.mem_cons.mp hq with y | y
    · rw [y]; exact .inr hB
    · exact rs.new q y
/-- a slot's own list changes -/
theorem RS.chg {i : Nat} {p : Addr} {ws : List V} {ds es : List Dat} (rs : RS K T B B0 ow σ ρ H S) (hi : i ∈ ow) (hd : ρ[i]? = some (some (.lst ds))) (hv : σ[i]? = some (some (.ref p))) (hp : p ∈ S) (r : Reps K T (hide H S) ws es) :
    RS K T B B0 ow σ (ρ.set i (some (.lst es))) (upd H p (.lst ws)) S := by
  have hB := rs.onew i _ p hi hd hv
  have hl := rs.re.len
  have il : i < ρ.length := (List.getElem?_eq_some_iff.mp hd).1
  have old : ∀ {m : Nat} {g : Dat}, (ρ.set i (some (.lst es)))[m]? = some (some g) → ∃ g', ρ[m]? = some (some g') := fun {m g} h => by
    by_cases z : i = m
    · subst z; exact ⟨_, hd⟩
    · rw [List.getElem?_set_ne z] at h; exact ⟨g, h⟩
  refine ⟨⟨fun q hq => ?_, by rw [List.length_set]; exact hl, fun j d hj hd' => ?_, fun j d hj hd' => ?_, fun j k d f q hj hk h1 h2 h3 h4 => ?_⟩, fun a o ha => ?_, rs.sub, rs.bd, fun j d q hj h1 h2 => ?_, rs.new⟩
  · by_cases z : q = p
    · subst z
      exact ⟨_, upd_same, rfl⟩
    · rw [upd_ne z]
      exact rs.re.mt q hq
  · have z : i ≠ j := fun y => hj (y ▸ hi)
    rw [List.getElem?_set_ne z] at hd'
    rw [hide_upd hp]
    exact rs.re.fro j d hj hd'
  · rw [hide_upd hp]
    by_cases z : i = j
    · subst z
      rw [List.getElem?_set_self il] at hd'
      cases hd'
      exact ⟨p, ws, es, hv, rfl, hp, upd_same, r⟩
    · rw [List.getElem?_set_ne z] at hd'
      obtain ⟨q, us, fs, e1, e2, e3, e4, e5⟩ := rs.re.own j d hj hd'
      refine ⟨q, us, fs, e1, e2, e3, ?_, e5⟩
      rw [upd_ne fun y => z (rs.re.inj i j _ d p hi hj hd hd' hv (by rw [← y]; exact e1))]
      exact e4
  · obtain ⟨d', h1⟩ := old h1
    obtain ⟨f', h2⟩ := old h2
    exact rs.re.inj j k d' f' q hj hk h1 h2 h3 h4
  · rw [upd_ne fun y => by rw [y, hB] at ha; cases ha]
    exact rs.ex a o ha
  · obtain ⟨d', h1⟩ := old h1
    exact rs.onew j d' q hj h1 h2
end

/-! ### the statements' data -/
def sNop : DEnv → DFlow := .nx
def sSeq (F G : DEnv → DFlow) : DEnv → DFlow := fun ρ => match F ρ with
  | .nx ρ' => G ρ'
  | f => f
def sAsg (i : Nat) (f : DEnv → Res Dat) : DEnv → DFlow := fun ρ => rBind (f ρ) ρ fun d => .nx (ρ.set i (some d))
def sAsgO (i : Nat) (f : DEnv → Res (List Dat)) : DEnv → DFlow := fun ρ => rBind (f ρ) ρ fun l => .nx (ρ.set i (some (.lst l)))
def sAsgT (asg : Dat → DEnv → Option DEnv) (f : DEnv → Res Dat) : DEnv → DFlow := fun ρ => rBind (f ρ) ρ fun d => match asg d ρ with
  | some ρ' => .nx ρ'
  | none => .stuck
def sPar (i j : Nat) (f g : DEnv → Res Dat) : DEnv → DFlow := fun ρ => rBind (f ρ) ρ fun d => rBind (g ρ) ρ fun e => .nx ((ρ.set i (some d)).set j (some e))
def sParO (i j : Nat) (f : DEnv → Res (List Dat)) (g : DEnv → Res Dat) : DEnv → DFlow := fun ρ => rBind (f ρ) ρ fun d => rBind (g ρ) ρ fun e => .nx ((ρ.set i (some (.lst d))).set j (some e))
def sDrop (f : DEnv → Res Dat) : DEnv → DFlow := fun ρ => rBind (f ρ) ρ fun _ => .nx ρ
def sRet (f : DEnv → Res Dat) : DEnv → DFlow := fun ρ => rBind (f ρ) ρ .rt
def sRetN : DEnv → DFlow := fun _ => .rt .non
def sIf (t : DEnv → Res Bool) (F G : DEnv → DFlow) : DEnv → DFlow := fun ρ => rBind (t ρ) ρ fun b => if b = true then F ρ else G ρ
def sAug (i : Nat) (g : Dat → Dat → Option Dat) (f : DEnv → Res Dat) : DEnv → DFlow := fun ρ => match ρ[i]? with
  | some (some d) => rBind (f ρ) ρ fun e => match g d e with
    | some z => .nx (ρ.set i (some z))
    | none => .stuck
  | _ => .stuck
def sApp (i : Nat) (f : DEnv → Res Dat) : DEnv → DFlow := fun ρ => match ρ[i]? with
  | some (some (.lst l)) => rBind (f ρ) ρ fun d => if l.length < 10000000 then .nx (ρ.set i (some (.lst (l ++ [d])))) else .stuck
  | _ => .stuck
def extK (i : Nat) (l : List Dat) (ρ : DEnv) : Dat → DFlow
  | .lst m => if l.length + m.length ≤ 10000000 then .nx (ρ.set i (some (.lst (l ++ m)))) else .stuck
  | _ => .stuck
def sExt (i : Nat) (f : DEnv → Res Dat) : DEnv → DFlow := fun ρ => match ρ[i]? with
  | some (some (.lst l)) => rBind (f ρ) ρ (extK i l ρ)
  | _ => .stuck
def setK (i : Nat) (l : List Dat) (ρ : DEnv) (d : Dat) : Dat → DFlow
  | .int n => match ixN l.length n with
    | some j => .nx (ρ.set i (some (.lst (l.set j d))))
    | none => .stuck
  | _ => .stuck
def sSetI (i : Nat) (fi f : DEnv → Res Dat) : DEnv → DFlow := fun ρ => rBind (f ρ) ρ fun d => match ρ[i]? with
  | some (some (.lst l)) => rBind (fi ρ) ρ (setK i l ρ d)
  | _ => .stuck
def sRaise (c : Nat) : DEnv → DFlow := fun ρ => .ex c ρ
def sBreak : DEnv → DFlow := .bk
def sCont : DEnv → DFlow := .ct
def forL (asg : Dat → DEnv → Option DEnv) (F : DEnv → DFlow) : List Dat → DEnv → DFlow
  | [], ρ => .nx ρ
  | d :: r, ρ => match asg d ρ with
    | none => .stuck
    | some ρ1 => match F ρ1 with
      | .nx ρ2 => forL asg F r ρ2
      | .ct ρ2 => forL asg F r ρ2
      | .bk ρ2 => .nx ρ2
      | f => f
def sFor (g : DEnv → Res (List Dat)) (asg : Dat → DEnv → Option DEnv) (F : DEnv → DFlow) : DEnv → DFlow := fun ρ => rBind (g ρ) ρ fun items => forL asg F items ρ
def whileL (t : DEnv → Res Bool) (F : DEnv → DFlow) : Nat → DEnv → DFlow
  | 0, _ => .stuck
  | n + 1, ρ => rBind (t ρ) ρ fun b => if b = true then (match F ρ with
      | .nx ρ2 => whileL t F n ρ2
      | .ct ρ2 => whileL t F n ρ2
      | .bk ρ2 => .nx ρ2
      | f => f) else .nx ρ
def sWhile (n : Nat) (t : DEnv → Res Bool) (F : DEnv → DFlow) : DEnv → DFlow := whileL t F n
/-- try: F except (the classes m): G, where G raises nothing -/
def sTry (m : Nat → Bool) (F G : DEnv → DFlow) : DEnv → DFlow := fun ρ => match F ρ with
  | .ex c ρ' => if m c = true then (match G ρ' with
    | .ex _ _ => .stuck
    | f => f) else .ex c ρ'
  | f => f

section
variable {X : Cx} {T : CT} {W : WX} {ow ow' ow'' ob : List Nat} {e a b c : Expr} {st : Stmt} {sts rest : List Stmt} {pos p1 p2 : Pos} {f g : DEnv → Res Dat} {F G : DEnv → DFlow}
theorem ds_in (h : DS X T W ow' ow'' ob st F) (hs : ∀ i ∈ ow', i ∈ ow) : DS X T W ow ow'' ob st F := ps_imp h fun D σ H q => by
  obtain ⟨B, B0, ρ, S, rs, w⟩ := q
  obtain ⟨r2, sub⟩ := rs.less hs
  exact ⟨B, B0, ρ, _, r2, w.mono (hide_sub sub)⟩
theorem dss_in (h : DSs X T W ow' ow'' ob sts F) (hs : ∀ i ∈ ow', i ∈ ow) : DSs X T W ow ow'' ob sts F := pss_imp h fun D σ H q => by
  obtain ⟨B, B0, ρ, S, rs, w⟩ := q
  obtain ⟨r2, sub⟩ := rs.less hs
  exact ⟨B, B0, ρ, _, r2, w.mono (hide_sub sub)⟩
theorem Wants.out {K : PySem.W.Frag} {B : Hp} {B0 S : List Addr} {H : Hp} {D : Ends} {fl : DFlow} (w : Wants K T W B B0 ow'' ob H S D fl) (hs : ∀ i ∈ ow'', i ∈ ow') : Wants K T W B B0 ow' ob H S D fl := by
  cases fl with
  | nx ρ =>
    intro σ' H2 S2 r e2
    obtain ⟨r2, sub⟩ := r.less hs
    exact w σ' H2 _ r2 (e2.trans (hide_sub sub))
  | rt d => exact w
  | bk ρ => exact w
  | ct ρ => exact w
  | ex c ρ => exact w
  | stuck => exact w
theorem dss_out (h : DSs X T W ow ow' ob sts F) (hs : ∀ i ∈ ow'', i ∈ ow') : DSs X T W ow ow'' ob sts F := pss_imp h fun D σ H q => by
  obtain ⟨B, B0, ρ, S, rs, w⟩ := q
  exact ⟨B, B0, ρ, S, rs, w.out hs⟩
theorem ds_out (h : DS X T W ow ow' ob st F) (hs : ∀ i ∈ ow'', i ∈ ow') : DS X T W ow ow'' ob st F := ps_imp h fun D σ H q => by
  obtain ⟨B, B0, ρ, S, rs, w⟩ := q
  exact ⟨B, B0, ρ, S, rs, w.out hs⟩
theorem dss_nil : DSs X T W ow ow ob [] sNop := pss_imp pss_nil fun D σ H q => by
  obtain ⟨B, B0, ρ, S, rs, w⟩ := q
  exact w σ H S rs (Ex.refl _)
theorem dss_cons (h1 : DS X T W ow ow' ob st F) (h2 : DSs X T W ow' ow'' ob rest G) : DSs X T W ow ow'' ob (st :: rest) (sSeq F G) := pss_imp (pss_cons h1 h2) fun D σ H q => by
  obtain ⟨B, B0, ρ, S, rs, w⟩ := q
  refine ⟨B, B0, ρ, S, rs, ?_⟩
  unfold sSeq at w
  cases q : F ρ with
  | nx ρ' =>
    rw [q] at w
    exact fun σ' H' S' r e => ⟨B, B0, ρ', S', r, w.mono e⟩
  | _ =>
    rw [q] at w
    exact w
theorem dss_one (h1 : DS X T W ow ow' ob st F) : DSs X T W ow ow' ob [st] F := pss_one h1
theorem ds_pass : DS X T W ow ow ob (.Pass pos) sNop := ps_imp ps_pass fun D σ H q => by
  obtain ⟨B, B0, ρ, S, rs, w⟩ := q
  exact w σ H S rs (Ex.refl _)
theorem ds_break : DS X T W ob ow' ob (.Break pos) sBreak := ps_imp ps_break fun D σ H q => by
  obtain ⟨B, B0, ρ, S, rs, w⟩ := q
  exact w σ H S rs (Ex.refl _)
theorem ds_cont : DS X T W ob ow' ob (.Continue pos) sCont := ps_imp ps_continue fun D σ H q => by
  obtain ⟨B, B0, ρ, S, rs, w⟩ := q
  exact w σ H S rs (Ex.refl _)
/-- name = e -/
theorem ds_asg {i : Nat} {x : Str} {pos' : Pos} (hN : X.N.Nodup) (he : DE X T W ow e f) (hs : ∀ j ∈ ow', j ∈ ow) (ho : i ∉ ow') (hi : X.N[i]? = some x := by rfl) (hx : Loc X.env.scope x := by first | exact .inl rfl | exact .inr rfl)
    (hsw : swapsWith e (some (.Name x pos')) pos.line X.env = pure false := by rfl) (hf : X.fn x = true ∨ X.env.scope.names.lookup x = some .local := by first | exact .inl rfl | exact .inr rfl) : DS X T W ow ow' ob (.Assign [.Name x pos'] e pos) (sAsg i f) :=
  ps_imp (ps_set hN hi hx he hsw hf) fun D σ H q => by
    obtain ⟨B, B0, ρ, S, rs, w⟩ := q
    refine Wants.part rs w fun v d H1 w1 rs1 e1 r => ?_
    obtain ⟨rs2, sub⟩ := rs1.less hs
    exact Wants.go w1 (rs2.set ho (r.mono (hide_sub sub))) (hide_sub sub)
/-- name = a new list, the slot's own from now on -/
theorem ds_asgO {i : Nat} {x : Str} {pos' : Pos} {f : DEnv → Res (List Dat)} (hN : X.N.Nodup) (he : DF X T W ow e f) (hs : ∀ j ∈ ow', j ∈ ow) (ho : i ∉ ow') (hi : X.N[i]? = some x := by rfl) (hx : Loc X.env.scope x := by first | exact .inl rfl | exact .inr rfl)
    (hsw : swapsWith e (some (.Name x pos')) pos.line X.env = pure false := by rfl) (hf : X.fn x = true ∨ X.env.scope.names.lookup x = some .local := by first | exact .inl rfl | exact .inr rfl) : DS X T W ow (i :: ow') ob (.Assign [.Name x pos'] e pos) (sAsgO i f) :=
  ps_imp (ps_set hN hi hx he hsw hf) fun D σ H q => by
    obtain ⟨B, B0, ρ, S, rs, w⟩ := q
    refine Wants.partF rs w fun p vs ds H1 w1 rs1 e1 n hp r => ?_
    obtain ⟨rs2, sub⟩ := rs.less hs
    have sub2 : ∀ q ∈ p :: (B0 ++ ownA ow' σ ρ), q ∈ p :: S := fun q hq => (List.mem_cons.mp hq).elim (fun z => by rw [z]; exact List.mem_cons_self) fun z => List.mem_cons_of_mem _ (sub q z)
    exact Wants.go w1 (rs2.own ho e1 n hp (r.mono (hide_sub sub2))) ((hide_sub sub).trans (hide_new e1 n))
end
end Dl
/-! The D layer, part 7: the other statements; defs by their bodies. -/
namespace Dl
open PySem PySem.Spec PyProof.Rows L2
section
variable {X : Cx} {T : CT} {W : WX} {ow ow' ow'' ob : List Nat} {e a b c : Expr} {st : Stmt} {sts rest : List Stmt} {pos p1 p2 : Pos} {f g : DEnv → Res Dat} {F G : DEnv → DFlow}
/-- name = [..] on one line, the name a local: frozen, or the slot's own -/
theorem ds_asgLc {i : Nat} {y : Str} {py : Pos} {elt tg iter : Expr} {ifs : List Expr} {scope : Scope} {own : List (Str × Nat)} {spos : Pos} {gg : DEnv → Res (List Dat)} {asg : Dat → DEnv → Option DEnv} {is : List Nat} {t : DEnv → Res Bool} {fe : DEnv → Res Dat} (hc : X.calm = true) (hN : X.N.Nodup)
    (hyl : X.env.scope.names.lookup y = some .local) (hsw : swapsWith (.ListComp elt [⟨tg, iter, ifs, 0⟩] scope pos) (some (.Name y py)) spos.line X.env = pure true) (hi : DI X T W ow tg iter gg) (ok : BlkOk X.N X.env.scope scope own) (his : ∀ i ∈ is, i ∈ own.map (·.2))
    (hg : ∀ (s : Shared) (H : Hp) (C : Addr) (cl : List (Str × Addr)) (fp : List Addr), DG (X.blk s H scope (compEnvC scope cl C X.env) fp) T ow is tg asg) (ht : ∀ (s : Shared) (H : Hp) (C : Addr) (cl : List (Str × Addr)) (fp : List Addr), DTs (X.blk s H scope (compEnvC scope cl C X.env) fp) T ow ifs t)
    (he : ∀ (s : Shared) (H : Hp) (C : Addr) (cl : List (Str × Addr)) (fp : List Addr), DE (X.blk s H scope (compEnvC scope cl C X.env) fp) T wNo ow elt fe) (hs : ∀ j ∈ ow', j ∈ ow) (ho : i ∉ ow') (hy : X.N[i]? = some y := by rfl) (hfs : ∀ x, foldedSetIterable iter X.env x = pure x := by intro _; rfl) :
    DS X T W ow (i :: ow') ob (.Assign [.Name y py] (.ListComp elt [⟨tg, iter, ifs, 0⟩] scope pos) spos) (sAsgO i (vLc gg asg (own.map (·.2)) t fe)) :=
  ps_imp (ps_setLc (g := tDG X.K T ow is asg) (tt := tDB X.K T wNo ow t) (te := tD X.K T wNo ow fe) hc hN hy hyl hsw hi ok hg ht he hfs) fun D σ H q => by
    obtain ⟨B, B0, ρ, S, rs, w⟩ := q
    refine lc_read his ?_
    refine Wants.partF rs w fun p vs ds H1 w1 rs1 e1 n hp r => ?_
    obtain ⟨rs2, sub⟩ := rs.less hs
    have sub2 : ∀ q ∈ p :: (B0 ++ ownA ow' σ ρ), q ∈ p :: S := fun q hq => (List.mem_cons.mp hq).elim (fun z => by rw [z]; exact List.mem_cons_self) fun z => List.mem_cons_of_mem _ (sub q z)
    exact Wants.go w1 (rs2.own ho e1 n hp (r.mono (hide_sub sub2))) ((hide_sub sub).trans (hide_new e1 n))
/-- targets = e -/
theorem ds_asgT {tg : Expr} {is : List Nat} {asg : Dat → DEnv → Option DEnv} (he : DE X T W ow e f) (hg : DG X T ow' is tg asg) (hs : ∀ j ∈ ow', j ∈ ow) (hd : ∀ j ∈ ow', j ∉ is) (hsame : ∀ d ρ ρ' j, asg d ρ = some ρ' → j ∉ is → ρ'[j]? = ρ[j]?)
    (hsw : swapsWithSole [tg] e pos.line X.env = pure false := by rfl) (hw : swappedStores [tg] e X.env = pure none := by rfl) (hae : (assignEach [tg] X.env).map (·.2) = [assign tg X.env] := by rfl) : DS X T W ow ow' ob (.Assign [tg] e pos) (sAsgT asg f) := ps_imp (ps_asg he hg hsw hw hae) fun D σ H q => by
  obtain ⟨B, B0, ρ, S, rs, w⟩ := q
  refine Wants.part rs w fun v d H1 w1 rs1 e1 r => ?_
  obtain ⟨rs2, sub⟩ := rs1.less hs
  cases qa : asg d ρ with
  | none =>
    rw [qa] at w1
    exact w1.elim
  | some ρ' =>
    rw [qa] at w1
    refine ⟨ρ, _, d, rs2.re, r.mono (hide_sub sub), ρ', qa, fun σ' re' hsm hl => ?_⟩
    refine Wants.go w1 (S' := B0 ++ ownA ow' σ ρ) ⟨re', rs2.ex, rs2.sub, rs2.bd, fun i d' p hi h1 h2 => ?_, rs2.new⟩ (hide_sub sub)
    rw [hsame d ρ ρ' i qa (hd i hi)] at h1
    rw [hsm i (hd i hi)] at h2
    exact rs2.onew i d' p hi h1 h2
/-- x, y = a, b -/
theorem ds_par {i j : Nat} {x y : Str} {px py pt : Pos} {kt k2 pt2} (hc : X.calm = true) (hN : X.N.Nodup) (ha : DE X T W ow a f) (hb : DE X T W ow b g) (hs : ∀ k ∈ ow', k ∈ ow) (hi1 : i ∉ ow') (hj1 : j ∉ ow') (hw : swappedStores [.Tuple [.Name x px, .Name y py] kt pt] (.Tuple [a, b] k2 pt2) X.env = pure (some [x, y]))
    (hi : X.N[i]? = some x := by rfl) (hj : X.N[j]? = some y := by rfl) (hij : i ≠ j := by decide) (hx : X.env.scope.names.lookup x = some .local := by rfl) (hy : X.env.scope.names.lookup y = some .local := by rfl)
    (h1 : starEach [a, b] X.env = (false, eval a X.env) :: starEach [b] X.env := by rfl) (h2 : starEach [b] X.env = (false, eval b X.env) :: starEach [] X.env := by rfl) (hsw : swapsWithSole [.Tuple [.Name x px, .Name y py] kt pt] (.Tuple [a, b] k2 pt2) pos.line X.env = pure false := by rfl) :
    DS X T W ow ow' ob (.Assign [.Tuple [.Name x px, .Name y py] kt pt] (.Tuple [a, b] k2 pt2) pos) (sPar i j f g) := ps_imp (ps_par hc hN hi hj hij hx hy (pa_cons ha (pa_cons hb pa_nil h2) h1) hw hsw) fun D σ H q => by
  obtain ⟨B, B0, ρ, S, rs, w⟩ := q
  refine Wants.part rs w fun v d H1 w1 rs1 e1 r => ?_
  refine Wants.part rs1 w1 fun v2 d2 H2 w2 rs2 e2 r2 => ?_
  obtain ⟨rs3, sub⟩ := rs2.less hs
  refine ⟨v, v2, rfl, ?_⟩
  exact Wants.go w2 ((rs3.set hi1 ((r.mono (hide_mono e2)).mono (hide_sub sub))).set hj1 (r2.mono (hide_sub sub))) (hide_sub sub)
/-- x, y = [..], b: x owns its list -/
theorem ds_parO {f : DEnv → Res (List Dat)} {i j : Nat} {x y : Str} {px py pt : Pos} {kt k2 pt2} (hc : X.calm = true) (hN : X.N.Nodup) (ha : DF X T W ow a f) (hb : DE X T W ow b g) (hs : ∀ k ∈ ow', k ∈ ow) (hi1 : i ∉ ow') (hj1 : j ∉ i :: ow') (hw : swappedStores [.Tuple [.Name x px, .Name y py] kt pt] (.Tuple [a, b] k2 pt2) X.env = pure (some [x, y]))
    (hi : X.N[i]? = some x := by rfl) (hj : X.N[j]? = some y := by rfl) (hij : i ≠ j := by decide) (hx : X.env.scope.names.lookup x = some .local := by rfl) (hy : X.env.scope.names.lookup y = some .local := by rfl)
    (h1 : starEach [a, b] X.env = (false, eval a X.env) :: starEach [b] X.env := by rfl) (h2 : starEach [b] X.env = (false, eval b X.env) :: starEach [] X.env := by rfl) (hsw : swapsWithSole [.Tuple [.Name x px, .Name y py] kt pt] (.Tuple [a, b] k2 pt2) pos.line X.env = pure false := by rfl) :
    DS X T W ow (i :: ow') ob (.Assign [.Tuple [.Name x px, .Name y py] kt pt] (.Tuple [a, b] k2 pt2) pos) (sParO i j f g) := ps_imp (ps_par hc hN hi hj hij hx hy (pa_cons (te := tDF X.K T W ow f) ha (pa_cons hb pa_nil h2) h1) hw hsw) fun D σ H q => by
  obtain ⟨B, B0, ρ, S, rs, w⟩ := q
  refine Wants.partF rs w fun p vs ds H1 w1 rs1 e1 n hp r => ?_
  -- the second part, the new list hidden
  have pB : B p = none := rs.ex.fresh n
  have rsm : RS X.K T B B0 ow σ ρ H1 (p :: S) := ⟨rs.re.more e1 n ⟨_, hp, rfl⟩, rs.ex.trans e1, fun q hq => List.mem_cons_of_mem _ (rs.sub q hq), rs.bd, rs.onew, fun q hq => (List.mem_cons.mp hq).elim (fun z => by rw [z]; exact .inr pB) (rs.new q)⟩
  have w1' := w1.mono (hide_new e1 n)
  refine Wants.part rsm w1' fun v2 d2 H2 w2 rs2 e2 r2 => ?_
  refine ⟨.ref p, v2, rfl, ?_⟩
  obtain ⟨rs3, sub⟩ := rs.less hs
  have sub2 : ∀ q ∈ p :: (B0 ++ ownA ow' σ ρ), q ∈ p :: S := fun q hq => (List.mem_cons.mp hq).elim (fun z => by rw [z]; exact List.mem_cons_self) fun z => List.mem_cons_of_mem _ (sub q z)
  have rs4 := rs3.own hi1 (e1.trans e2) n (e2 _ _ hp) ((r.mono (hide_mono e2)).mono (hide_sub sub2))
  exact Wants.go w2 (rs4.set hj1 (r2.mono (hide_sub sub2))) (hide_sub sub2)
theorem ds_drop (he : DE X T W ow e f) (hs : swapsWith e none pos.line X.env = pure false := by rfl) : DS X T W ow ow ob (.Expr e pos) (sDrop f) := ps_imp (ps_expr he hs) fun D σ H q => by
  obtain ⟨B, B0, ρ, S, rs, w⟩ := q
  exact Wants.part rs w fun v d H1 w1 rs1 e1 r => Wants.go w1 rs1 (Ex.refl _)
theorem ds_ret (he : DE X T W ow e f) : DS X T W ow ow' ob (.Return (some e) pos) (sRet f) := ps_imp (ps_ret he) fun D σ H q => by
  obtain ⟨B, B0, ρ, S, rs, w⟩ := q
  exact Wants.part rs w fun v d H1 w1 rs1 e1 r => w1 v H1 rs1.ex (r.mono (hide_sub rs1.sub))
theorem ds_retN : DS X T W ow ow' ob (.Return none pos) sRetN := ps_imp ps_retN fun D σ H q => by
  obtain ⟨B, B0, ρ, S, rs, w⟩ := q
  exact w .non H rs.ex .non
theorem ds_if {t : DEnv → Res Bool} {as bs : List Stmt} (hc : DT X T W ow c t) (ha : DSs X T W ow ow' ob as F) (hb : DSs X T W ow ow' ob bs G) : DS X T W ow ow' ob (.If c as bs pos) (sIf t F G) := ps_imp (ps_if hc ha hb) fun D σ H q => by
  obtain ⟨B, B0, ρ, S, rs, w⟩ := q
  refine Wants.partB rs w fun k H1 w1 rs1 e1 => ?_
  cases k with
  | true => exact ⟨B, B0, ρ, S, rs1, w1⟩
  | false => exact ⟨B, B0, ρ, S, rs1, w1⟩
/-- x op= e -/
theorem ip_of {op : Operator} {r : R2} (h : OpR X (inplaceOp op) r) : PIp X op r := fun pins s σ H x y v u Q I rx ry q => h pins s σ H x y v u Q I rx ry q
theorem ds_aug {i : Nat} {x : Str} {pos' : Pos} {op : Operator} {r : R2} {gg : Dat → Dat → Option Dat} (hN : X.N.Nodup) (ho : OpR X (inplaceOp op) r) (rd : R2D X.K T r gg) (he : DE X T W ow e f) (hiw : i ∉ ow := by decide) (hi : X.N[i]? = some x := by rfl) (hx : Loc X.env.scope x := by first | exact .inl rfl | exact .inr rfl)
    (hf : X.fn x = true ∨ X.env.scope.names.lookup x = some .local := by first | exact .inl rfl | exact .inr rfl) : DS X T W ow ow ob (.AugAssign (.Name x pos') op e pos) (sAug i gg f) := ps_imp (ps_aug hN hi hx he (ip_of ho) hf) fun D σ H q => by
  obtain ⟨B, B0, ρ, S, rs, w⟩ := q
  unfold sAug at w
  split at w
  · rename_i d hd
    obtain ⟨v, h1, h2⟩ := rs.re.fro i d hiw hd
    refine ⟨v, h1, ?_⟩
    refine Wants.part rs w fun v2 d2 H1 w1 rs1 e1 r2 => ?_
    cases q : gg d d2 with
    | none =>
      rw [q] at w1
      exact w1.elim
    | some z =>
      rw [q] at w1
      refine rd S H1 v v2 d d2 z _ rs1.re.mt (h2.mono (hide_mono e1)) r2 q fun v3 H2 e2 r3 => ?_
      exact Wants.go w1 ((rs1.mono e2).set hiw r3) (hide_mono e2)
  · exact w.elim
theorem iop_addAll : OpR X (inplaceOp .Add) (fun x y H Q => rI0 (fun i j => .int (i + j)) x y H Q ∨ (∃ i j, x = .str i ∧ y = .str j ∧ i.length + j.length ≤ sizeLine ∧ Q (.str (i ++ j)) H)) := iop_add.or iop_add_str
def iaddD : Dat → Dat → Option Dat
  | .int i, .int j => some (.int (i + j))
  | .str a, .str b => if a.length + b.length ≤ sizeLine then some (.str (a ++ b)) else none
  | _, _ => none
theorem rd_iadd {K : PySem.W.Frag} : R2D K T (fun x y H Q => rI0 (fun i j => .int (i + j)) x y H Q ∨ (∃ i j, x = .str i ∧ y = .str j ∧ i.length + j.length ≤ sizeLine ∧ Q (.str (i ++ j)) H)) iaddD := fun S H x y dx dy d Q m rx ry e q => by
  cases rx with
  | int i =>
    cases ry with
    | int j => exact .inl ⟨i, j, rfl, rfl, by cases e; exact q _ H (Ex.refl H) (.int _)⟩
    | _ => cases e
  | str a =>
    cases ry with
    | str b =>
      simp only [iaddD] at e
      by_cases z : a.length + b.length ≤ sizeLine
      · rw [if_pos z] at e
        exact .inr ⟨a, b, rfl, rfl, z, by cases e; exact q _ H (Ex.refl H) (.str _)⟩
      · rw [if_neg z] at e
        cases e
    | _ => cases e
  | _ => cases e
def imulI (i j : Int) : Option Int := if i.natAbs < 2 ^ 64 ∨ j.natAbs < 2 ^ 64 then some (i * j) else none
theorem rd_imul {K : PySem.W.Frag} : R2D K T (rI CMul fun i j => .int (i * j)) (intOp imulI) := rd_int fun i j k H Q e q => by
  unfold imulI at e
  split at e
  · rename_i h
    refine ⟨i, j, rfl, rfl, ?_, by cases e; exact q⟩
    rcases h with h | h
    · exact .inl (mul64 h)
    · exact .inr (mul64 h)
  · cases e
def ifdivI (i j : Int) : Option Int := if 0 < j ∧ j.natAbs.log2 < 9000 then some (i / j) else none
theorem rd_ifdiv {K : PySem.W.Frag} : R2D K T (rI CDivW fun i j => .int (i / j)) (intOp ifdivI) := rd_int fun i j k H Q e q => by
  unfold ifdivI at e
  split at e
  · rename_i h
    exact ⟨i, j, rfl, rfl, h, by cases e; exact q⟩
  · cases e
/-! ### an owned list changes -/
/-- the slot's own list, as an object -/
theorem own_at {K : PySem.W.Frag} {B : Hp} {B0 S : List Addr} {σ : Sg} {ρ : DEnv} {H : Hp} {i : Nat} {l : List Dat} (rs : RS K T B B0 ow σ ρ H S) (hi : i ∈ ow) (hd : ρ[i]? = some (some (.lst l))) : ∃ p vs, σ[i]? = some (some (.ref p)) ∧ p ∈ S ∧ H p = some (.lst vs) ∧ Reps K T (hide H S) vs l := by
  obtain ⟨p, vs, ds, h1, h2, h3, h4, h5⟩ := rs.re.own i _ hi hd
  cases h2
  exact ⟨p, vs, h1, h3, h4, h5⟩
theorem ds_app {i : Nat} {x : Str} {apos cpos xp : Pos} (he : DE X T W ow e f) (hiw : i ∈ ow := by decide) (hN : X.N[i]? = some x := by rfl) (hv : Vis X.env.scope x := by first | exact Or.inl rfl | exact Or.inr (Or.inl rfl) | exact Or.inr (Or.inr rfl)) (hd : (x == ("__debug__" : Str)) = false := by decide)
    (hcd : (x == ("__classdict__" : Str)) = false := by decide) (hbase : attributeBase (.Name x xp) "append" X.env (eval (.Name x xp) X.env) = eval (.Name x xp) X.env := by rfl)
    (hfew : ((backTo cpos (starEach [e] X.env)).all (fun x => !x.1) && (backToKw cpos (keywordEach [] X.env)).all (fun x => x.1.isSome)
      && decide ([e].length + ([] : List Keyword).length + (if ([] : List Keyword).isEmpty then 0 else 1) < 30)) = true := by rfl)
    (hline : (apos.endLine == cpos.line) = true := by rfl) (hst : starEach [e] X.env = (false, eval e X.env) :: starEach [] X.env := by rfl) (hplain : (backTo cpos (starEach [] X.env)).any (·.1) = false := by rfl)
    (hs : swapsWith (.Call (.Attribute (.Name x xp) "append" apos) [e] [] cpos) none pos.line X.env = pure false := by rfl) :
    DS X T W ow ow ob (.Expr (.Call (.Attribute (.Name x xp) "append" apos) [e] [] cpos) pos) (sApp i f) :=
  ps_imp (ps_expr (pe_bm PySem.F.plainAttrs_list PySem.F.slot_list_append PySem.F.type_list_append mt_append (pe_var hN hv hd hcd) (pa_cons he pa_nil hst) hbase hfew hline hst hplain) hs) fun D σ H q => by
    obtain ⟨B, B0, ρ, S, rs, w⟩ := q
    unfold sApp at w
    split at w
    · rename_i l hl
      obtain ⟨p, vs, h1, h2, h3, h4⟩ := own_at rs hiw hl
      refine ⟨_, h1, .inl ⟨rfl, vs, .inl (.inl h3)⟩, ?_⟩
      refine Wants.part rs w fun v d H1 w1 rs1 e1 r => ?_
      split at w1
      · rename_i hlen
        refine ⟨p, vs, v, rfl, rfl, e1 _ _ h3, ?_, ?_⟩
        · rw [h4.length]
          exact Nat.lt_trans hlen (by decide)
        · refine Wants.go w1 (rs1.chg hiw hl h1 h2 ((h4.mono (hide_mono e1)).append (.one r))) ?_
          rw [hide_upd h2]
          exact Ex.refl _
      · exact w1.elim
    · exact w.elim
theorem ds_ext {i : Nat} {x : Str} {apos cpos xp : Pos} (he : DE X T W ow e f) (hiw : i ∈ ow := by decide) (hN : X.N[i]? = some x := by rfl) (hv : Vis X.env.scope x := by first | exact Or.inl rfl | exact Or.inr (Or.inl rfl) | exact Or.inr (Or.inr rfl)) (hd : (x == ("__debug__" : Str)) = false := by decide)
    (hcd : (x == ("__classdict__" : Str)) = false := by decide) (hbase : attributeBase (.Name x xp) "extend" X.env (eval (.Name x xp) X.env) = eval (.Name x xp) X.env := by rfl)
    (hfew : ((backTo cpos (starEach [e] X.env)).all (fun x => !x.1) && (backToKw cpos (keywordEach [] X.env)).all (fun x => x.1.isSome)
      && decide ([e].length + ([] : List Keyword).length + (if ([] : List Keyword).isEmpty then 0 else 1) < 30)) = true := by rfl)
    (hline : (apos.endLine == cpos.line) = true := by rfl) (hst : starEach [e] X.env = (false, eval e X.env) :: starEach [] X.env := by rfl) (hplain : (backTo cpos (starEach [] X.env)).any (·.1) = false := by rfl)
    (hs : swapsWith (.Call (.Attribute (.Name x xp) "extend" apos) [e] [] cpos) none pos.line X.env = pure false := by rfl) :
    DS X T W ow ow ob (.Expr (.Call (.Attribute (.Name x xp) "extend" apos) [e] [] cpos) pos) (sExt i f) :=
  ps_imp (ps_expr (pe_bm PySem.F.plainAttrs_list PySem.F.slot_list_extend PySem.F.type_list_extend mt_extend (pe_var hN hv hd hcd) (pa_cons he pa_nil hst) hbase hfew hline hst hplain) hs) fun D σ H q => by
    obtain ⟨B, B0, ρ, S, rs, w⟩ := q
    unfold sExt at w
    split at w
    · rename_i l hl
      obtain ⟨p, vs, h1, h2, h3, h4⟩ := own_at rs hiw hl
      refine ⟨_, h1, .inl ⟨rfl, vs, .inl (.inl h3)⟩, ?_⟩
      refine Wants.part rs w fun v d H1 w1 rs1 e1 r => ?_
      cases r with
      | @lst q ws m hs2 rs2 =>
        have w2 : Wants X.K T W B B0 ow ob H1 S D (if l.length + m.length ≤ 10000000 then .nx (ρ.set i (some (.lst (l ++ m)))) else .stuck) := w1
        by_cases hlen : l.length + m.length ≤ 10000000
        · rw [if_pos hlen] at w2
          refine ⟨p, q, vs, ws, rfl, rfl, e1 _ _ h3, hide_ex _ _ hs2, ?_, ?_⟩
          · rw [h4.length, rs2.length]
            exact Nat.le_trans hlen (by decide)
          · refine Wants.go w2 (rs1.chg hiw hl h1 h2 ((h4.mono (hide_mono e1)).append rs2)) ?_
            rw [hide_upd h2]
            exact Ex.refl _
        · rw [if_neg hlen] at w2
          exact w2.elim
      | _ => exact w1.elim
    · exact w.elim
/-- x[i] = e -/
theorem ds_setI {i : Nat} {x : Str} {ei : Expr} {fi : DEnv → Res Dat} {xp sp : Pos} (he : DE X T W ow e f) (hei : DE X T W ow ei fi) (hiw : i ∈ ow := by decide) (hN : X.N[i]? = some x := by rfl) (hv : Vis X.env.scope x := by first | exact Or.inl rfl | exact Or.inr (Or.inl rfl) | exact Or.inr (Or.inr rfl)) (hd : (x == ("__debug__" : Str)) = false := by decide)
    (hcd : (x == ("__classdict__" : Str)) = false := by decide) (hsw : swapsWithSole [.Subscript (.Name x xp) ei sp] e pos.line X.env = pure false := by rfl) (hw : swappedStores [.Subscript (.Name x xp) ei sp] e X.env = pure none := by rfl) (hae : (assignEach [.Subscript (.Name x xp) ei sp] X.env).map (·.2) = [assign (.Subscript (.Name x xp) ei sp) X.env] := by rfl)
    (hks : ∀ v, assign (.Subscript (.Name x xp) ei sp) X.env v = (do
      let ov ← holding [v] (eval (.Name x xp) X.env)
      let iv ← holding [v, ov] (eval ei X.env)
      standAt sp
      holding [v, ov, iv] (setItem ov iv v)
      release [v, ov, iv] []) := by intro _; rfl) :
    DS X T W ow ow ob (.Assign [.Subscript (.Name x xp) ei sp] e pos) (sSetI i fi f) :=
  ps_imp (ps_asg he (pg_sub (pe_var hN hv hd hcd) hei set_list hks) hsw hw hae) fun D σ H q => by
    obtain ⟨B, B0, ρ, S, rs, w⟩ := q
    unfold sSetI at w
    refine Wants.part rs w fun v d H1 w1 rs1 e1 r => ?_
    split at w1
    · rename_i l hl
      obtain ⟨p, vs, h1, h2, h3, h4⟩ := own_at rs1 hiw hl
      refine ⟨_, h1, ?_⟩
      refine Wants.part rs1 w1 fun v2 d2 H2 w2 rs2 e2 r2 => ?_
      cases r2 with
      | int n =>
        have w3 : Wants X.K T W B B0 ow ob H2 S D (match ixN l.length n with
          | some j => .nx (ρ.set i (some (.lst (l.set j d))))
          | none => .stuck) := w2
        cases q : ixN l.length n with
        | none =>
          rw [q] at w3
          exact w3.elim
        | some j =>
          rw [q] at w3
          refine ⟨p, vs, n, j, rfl, rfl, e2 _ _ h3, by rw [h4.length]; exact q, ?_⟩
          refine Wants.go w3 (rs2.chg hiw hl h1 h2 (.set (r.mono (hide_mono e2)) j (h4.mono (hide_mono e2)))) ?_
          rw [hide_upd h2]
          exact Ex.refl _
      | _ => exact w2.elim
    · exact w1.elim
/-! ### loops -/
theorem ds_for {tg iter : Expr} {body : List Stmt} {gi : DEnv → Res (List Dat)} {asg : Dat → DEnv → Option DEnv} {is : List Nat} (hp : PassesOwn (model X.prog X.w) X.A X.env X.xe) (hc : X.calm = true) (hi : DI X T W ow tg iter gi) (hg : DG X T ow is tg asg) (hd : ∀ j ∈ ow, j ∉ is) (hsame : ∀ d ρ ρ' j, asg d ρ = some ρ' → j ∉ is → ρ'[j]? = ρ[j]?)
    (hb : DSs X T W ow ow ow body F) (hs : ∀ x, foldedSetIterable iter X.env x = pure x := by intro _; rfl) : DS X T W ow ow ob (.For tg iter body [] pos) (sFor gi asg F) := ps_imp (ps_for hp hc hi hg hb hs) fun D σ H q => by
  obtain ⟨B, B0, ρ, S, rs, w⟩ := q
  refine ⟨ρ, S, rs.re, ?_⟩
  unfold sFor rBind at w
  cases q : gi ρ with
  | exc c =>
    rw [q] at w
    intro H' e
    have r2 := (rs.mono e).bare
    exact w σ H' r2.1 ((hide_mono e).trans r2.2)
  | stuck =>
    rw [q] at w
    exact w.elim
  | ok items =>
    rw [q] at w
    intro J H1 e1 src
    obtain ⟨G, Y, walk, gok, yok⟩ := src.ex
    have w0 : Wants X.K T W B B0 ow ob H S D (forL asg F items ρ) := w
    refine for_it walk (fun i σ' H' => ∃ ρ' S', RS X.K T B B0 ow σ' ρ' H' S' ∧ Ex (hide H1 S) (hide H' S') ∧ Wants X.K T W B B0 ow ob H' S' D (forL asg F (items.drop i) ρ')) ?_ ?_ ?_ ?_
    · exact ⟨ρ, S, rs.mono e1, Ex.refl _, w0.mono (hide_mono e1)⟩
    · rintro i σ' H' _ ⟨ρ', S', _, ex, _⟩
      exact gok H' S' ex
    · rintro i x σ' H2 H3 hlt ⟨ρ', S', rs', ex, w'⟩ y
      obtain ⟨d, hdd⟩ : ∃ d, items[i]? = some d := ⟨items[i], by simp [hlt]⟩
      obtain ⟨ex3, rx⟩ := yok i d x H2 H3 S' hdd ex rs'.re.mt y
      have hdrop : items.drop i = d :: items.drop (i + 1) := by
        obtain ⟨h1, h2⟩ := List.getElem?_eq_some_iff.mp hdd
        rw [List.drop_eq_getElem_cons h1, h2]
      rw [hdrop] at w'
      unfold forL at w'
      cases qa : asg d ρ' with
      | none =>
        rw [qa] at w'
        exact w'.elim
      | some ρ1 =>
        rw [qa] at w'
        have rs3 := rs'.mono ex3
        refine ⟨ρ', S', d, rs3.re, rx, ρ1, qa, fun σ4 re4 hsm hl => ?_⟩
        have rs4 : RS X.K T B B0 ow σ4 ρ1 H3 S' := ⟨re4, rs3.ex, rs3.sub, rs3.bd, fun j d' p hj h1 h2 => by
          rw [hsame d ρ' ρ1 j qa (hd j hj)] at h1
          rw [hsm j (hd j hj)] at h2
          exact rs3.onew j d' p hj h1 h2, rs3.new⟩
        refine ⟨B, B0, ρ1, S', rs4, ?_⟩
        have w4 := w'.mono (hide_mono ex3)
        have w4 : Wants X.K T W B B0 ow ob H3 S' D (match F ρ1 with
          | .nx ρ2 => forL asg F (items.drop (i + 1)) ρ2
          | .ct ρ2 => forL asg F (items.drop (i + 1)) ρ2
          | .bk ρ2 => .nx ρ2
          | f => f) := w4
        have ex' := ex.trans (hide_mono ex3)
        cases qF : F ρ1 with
        | nx ρ2 =>
          rw [qF] at w4
          exact fun σ5 H5 S5 rs5 e5 => ⟨ρ2, S5, rs5, ex'.trans e5, w4.mono e5⟩
        | ct ρ2 =>
          rw [qF] at w4
          exact fun σ5 H5 S5 rs5 e5 => ⟨ρ2, S5, rs5, ex'.trans e5, w4.mono e5⟩
        | bk ρ2 =>
          rw [qF] at w4
          exact fun σ5 H5 S5 rs5 e5 => w4 σ5 H5 S5 rs5 e5
        | rt d =>
          rw [qF] at w4
          exact w4
        | ex c ρ2 =>
          rw [qF] at w4
          exact w4
        | stuck =>
          rw [qF] at w4
          exact w4
    · rintro σ' H' ⟨ρ', S', rs', ex, w'⟩
      rw [List.drop_length] at w'
      exact w' σ' H' S' rs' (Ex.refl _)
theorem ds_while {t : DEnv → Res Bool} {body : List Stmt} (n : Nat) (hp : PassesOwn (model X.prog X.w) X.A X.env X.xe) (hc : DT X T W ow c t) (hb : DSs X T W ow ow ow body F) : DS X T W ow ow ob (.While c body [] pos) (sWhile n t F) := ps_imp (ps_while hp hc hb) fun D σ H q => by
  obtain ⟨B, B0, ρ, S, rs, w⟩ := q
  refine ⟨fun m σ' H' => ∃ ρ' S', RS X.K T B B0 ow σ' ρ' H' S' ∧ Wants X.K T W B B0 ow ob H' S' D (whileL t F m ρ'), ⟨n, ρ, S, rs, w⟩, ?_⟩
  rintro m σ' H' ⟨ρ', S', rs', w'⟩
  cases m with
  | zero => exact w'.elim
  | succ m =>
    unfold whileL at w'
    refine Wants.partB rs' w' fun k H1 w1 rs1 e1 => ?_
    cases k with
    | false => exact w1 σ' H1 S' rs1 (Ex.refl _)
    | true =>
      have w2 : Wants X.K T W B B0 ow ob H1 S' D (match F ρ' with
          | .nx ρ2 => whileL t F m ρ2
          | .ct ρ2 => whileL t F m ρ2
          | .bk ρ2 => .nx ρ2
          | f => f) := w1
      refine ⟨fun σ2 H2 => ∃ ρ2 S2, RS X.K T B B0 ow σ2 ρ2 H2 S2 ∧ Wants X.K T W B B0 ow ob H2 S2 D (whileL t F m ρ2), fun σ2 H2 q => ⟨m, Nat.lt_succ_self m, q⟩, ?_⟩
      refine ⟨B, B0, ρ', S', rs1, ?_⟩
      cases qF : F ρ' with
      | nx ρ2 =>
        rw [qF] at w2
        exact fun σ5 H5 S5 rs5 e5 => ⟨ρ2, S5, rs5, w2.mono e5⟩
      | ct ρ2 =>
        rw [qF] at w2
        exact fun σ5 H5 S5 rs5 e5 => ⟨ρ2, S5, rs5, w2.mono e5⟩
      | bk ρ2 =>
        rw [qF] at w2
        exact fun σ5 H5 S5 rs5 e5 => w2 σ5 H5 S5 rs5 e5
      | rt d =>
        rw [qF] at w2
        exact w2
      | ex c ρ2 =>
        rw [qF] at w2
        exact w2
      | stuck =>
        rw [qF] at w2
        exact w2
/-! ### exceptions -/
/-- a class of the program's own errors that is raised with a text -/
structure ExD (K : PySem.W.Frag) (T : CT) (mg : Str → Option Value) (c : Nat) (x : Str) : Prop where
  ex : ∃ C : Addr, T.exc c = .ref C ∧ mg x = some (.ref C) ∧ PySem.W.keepIn K (.ref C) = true ∧ PySem.W.excIn K C [.type "ValueError", .type "Exception", .type "BaseException", .type "object"] "ValueError.__new__" = true ∧
    PySem.W.subIn K (.ref C) (.type "BaseException") = some true ∧ PySem.W.typeIn K (.ref C) = some (.type "type")
theorem ds_raise {cn : Nat} {x m : Str} {j : Nat} {p p3 rpos : Pos} (d : ExD X.K T X.mg cn x) (hc : X.calm = true) (tk : Takes X W) (hg : Gl X x := by rfl) (hdb : (x == ("__debug__" : Str)) = false := by decide) :
    DS X T W ow ow' ob (.Raise (some (.Call (.Name x p) [.Constant (.str m) j p3] [] pos)) none rpos) (sRaise cn) := by
  obtain ⟨C, e1, e2, e3, e4, e5, e6⟩ := d.ex
  refine ps_imp (ps_raise hc tk (pmk_own PySem.F.excBase_ValueError e4 e2 e3 (raises_own e5 e6) hg hdb)) fun D σ H q => ?_
  obtain ⟨B, B0, ρ, S, rs, w⟩ := q
  have r2 := rs.bare
  have := w σ H r2.1 r2.2
  rw [e1] at this
  exact this
/-- try: body except x: suite -/
theorem ds_try {x : Str} {cv : Value} {body suite : List Stmt} {b₀ : Stmt} {np pos' : Pos} {m : Nat → Bool} (hs : X.stack = X.env :: X.outer) (hf : X.env.frame = some X.env.locals) (hc : Names X x cv) (tk : Takes X W) (hm : ∀ c, PySem.W.exmOne X.K (T.exc c) cv = some (m c))
    (hb : ∀ (W : WX) (pn : List (Addr × Obj)) (xe : Value → Shared → Prop), Takes (X.tr pn xe) W → PassesOwn (model X.prog X.w) X.A X.env xe → DSs (X.tr pn xe) T W ow ow' ob body F)
    (hsu : ∀ (a : Addr) (oe : Obj) (cls : Value) (d : Option Addr) (pn : List (Addr × Obj)), Zc cls d oe → (∃ vs, oe.data = .fields vs) → DSs (X.suite a ((a, oe) :: pn)) T wNo [] ow' ob (b₀ :: suite) G) :
    DS X T W ow ow' ob (.Try body [.ExceptHandler (some (.Name x np)) none (b₀ :: suite) pos'] [] [] pos) (sTry m F G) :=
  ps_imp (ps_try_only (tb := fun W => tDS X.K T W ow ow' ob F) (ts := fun _ _ _ => tDS X.K T wNo [] ow' ob G) hs hf hc tk hb hsu) fun D σ H q => by
    obtain ⟨B, B0, ρ, S, rs, w⟩ := q
    refine ⟨B, B0, ρ, S, rs, ?_⟩
    unfold sTry at w
    cases qF : F ρ with
    | ex c ρ' =>
      rw [qF] at w
      intro σ' H' rs' e'
      have w : Wants X.K T W B B0 ow' ob H S D (if m c = true then (match G ρ' with
        | .ex _ _ => .stuck
        | f => f) else .ex c ρ') := w
      refine ⟨m c, hm c, fun hb' a _ => ?_, fun hb' => ?_⟩
      · rw [if_pos hb'] at w
        refine ⟨B, B0, ρ', B0, rs', ?_⟩
        cases qG : G ρ' with
        | ex c' ρ2 =>
          rw [qG] at w
          exact w.elim
        | nx ρ2 =>
          rw [qG] at w
          exact Wants.mono (f := .nx ρ2) w e'
        | bk ρ2 =>
          rw [qG] at w
          exact Wants.mono (f := .bk ρ2) w e'
        | ct ρ2 =>
          rw [qG] at w
          exact Wants.mono (f := .ct ρ2) w e'
        | rt d =>
          rw [qG] at w
          exact w
        | stuck =>
          rw [qG] at w
          exact w
      · rw [if_neg (by rw [hb']; decide)] at w
        exact w σ' H' rs' e'
    | nx ρ2 =>
      rw [qF] at w
      exact w
    | bk ρ2 =>
      rw [qF] at w
      exact w
    | ct ρ2 =>
      rw [qF] at w
      exact w
    | rt d =>
      rw [qF] at w
      exact w
    | stuck =>
      rw [qF] at w
      exact w
end

/-! ### a def by its body -/
def startD (m : Nat) (ds : List Dat) : DEnv := ds.map some ++ List.replicate (m - ds.length) none
def endD : DFlow → Res Dat
  | .nx _ => .ok .non
  | .rt d => .ok d
  | .ex c _ => .exc c
  | _ => .stuck
def runD (m : Nat) (F : DEnv → DFlow) (ds : List Dat) : Res Dat := endD (F (startD m ds))
theorem re_start {K : PySem.W.Frag} {T : CT} {H : Hp} {S : List Addr} {N : List Str} {vs : List V} {ds : List Dat} (m : Hid H S) (r : Reps K T (hide H S) vs ds) : RE K T [] (start N vs) (startD N.length ds) H S := by
  have hl := r.length
  refine ⟨m, ?_, fun i d _ hd => ?_, fun i d h => (by cases h), fun i j d e p h => (by cases h)⟩
  · unfold L2.start startD
    simp [hl]
  · unfold startD at hd
    unfold L2.start
    by_cases hi : i < ds.length
    · rw [List.getElem?_append_left (by simpa using hi), List.getElem?_map] at hd
      rw [List.getElem?_append_left (by rw [List.length_map, hl]; exact hi), List.getElem?_map]
      cases q : ds[i]? with
      | none =>
        rw [q] at hd
        cases hd
      | some d' =>
        rw [q] at hd
        cases hd
        obtain ⟨v, h1, h2⟩ := r.get q
        exact ⟨v, by rw [h1]; rfl, h2⟩
    · rw [List.getElem?_append_right (by simpa using hi), List.getElem?_replicate] at hd
      split at hd <;> cases hd
theorem fn_D {P : Program} {w : World} {K : PySem.W.Frag} {mg : Str → Option Value} {base : Heap} {T : CT} {x qual : Str} {st : Stmt} {f : Addr} {fd : FuncData} {N ps : List Str} {k n : Nat} {F : DEnv → DFlow} {ow' : List Nat} (Fu : Fun K x qual st f fd) (Sc : FnScope N ps (defScope st)) (hn : ps.length = n)
    (hb : ∀ (cdv : Value) (A : Around) (outer : List Env) (s : Shared) (H : Hp) (E : XK), Room k (A.deeper (envOfC qual (defScope st) s.heap.objs.size f cdv)) →
      DSs (cxOf (L2.CX P w) P w K mg base N qual (defScope st) f cdv A outer s H E) T (fun cls d _ H => E cls d H) [] ow' [] (defBody st) F) :
    FnOk P w K mg base (L2.CX P w) (k + 1) f fd ps (spD K T n (runD N.length F)) := by
  refine Fu.okX Sc (fun vs H Q E h => h.1.trans hn.symm) (fun cdv A outer s H vs Q E hr h => ?_)
  obtain ⟨hlen, S, ds, m, r, w⟩ := h
  refine ⟨_, hb cdv A outer s H E hr, ?_⟩
  refine ⟨H, S, startD N.length ds, S, ⟨re_start m r, Ex.refl H, fun _ h => h, fun p hp => ?_, fun i d p h => (by cases h), fun p hp => .inl hp⟩, ?_⟩
  · obtain ⟨o, h1, _⟩ := m p hp
    rw [h1]
    intro z
    cases z
  · unfold runD at w
    cases q : F (startD N.length ds) with
    | nx ρ =>
      rw [q] at w
      exact fun σ' H' S' rs e => w .non H' rs.ex .non
    | rt d =>
      rw [q] at w
      exact fun v H' e r => w v H' e r
    | ex c ρ =>
      rw [q] at w
      exact fun σ' H' rs e => w H' rs.ex
    | bk ρ =>
      rw [q] at w
      exact w.elim
    | ct ρ =>
      rw [q] at w
      exact w.elim
    | stuck =>
      rw [q] at w
      exact w.elim
end Dl
/-! The D layer, part 8: owned lists read, slices with steps, dicts of the module, objects made. -/
namespace Dl
open PySem PySem.Spec PyProof.Rows L2 HT

/-! ### an owned list is read: the result must not hold it -/
def chk (d : Dat) : Res Dat := if flat d = true then .ok d else .stuck
def vU (f : DEnv → Res Dat) : DEnv → Res Dat := fun ρ => (f ρ).bind chk
section
variable {K : PySem.W.Frag} {T : CT} {W : WX} {H : Hp} {ow ow' : List Nat} {σ : Sg} {ρ : DEnv} {S : List Addr}
/-- fewer slots are owned, the others' lists shown -/
theorem RE.less (r : RE K T ow σ ρ H S) (h : ∀ i ∈ ow', i ∈ ow) : ∃ S', RE K T ow' σ ρ H S' ∧ ∀ p ∈ S', p ∈ S := by
  refine ⟨S.filter fun p => decide (p ∈ ownA ow' σ ρ ∨ p ∉ ownA ow σ ρ), ?_, fun p hp => (List.mem_filter.mp hp).1⟩
  have sub0 : ∀ p ∈ S.filter (fun p => decide (p ∈ ownA ow' σ ρ ∨ p ∉ ownA ow σ ρ)), p ∈ S := fun p hp => (List.mem_filter.mp hp).1
  have sub := hide_sub (H := H) sub0
  refine ⟨fun p hp => r.mt p (sub0 p hp), r.len, fun i d hi hd => ?_, fun i d hi hd => ?_, fun i j d e p hi hj => r.inj i j d e p (h i hi) (h j hj)⟩
  · by_cases z : i ∈ ow
    · obtain ⟨q, vs, ds, e1, e2, e3, e4, e5⟩ := r.own i d z hd
      refine ⟨_, e1, ?_⟩
      rw [e2]
      refine .lst (hide_get e4 fun hq => ?_) (e5.mono sub)
      rcases of_decide_eq_true (List.mem_filter.mp hq).2 with y | y
      · obtain ⟨j, d', hj, h1, h2⟩ := mem_ownA.mp y
        have := r.inj i j d d' q z (h j hj) hd h1 e1 h2
        subst this
        exact hi hj
      · exact y (mem_ownA.mpr ⟨i, d, z, hd, e1⟩)
    · obtain ⟨v, h1, h2⟩ := r.fro i d z hd
      exact ⟨v, h1, h2.mono sub⟩
  · obtain ⟨q, vs, ds, e1, e2, e3, e4, e5⟩ := r.own i d (h i hi) hd
    exact ⟨q, vs, ds, e1, e2, List.mem_filter.mpr ⟨e3, decide_eq_true (.inl (mem_ownA.mpr ⟨i, d, hi, hd, e1⟩))⟩, e4, e5.mono sub⟩
end
section
variable {X : Cx} {T : CT} {W : WX} {ow ow' : List Nat} {e a b c : Expr} {pos p2 : Pos} {f fa : DEnv → Res Dat}
theorem de_un (h : DE X T W ow' e f) (hs : ∀ i ∈ ow', i ∈ ow := by decide) : DE X T W ow e (vU f) := pe_imp h fun σ H Q q => by
  obtain ⟨ρ, S, re, w⟩ := q
  obtain ⟨S', re', sub⟩ := re.less hs
  refine ⟨ρ, S', re', ?_⟩
  unfold vU at w
  cases q : f ρ with
  | ok d =>
    rw [q] at w
    intro v H' e r
    have w : Want X.K T W σ H S (chk d) Q := w
    unfold chk at w
    by_cases z : flat d = true
    · rw [if_pos z] at w
      exact w v H' e ((r.mono hide_ex).bare (re.mt.mono e) z)
    · rw [if_neg z] at w
      exact w.elim
  | exc c =>
    rw [q] at w
    exact w
  | stuck =>
    rw [q] at w
    exact w.elim
theorem dt_un {t : DEnv → Res Bool} (h : DT X T W ow' e t) (hs : ∀ i ∈ ow', i ∈ ow := by decide) : DT X T W ow e t := pt_imp h fun σ H Q q => by
  obtain ⟨ρ, S, re, w⟩ := q
  obtain ⟨S', re', sub⟩ := re.less hs
  exact ⟨ρ, S', re', w⟩
end

/-! ### slices with steps -/
def pickD {α : Type} (l : List α) (lo hi : Option Int) (st : Int) : List α :=
  (List.range (Builtin.Slice.slicePlaces (Builtin.Slice.sliceAdjust lo hi st l.length).1 (Builtin.Slice.sliceAdjust lo hi st l.length).2 st)).filterMap fun (m : Nat) => l[((Builtin.Slice.sliceAdjust lo hi st l.length).1 + (m : Int) * st).toNat]?
section
variable {prog : Program} {w : World} {A : Around} {E : Value → Shared → Prop} {s : Shared}
theorem sliceApplied_step {sl : Addr} {vl vu : Value} {lo hi : Option Int} {n : Nat} {st : Int} {tk : Tok} {Q : Int × Int × Nat → Shared → Prop} (hs : s.heap.IsSliceOf sl vl vu (.int st tk)) (pl : IsPart vl lo) (pu : IsPart vu hi) (h0 : st ≠ 0)
    (h : Q ((Builtin.Slice.sliceAdjust lo hi st n).1, st, Builtin.Slice.slicePlaces (Builtin.Slice.sliceAdjust lo hi st n).1 (Builtin.Slice.sliceAdjust lo hi st n).2 st) s) : wpAny (model prog w) A (Builtin.Slice.sliceApplied (.ref sl) (pure (n : Int))) Q E s := by
  obtain ⟨os, hos, hcs, hds⟩ := id hs
  unfold Builtin.Slice.sliceApplied Builtin.Slice.sliceFields
  refine wpAny_bind (wpAny_bind (wpAny_field hos hds (x := vl) rfl (wpAny_bind (wpAny_field hos hds (x := vu) rfl (wpAny_bind (wpAny_field hos hds (x := .int st tk) rfl (wpAny_pure ?_)))))))
  refine wpAny_bind (slicePart_int ?_)
  show wpAny _ _ (if (st == 0) = true then _ else _) _ _ s
  rw [if_neg (by simpa using h0)]
  exact wpAny_bind (slicePart_ pl (wpAny_bind (slicePart_ pu (wpAny_bind (wpAny_pure (wpAny_pure h))))))
theorem getItem_tuple_step {t sl : Addr} {items : Array Value} {vl vu : Value} {lo hi : Option Int} {st : Int} {tk : Tok} {Q : Value → Shared → Prop} (ht : IsTup s.heap t items) (hs : s.heap.IsSliceOf sl vl vu (.int st tk)) (pl : IsPart vl lo) (pu : IsPart vu hi) (h0 : st ≠ 0) (h1 : st ≠ 1)
    (h : Q (.ref s.heap.objs.size) { s with heap := s.heap.push { cls := .type "tuple", data := .seq (pickD items.toList lo hi st).toArray } })
    (hsz : (pickD items.toList lo hi st).length ≤ sizeLine) : wpAny (model prog w) A (getItem (.ref t) (.ref sl)) Q E s := by
  have htake : sizeOk (.seq (pickD items.toList lo hi st).toArray) := by
    show (pickD items.toList lo hi st).toArray.size ≤ sizeLine
    rw [List.size_toArray]
    exact hsz
  obtain ⟨os, hos, hcs, hds⟩ := id hs
  have hTs : s.TypeIs (.ref sl) "slice" := ⟨os, hos, hcs⟩
  unfold getItem
  try with_reducible refine wpAny_holding ?_
  first | refine wpAny_bind (wpAny_pure ?_) | skip
  refine wpAny_bind (wpAny_sequenceKey ht.typeIs (by decide) ?_)
  refine wpAny_bind (wpAny_callSpecial?_slot (name := Str.ofString "__getitem__") ht.typeIs PyProof.Rows.slot_tuple_getitem
    (wpAny_call_entry PyProof.Rows.slot_tuple_getitem ht.typeIs entry_tuple_getitem ?_ (args_tuple_getitem _ _)))
  show wpAny _ _ (Builtin.Tuple.tupleItemsOf (.ref t) >>= _) _ _ s
  refine wpAny_bind (tupleItemsOf_ ht ?_)
  refine wpAny_bind (wpAny_typeOf hTs ?_)
  rw [if_pos (by decide)]
  refine wpAny_bind (sliceApplied_step hs pl pu h0 ?_)
  have hno : ¬ (((Builtin.Slice.sliceAdjust lo hi st items.size).1 == 0 && st == 1 && Builtin.Slice.slicePlaces (Builtin.Slice.sliceAdjust lo hi st items.size).1 (Builtin.Slice.sliceAdjust lo hi st items.size).2 st == items.size) = true) := by
    intro q
    rw [Bool.and_eq_true, Bool.and_eq_true] at q
    exact h1 (eq_of_beq q.1.2)
  show wpAny _ _ (if ((Builtin.Slice.sliceAdjust lo hi st items.size).1 == 0 && st == 1 && Builtin.Slice.slicePlaces (Builtin.Slice.sliceAdjust lo hi st items.size).1 (Builtin.Slice.sliceAdjust lo hi st items.size).2 st == items.size) = true then _ else _) _ _ s
  rw [if_neg hno]
  have e : ((List.range (Builtin.Slice.slicePlaces (Builtin.Slice.sliceAdjust lo hi st items.size).1 (Builtin.Slice.sliceAdjust lo hi st items.size).2 st)).filterMap fun (m : Nat) => items[((Builtin.Slice.sliceAdjust lo hi st items.size).1 + (m : Int) * st).toNat]?).toArray = (pickD items.toList lo hi st).toArray := by
    unfold pickD
    rw [Array.length_toList]
    simp only [Array.getElem?_toList]
  rw [e]
  first
    | exact wpAny_bind (m := Builtin.Tuple.tupleExact _) (wpAny_newObj_type (wpAny_pure ⟨_, rfl, wpAny_pure h⟩) htake)
    | exact wpAny_bind (m := Builtin.Tuple.tupleExact _) (wpAny_newObj_type (wpAny_bind (wpAny_pure (wpAny_pure ⟨_, rfl, wpAny_pure h⟩))) htake)
    | exact wpAny_bind (wpAny_bind (m := Builtin.Tuple.tupleExact _) (wpAny_newObj_type (wpAny_pure (wpAny_pure ⟨_, rfl, wpAny_pure h⟩)) htake))
    | exact wpAny_bind (wpAny_bind (m := Builtin.Tuple.tupleExact _) (wpAny_newObj_type (wpAny_pure ⟨_, rfl, wpAny_pure h⟩) htake))
end
theorem vals_filterMap {xs : List V} {us : List Value} (r : Vals xs us) (f : Nat → Nat) : ∀ (l : List Nat), Vals (l.filterMap fun m => xs[f m]?) (l.filterMap fun m => us[f m]?)
  | [] => .nil
  | m :: l => by
    rw [List.filterMap_cons, List.filterMap_cons]
    cases q : xs[f m]? with
    | none =>
      rw [r.none_of q]
      exact vals_filterMap r f l
    | some x =>
      obtain ⟨u, h1, h2⟩ := r.get q
      rw [h1]
      exact .cons h2 (vals_filterMap r f l)
theorem vals_pick {xs : List V} {us : List Value} (r : Vals xs us) (lo hi : Option Int) (st : Int) : Vals (pickD xs lo hi st) (pickD us lo hi st) := by
  unfold pickD
  rw [← r.length]
  exact vals_filterMap r _ _
section
variable {K : PySem.W.Frag} {T : CT} {H : Hp}
theorem Reps.filterMap {xs : List V} {us : List Dat} (r : Reps K T H xs us) (f : Nat → Nat) : ∀ (l : List Nat), Reps K T H (l.filterMap fun m => xs[f m]?) (l.filterMap fun m => us[f m]?)
  | [] => .nil
  | m :: l => by
    rw [List.filterMap_cons, List.filterMap_cons]
    cases q : us[f m]? with
    | none =>
      have : xs[f m]? = none := by
        have h1 := List.getElem?_eq_none_iff.mp q
        exact List.getElem?_eq_none_iff.mpr (by rw [r.length]; exact h1)
      rw [this]
      exact Reps.filterMap r f l
    | some d =>
      obtain ⟨u, h1, h2⟩ := r.get q
      rw [h1]
      exact .cons h2 (Reps.filterMap r f l)
theorem Reps.pick {xs : List V} {us : List Dat} (r : Reps K T H xs us) (lo hi : Option Int) (st : Int) : Reps K T H (pickD xs lo hi st) (pickD us lo hi st) := by
  unfold pickD
  rw [r.length]
  exact r.filterMap _ _
end
def tStep (K : PySem.W.Frag) (ta : TE) (tl th ts : TO) : TE := fun σ H Q => ta σ H fun x H1 => tl σ H1 fun l H2 => th σ H2 fun h H3 => ts σ H3 fun s H4 => ∃ a xs st, x = .ref a ∧ s = some st ∧ SqT K H4 a xs ∧ st ≠ 0 ∧ st ≠ 1 ∧ (pickD xs l h st).length ≤ sizeLine ∧ ∀ p, H4 p = none → Q (.ref p) (upd H4 p (.tup (pickD xs l h st)))
section
variable {X : Cx} {T : CT} {W : WX} {ow : List Nat} {e a b c : Expr} {pos p2 : Pos} {f fa : DEnv → Res Dat} {lo hi : Option Expr} {est : Expr} {fl fh fs : DEnv → Res (Option Int)}
theorem pe_step {ta : TE} {tl th ts : TO} (he : PE X e ta) (hl : PO X lo tl) (hh : PO X hi th) (hs : PO X (some est) ts) : PE X (.Subscript e (.Slice lo hi (some est) p2) pos) (tStep X.K ta tl th ts) := by
  refine ⟨fun pins s σ H Q I h => ?_⟩
  refine Subscript_ (thn (he.run pins s σ H _ I h) fun v s1 ⟨x, H1, I1, r1, q1⟩ => ?_)
  refine wpAny_Slice (thn (hl.run pins s1 σ H1 _ I1 q1) fun vl s2 ⟨l, H2, I2, pl, q2⟩ => thn (hh.run pins s2 σ H2 _ I2 q2) fun vu s3 ⟨u, H3, I3, pu, q3⟩ => thn (hs.run pins s3 σ H3 _ I3 q3) fun vs s4 ⟨o, H4, I4, ps, q4⟩ => ?_)
  obtain ⟨a, xs, st, rfl, rfl, hx, h0, h1, hlen, q⟩ := q4
  cases r1
  cases ps with
  | int _ tk =>
    have I5 : Inv X pins σ H4 { s4 with heap := s4.heap.push { cls := .type "slice", data := .fields #[vl, vu, .int st tk] } } := I4.kept (t' := s4.toks) fun b ob q => Heap.get?_push_of_some _ q
    obtain ⟨its, r, ht, hz⟩ := I5.tuple hx
    show wpAny (model X.prog X.w) X.A (subscriptTail e (.Slice lo hi (some est) p2) (.ref a) (.ref s4.heap.objs.size)) (EP X pins σ Q) X.xe { s4 with heap := s4.heap.push { cls := .type "slice", data := .fields #[vl, vu, .int st tk] } }
    have hpick := vals_pick r l u st
    refine tail_any (ops := [.ref a, .ref s4.heap.objs.size]) ht.typeIs (PyProof.Rows.slot_tuple_getitem.lookup) ?_ (by with_unfolding_all rfl)
    refine getItem_tuple_step ht (Heap.IsSliceOf.new _ vl vu (.int st tk)) pl pu h0 h1 ?_ (by rw [← hpick.length]; exact hlen)
    refine ⟨.ref _, _, I5.laid (t' := s4.toks) (o := .tup (pickD xs l u st)) (fun b ob q => Heap.get?_push_of_some _ q) (Nat.le_refl _) ?_, rfl, q _ (I5.hok.fresh (Nat.le_refl _))⟩
    exact ⟨hlen, _, hpick, ⟨_, Heap.get?_push_size _ rfl, rfl, _, rfl⟩⟩
def stepK (l h s : Option Int) : Dat → Option Dat
  | .tup xs => match s with
    | some st => if st ≠ 0 ∧ st ≠ 1 ∧ (pickD xs l h st).length ≤ 10000000 then some (.tup (pickD xs l h st)) else none
    | none => none
  | _ => none
def vStep (fa : DEnv → Res Dat) (fl fh fs : DEnv → Res (Option Int)) : DEnv → Res Dat := fun ρ => (fa ρ).bind fun x => (fl ρ).bind fun l => (fh ρ).bind fun h => (fs ρ).bind fun s => ofO (stepK l h s x)
theorem de_step (ha : DE X T W ow e fa) (hl : DO X T W ow lo fl) (hh : DO X T W ow hi fh) (hs : DO X T W ow (some est) fs) : DE X T W ow (.Subscript e (.Slice lo hi (some est) p2) pos) (vStep fa fl fh fs) := pe_imp (pe_step ha hl hh hs) fun σ H Q h => by
  obtain ⟨ρ, S, re, w⟩ := h
  refine Want.part re w fun x dx H1 w1 re1 e1 rx => ?_
  refine Want.partO re1 w1 fun l H2 w2 re2 e2 => ?_
  refine Want.partO re2 w2 fun h H3 w3 re3 e3 => ?_
  refine Want.partO re3 w3 fun s H4 w4 re4 e4 => ?_
  have rx4 := ((rx.mono (hide_mono e2)).mono (hide_mono e3)).mono (hide_mono e4)
  cases rx4 with
  | @tup p vs ds hs rs =>
    cases s with
    | none => exact w4.elim
    | some st =>
      have w5 : Want X.K T W σ H4 S (ofO (if st ≠ 0 ∧ st ≠ 1 ∧ (pickD ds l h st).length ≤ 10000000 then some (.tup (pickD ds l h st)) else none)) Q := w4
      by_cases z : st ≠ 0 ∧ st ≠ 1 ∧ (pickD ds l h st).length ≤ 10000000
      · rw [if_pos z] at w5
        have rp := rs.pick l h st
        refine ⟨p, vs, st, rfl, rfl, ex_t hide_ex hs, z.1, z.2.1, ?_, fun p2 np => w5 _ _ (Ex.new np) (rep_newT re4.mt np rp)⟩
        rw [rp.length]
        exact Nat.le_trans z.2.2 (by decide)
      · rw [if_neg z] at w5
        exact w5.elim
  | _ => exact w4.elim

/-! ### a dict of the module with written texts as keys, read -/
structure GD (K : PySem.W.Frag) (T : CT) (w : World) (mg : Str → Option Value) (x : Str) (tb : List (Str × Dat)) : Prop where
  ex : ∃ d, mg x = some (.ref d) ∧ ∀ k e, tb.lookup k = some e → ∃ v, KDct K w d k v ∧ ∀ H, Rep K T H v e
def tabD (tb : List (Str × Dat)) : Dat → Option Dat
  | .str z => tb.lookup z
  | _ => none
theorem de_tab {x : Str} {tb : List (Str × Dat)} {xp : Pos} (g : GD X.K T X.w X.mg x tb) (hb : DE X T W ow b f) (hg : Gl X x := by rfl) (hd : (x == ("__debug__" : Str)) = false := by decide) (hs : PlainIx b := by exact fun _ _ => rfl) : DE X T W ow (.Subscript (.Name x xp) b pos) (v1 (tabD tb) f) := by
  obtain ⟨d, h1, h2⟩ := g.ex
  refine pe_imp (pe_ix ix_kdict (pe_glob (v := .ref d) hg h1 rfl hd) hb hs) fun σ H Q h => ?_
  obtain ⟨ρ, S, re, w⟩ := h
  refine Want.part re w fun x dx H1 w1 re1 e1 rx => ?_
  cases rx with
  | str z =>
    have w2 : Want X.K T W σ H1 S (ofO (tb.lookup z)) Q := w1
    cases q : tb.lookup z with
    | none =>
      rw [q] at w2
      exact w2.elim
    | some e =>
      rw [q] at w2
      obtain ⟨v, h3, h4⟩ := h2 z e q
      exact ⟨d, z, v, rfl, rfl, h3, w2 v H1 (Ex.refl H1) (h4 _)⟩
  | _ => exact w1.elim
end
end Dl
/-! The D layer, part 9: chains, small words, the law's end. -/
namespace Dl
open PySem PySem.Spec PyProof.Rows L2
theorem hu65 {A : Around} {k : Nat} (hr : Room k A) : A.units + 65 < cLine := by have := hr.un; omega
theorem hu64 {A : Around} {k : Nat} (hr : Room k A) : A.units + 64 < cLine := by have := hr.un; omega
section
variable {X : Cx} {T : CT} {W : WX} {ow : List Nat} {e a b c : Expr} {pos p2 : Pos} {fa fb fc : DEnv → Res Dat}
theorem de_chain {op op' : CmpOp} {r r' : R2} {g h : Dat → Dat → Option Dat} (ho : OpR X (compareOp op) r) (rd : R2D X.K T r g) (ho' : OpR X (compareOp op') r') (rd' : R2D X.K T r' h) (ha : DE X T W ow a fa) (hb : DE X T W ow b fb) (hc : DE X T W ow c fc)
    (hm : lastMarks [op, op'] [b, c] = false := by rfl) : DE X T W ow (.Compare a [op, op'] [b, c] pos) (vChain g h fa fb fc) := pe_imp (pe_chain ho ho' ha hb hc hm) fun _ _ _ q => chain_read rd rd' q
theorem dt_chain {op op' : CmpOp} {r r' : R2} {g h : Dat → Dat → Option Dat} (ho : OpR X (compareOp op) r) (rd : R2D X.K T r g) (ho' : OpR X (compareOp op') r') (rd' : R2D X.K T r' h) (ha : DE X T W ow a fa) (hb : DE X T W ow b fb) (hc : DE X T W ow c fc)
    (hm : lastMarks [op, op'] [b, c] = false := by rfl) : DT X T W ow (.Compare a [op, op'] [b, c] pos) (vTest (vChain g h fa fb fc)) := pt_imp (pt_chain ho ho' ha hb hc hm) fun σ H Q q => by
  obtain ⟨ρ, S, re, w⟩ := q
  refine chain_read rd rd' (Q := fun x H' => ∃ k, x = .bl k ∧ Q k H') ?_
  exact test_read ⟨ρ, S, re, w⟩
end
theorem FnD.mk' {P : Program} {w : World} {K : PySem.W.Frag} {mg : Str → Option Value} {base : Heap} {T : CT} {k n : Nat} {x qual : Str} {st : Stmt} {f : Addr} {fd : FuncData} {ps : List Str} {F : List Dat → Res Dat} (hm : mg x = some (.ref f)) (Fu : Fun K x qual st f fd) (b : Binds K fd ps []) (h : FnOk P w K mg base (L2.CX P w) k f fd ps (spD K T n F)) :
    FnD P w K mg base T k x n F := ⟨f, fd, ps, hm, Fu.kp, b, h⟩
/-! ### the law -/
def spLaw (K : PySem.W.Frag) : Sp := fun vs H Q _ => ∃ (a : Addr) (ns : List Int), vs = [.ref a] ∧ SqL K H a (ns.map V.int) ∧ ns.length ≤ 63 ∧ ∀ H', Q (.bl true) H'
theorem law_imp {P : Program} {w : World} {K : PySem.W.Frag} {mg : Str → Option Value} {base : Heap} {T : CT} {k : Nat} {f : Addr} {fd : FuncData} {ps : List Str} {F : List Dat → Res Dat} (h : FnOk P w K mg base (L2.CX P w) k f fd ps (spD K T 1 F))
    (hl : ∀ ns : List Int, ns.length ≤ 63 → F [.frz (ns.map .int)] = .ok (.bl true)) : FnOk P w K mg base (L2.CX P w) k f fd ps (spLaw K) := h.imp fun vs H Q E q => by
  obtain ⟨a, ns, rfl, hs, hlen, hq⟩ := q
  refine ⟨rfl, [], [.frz (ns.map .int)], (fun _ z => by cases z), .one (.frz ?_ (Reps.of_ints ns)), ?_⟩
  · refine ex_l ?_ hs
    intro b o e
    exact hide_get e (by simp)
  · rw [hl ns hlen]
    intro v H' e r
    cases r
    exact hq H'
theorem walk_law {l : PySem.W.OpenLaw} {k : Nat} {q : Program} {loose : List Str} {XP : (Str → Option Value) → Heap → Prop} {YP : World → Heap → Prop} {d : DefRec} {K : Params → PySem.W.Frag} (hn : l.most = some 63) (hdf : d.params.defaults = []) (hr : Room k callerA)
    (hY : ∀ (w : World) (h : Heap), YP w h → (K w.params).In h)
    (F : ∀ (w : World) (mg : Str → Option Value) (fa : Addr) (h : Heap), (K w.params).In h → h.Ns mainGlobals mg → mg d.name = some (.ref fa) →
      ∃ fd : FuncData, (∀ (s : Shared) (u : Value), BindsTo s fd ⟨[u], []⟩ [("script", u)]) ∧ ∀ base : Heap, (K w.params).In base → base.Ns mainGlobals mg → FnOk l.prog w (K w.params) mg base (L2.CX l.prog w) k fa fd ["script"] (spLaw (K w.params))) :
    PySem.W.WalkO q loose XP YP l.row.toRowW d [] (fun f vs => PySem.call f vs) :=
  L2.walk_of (n := 63) (k := k) (x := "script") (CX := fun w => L2.CX l.prog w) (sp := fun w => spLaw (K w.params)) hn (by decide) hdf hr hY F (fun _ _ a ns hl _ hS => ⟨a, ns, rfl, hS, hl, fun _ => rfl⟩) fun w H s e s' z => by
    obtain ⟨_, _, _, _, _, _, _, _, _, _, _, _, h⟩ := z
    exact h
end Dl
namespace Dl
open PySem PySem.Spec PyProof.Rows L2
theorem aName_same {i : Nat} : ∀ (d : Dat) (ρ ρ' : DEnv) (j : Nat), aName i d ρ = some ρ' → j ∉ [i] → ρ'[j]? = ρ[j]? := fun d ρ ρ' j e h => by
  cases e
  exact List.getElem?_set_ne fun z => h (by rw [z]; exact List.mem_singleton_self _)
theorem asNil_same : ∀ (ds : List Dat) (ρ ρ' : DEnv) (j : Nat), asNil ds ρ = some ρ' → j ∉ ([] : List Nat) → ρ'[j]? = ρ[j]? := fun ds ρ ρ' j e _ => by
  cases ds with
  | nil => cases e; rfl
  | cons d ds => cases e
theorem asCons_same {f : Dat → DEnv → Option DEnv} {g : List Dat → DEnv → Option DEnv} {is js : List Nat} (hf : ∀ d ρ ρ' j, f d ρ = some ρ' → j ∉ is → ρ'[j]? = ρ[j]?) (hg : ∀ ds ρ ρ' j, g ds ρ = some ρ' → j ∉ js → ρ'[j]? = ρ[j]?) :
    ∀ (ds : List Dat) (ρ ρ' : DEnv) (j : Nat), asCons f g ds ρ = some ρ' → j ∉ is ++ js → ρ'[j]? = ρ[j]? := fun ds ρ ρ' j e h => by
  cases ds with
  | nil => cases e
  | cons d ds =>
    cases q : f d ρ with
    | none => simp only [asCons, q] at e; cases e
    | some ρ1 =>
      simp only [asCons, q] at e
      rw [hg _ _ _ _ e fun z => h (List.mem_append_right _ z), hf _ _ _ _ q fun z => h (List.mem_append_left _ z)]
theorem aTup_same {g : List Dat → DEnv → Option DEnv} {is : List Nat} (hg : ∀ ds ρ ρ' j, g ds ρ = some ρ' → j ∉ is → ρ'[j]? = ρ[j]?) :
    ∀ (d : Dat) (ρ ρ' : DEnv) (j : Nat), aTup g d ρ = some ρ' → j ∉ is → ρ'[j]? = ρ[j]? := fun d ρ ρ' j e h => by
  cases d with
  | tup ds => exact hg _ _ _ _ e h
  | lst ds => exact hg _ _ _ _ e h
  | _ => cases e
def range3D : List Dat → Res (List Dat)
  | [.int i, .int j, .int c] => if decide (c ≠ 0) && decide (c.natAbs < 1073741824) && Builtin.Range.small i j c then .ok (rngC i c (Builtin.Range.rangeSize i j c).toNat) else .stuck
  | _ => .stuck
section
variable {X : Cx} {T : CT} {W : WX} {ow : List Nat} {a b c tg : Expr} {pos p : Pos} {fs : DEnv → Res (List Dat)}
theorem di_range3 (hm : X.mg "range" = none) (ha : DA X T W ow [a, b, c] fs) (hg : Gl X "range" := by rfl) (hs : starEach [a, b, c] X.env = (false, eval a X.env) :: starEach [b, c] X.env := by rfl) (hpl : (backTo pos (starEach [b, c] X.env)).any (·.1) = false := by rfl) :
    DI X T W ow tg (.Call (.Name "range" p) [a, b, c] [] pos) (gA range3D fs) := pi_imp (pi_range3 hg hm ha hs hpl) fun σ H R h => by
  obtain ⟨ρ, S, re, w⟩ := h
  refine WantI.partA re w fun vs ds H1 w1 re1 e1 rs => ?_
  cases rs with
  | nil => exact w1.elim
  | cons r rs =>
    cases rs with
    | nil => cases r <;> exact w1.elim
    | cons r2 rs =>
      cases rs with
      | nil => cases r <;> cases r2 <;> exact w1.elim
      | cons r3 rs =>
        cases rs with
        | cons _ _ => cases r <;> cases r2 <;> cases r3 <;> exact w1.elim
        | nil =>
          cases r with
          | int i =>
            cases r2 with
            | int j =>
              cases r3 with
              | int k =>
                have w2 : WantI X.K T W σ H1 S (if decide (k ≠ 0) && decide (k.natAbs < 1073741824) && Builtin.Range.small i j k then .ok (rngC i k (Builtin.Range.rangeSize i j k).toNat) else .stuck) R := w1
                by_cases z : (decide (k ≠ 0) && decide (k.natAbs < 1073741824) && Builtin.Range.small i j k) = true
                · rw [if_pos z] at w2
                  rw [Bool.and_eq_true, Bool.and_eq_true] at z
                  exact ⟨i, j, k, _, rfl, ⟨of_decide_eq_true z.1.1, of_decide_eq_true z.1.2, z.2, rangeSize_toNat _ _ _⟩, w2 _ H1 (Ex.refl H1) src_rangeC⟩
                · rw [if_neg z] at w2
                  exact w2.elim
              | _ => exact w1.elim
            | _ => cases r3 <;> exact w1.elim
          | _ => cases r2 <;> cases r3 <;> exact w1.elim
end
end Dl
namespace Dl
open PySem
theorem look_cases {k a : Str} {e x : Dat} {l : List (Str × Dat)} (h : ((a, x) :: l).lookup k = some e) : (k = a ∧ e = x) ∨ l.lookup k = some e := by
  have h' : (match k == a with | true => some x | false => List.lookup k l) = some e := h
  cases z : (k == a) with
  | true =>
    rw [z] at h'
    exact .inl ⟨eq_of_beq z, (Option.some.inj h').symm⟩
  | false =>
    rw [z] at h'
    exact .inr h'
end Dl
/-! The D layer, part 11: several handlers, methods of texts. -/
namespace Dl
open PySem PySem.Spec PyProof.Rows L2
/-- the handlers, one after the other: the classes, the suite (which raises nothing) -/
abbrev HdL := List ((Nat → Bool) × (DEnv → DFlow))
def endT : DFlow → DFlow
  | .ex _ _ => .stuck
  | f => f
def handM : HdL → Nat → DEnv → DFlow
  | [], c, ρ => .ex c ρ
  | (m, G) :: r, c, ρ => if m c = true then endT (G ρ) else handM r c ρ
def sTryM (F : DEnv → DFlow) (hs : HdL) : DEnv → DFlow := fun ρ => match F ρ with
  | .ex c ρ' => handM hs c ρ'
  | f => f
inductive HdD (X : Cx) (T : CT) (ow' ob : List Nat) : List ExceptHandler → HdL → List (Value × (Addr → Value → Option Addr → TS)) → Prop
  | nil : HdD X T ow' ob [] [] []
  | cons {x : Str} {cv : Value} {m : Nat → Bool} {G : DEnv → DFlow} {b₀ : Stmt} {suite : List Stmt} {np pos' : Pos} {hds : List ExceptHandler} {l : HdL} {l' : List (Value × (Addr → Value → Option Addr → TS))} (hc : Names X x cv) (hm : ∀ c, PySem.W.exmOne X.K (T.exc c) cv = some (m c))
      (hsu : ∀ (a : Addr) (oe : Obj) (cls : Value) (d : Option Addr) (pn : List (Addr × Obj)), Zc cls d oe → (∃ vs, oe.data = .fields vs) → DSs (X.suite a ((a, oe) :: pn)) T wNo [] ow' ob (b₀ :: suite) G) (r : HdD X T ow' ob hds l l') :
      HdD X T ow' ob (.ExceptHandler (some (.Name x np)) none (b₀ :: suite) pos' :: hds) ((m, G) :: l) ((cv, fun _ _ _ => tDS X.K T wNo [] ow' ob G) :: l')
section
variable {X : Cx} {T : CT} {W : WX} {ow ow' ob : List Nat} {pos : Pos} {F : DEnv → DFlow} {body : List Stmt}
theorem HdD.ok {hds : List ExceptHandler} {l : HdL} {l' : List (Value × (Addr → Value → Option Addr → TS))} (h : HdD X T ow' ob hds l l') : HdsOk X hds l' := by
  induction h with
  | nil => exact .nil
  | cons hc hm hsu r ih => exact .cons hc (fun a oe cls d pn hz hf => hsu a oe cls d pn hz hf) ih
theorem wants_ext {K : PySem.W.Frag} {B H H1 : Hp} {B0 S S1 : List Addr} {D : Ends} {f : DFlow} (w : Wants K T W B B0 ow' ob H S D (endT f)) (e : Ex (hide H S) (hide H1 S1)) (hn : W = wNo ∨ True) : Wants K T wNo B B0 ow' ob H1 S1 D f := by
  cases f with
  | ex c ρ => exact w.elim
  | nx ρ => exact fun σ' H' S' r e' => w σ' H' S' r (e.trans e')
  | bk ρ => exact fun σ' H' S' r e' => w σ' H' S' r (e.trans e')
  | ct ρ => exact fun σ' H' S' r e' => w σ' H' S' r (e.trans e')
  | rt d => exact w
  | stuck => exact w
theorem ds_tryM {h₀ : ExceptHandler} {hds : List ExceptHandler} {l : HdL} {l' : List (Value × (Addr → Value → Option Addr → TS))} (hs : X.stack = X.env :: X.outer) (hf : X.env.frame = some X.env.locals) (tk : Takes X W)
    (hb : ∀ (W : WX) (pn : List (Addr × Obj)) (xe : Value → Shared → Prop), Takes (X.tr pn xe) W → PassesOwn (model X.prog X.w) X.A X.env xe → DSs (X.tr pn xe) T W ow ow' ob body F)
    (hh : HdD X T ow' ob (h₀ :: hds) l l') : DS X T W ow ow' ob (.Try body (h₀ :: hds) [] [] pos) (sTryM F l) :=
  ps_imp (ps_try_many (tb := fun W => tDS X.K T W ow ow' ob F) hs hf tk hb hh.ok) fun D σ H q => by
    obtain ⟨B, B0, ρ, S, rs, w⟩ := q
    refine ⟨B, B0, ρ, S, rs, ?_⟩
    unfold sTryM at w
    cases qF : F ρ with
    | ex c ρ' =>
      rw [qF] at w
      intro σ' H' rs' e'
      have w : Wants X.K T W B B0 ow' ob H S D (handM l c ρ') := w
      clear qF hb
      generalize h₀ :: hds = hl at hh
      induction hh with
      | nil => exact w σ' H' rs' e'
      | @cons x cv m G b₀ suite np pos' hds2 l2 l2' hc hm hsu r ih =>
        refine ⟨m c, hm c, fun hb' a _ => ?_, fun hb' => ?_⟩
        · have w2 : Wants X.K T W B B0 ow' ob H S D (endT (G ρ')) := by
            have z : handM ((m, G) :: l2) c ρ' = endT (G ρ') := if_pos hb'
            rw [z] at w
            exact w
          exact ⟨B, B0, ρ', B0, rs', wants_ext w2 e' (.inr trivial)⟩
        · have z : handM ((m, G) :: l2) c ρ' = handM l2 c ρ' := if_neg (by rw [hb']; decide)
          rw [z] at w
          exact ih w w
    | nx ρ2 => rw [qF] at w; exact w
    | bk ρ2 => rw [qF] at w; exact w
    | ct ρ2 => rw [qF] at w; exact w
    | rt d => rw [qF] at w; exact w
    | stuck => rw [qF] at w; exact w
end
/-! ### methods of a text, one argument -/
def vM1 (g : Dat → Dat → Option Dat) (fo fa : DEnv → Res Dat) : DEnv → Res Dat := fun ρ => (fo ρ).bind fun x => match x with
  | .str z => (fa ρ).bind fun y => ofO (g (.str z) y)
  | _ => .stuck
def MtD (K : PySem.W.Frag) (T : CT) (r : V → List V → Hp → VK → Prop) (g : Dat → Dat → Option Dat) : Prop := ∀ (S : List Addr) (H : Hp) (z : Str) (v : V) (dv d : Dat) (Q : VK), Rep K T (hide H S) v dv → g (.str z) dv = some d →
  (∀ v' H', Ex H H' → Rep K T (hide H' S) v' d → Q v' H') → r (.str z) [v] H Q
section
variable {X : Cx} {T : CT} {W : WX} {ow : List Nat} {o e : Expr} {fo fa : DEnv → Res Dat} {id : String} {name : Str} {apos pos : Pos} {r : V → List V → Hp → VK → Prop} {g : Dat → Dat → Option Dat}
theorem de_sm1 (slot : Slot "str" name id) (ty : typeOf (.builtin id) = pure (.type "method_descriptor")) (rule : MtR X id r) (rd : MtD X.K T r g) (ho : DE X T W ow o fo) (he : DE X T W ow e fa)
    (hs : starEach [e] X.env = [(false, eval e X.env)] := by rfl) (hbase : attributeBase o name X.env (eval o X.env) = eval o X.env := by rfl) (hline : (apos.endLine == pos.line) = true := by rfl) :
    DE X T W ow (.Call (.Attribute o name apos) [e] [] pos) (vM1 g fo fa) := pe_imp (pe_m1 slot ty rule ho he hs hbase hline) fun σ H Q h => by
  obtain ⟨ρ, S, re, w⟩ := h
  refine Want.part re w fun x dx H1 w1 re1 e1 rx => ?_
  cases rx with
  | str z =>
    refine ⟨⟨z, rfl⟩, ?_⟩
    refine Want.part re1 w1 fun y dy H2 w2 re2 e2 ry => ?_
    cases q : g (.str z) dy with
    | none => rw [q] at w2; exact w2.elim
    | some d =>
      rw [q] at w2
      exact rd _ H2 z y dy d Q ry q w2
  | _ => exact w1.elim
end
def sindexD : Dat → Dat → Option Dat
  | .str a, .str b => (Builtin.Str.occurrences a b 0 a.length 1).head?.map fun i => .int (i : Nat)
  | _, _ => none
theorem md_sindex {K : PySem.W.Frag} {T : CT} : MtD K T (fun x xs H Q => ∃ a b i rest, x = .str a ∧ xs = [.str b] ∧ Builtin.Str.occurrences a b 0 a.length 1 = i :: rest ∧ Q (.int (i : Nat)) H) sindexD := fun S H z v dv d Q rv e q => by
  cases rv with
  | str b =>
    have e : (Builtin.Str.occurrences z b 0 z.length 1).head?.map (fun i => Dat.int (i : Nat)) = some d := e
    cases ho : Builtin.Str.occurrences z b 0 z.length 1 with
    | nil => rw [ho] at e; cases e
    | cons i rest =>
      rw [ho] at e
      cases e
      exact ⟨z, b, i, rest, rfl, rfl, ho, q _ H (Ex.refl H) (.int _)⟩
  | _ => cases e
end Dl
/-! The D layer, part 12: objects are made. An __init__ is: tests that raise, local names, then the attributes. -/
namespace Dl
open PySem PySem.Spec PyProof.Rows L2
/-- all but x is as it was -/
def Agr (x : Addr) (B H : Hp) : Prop := ∀ b o, b ≠ x → B b = some o → H b = some o
theorem Agr.ex {x : Addr} {B H H' : Hp} (a : Agr x B H) (e : Ex H H') : Agr x B H' := fun b o n q => e b o (a b o n q)
/-- what an __init__ stores, in order -/
def iEnd : DEnv → Res (List Dat) := fun _ => .ok []
def iFld (f : DEnv → Res Dat) (I : DEnv → Res (List Dat)) : DEnv → Res (List Dat) := fun ρ => (f ρ).bind fun d => (I ρ).bind fun l => .ok (d :: l)
def iIf (t : DEnv → Res Bool) (c : Nat) (I : DEnv → Res (List Dat)) : DEnv → Res (List Dat) := fun ρ => (t ρ).bind fun b => if b = true then .exc c else I ρ
def iAsg (i : Nat) (f : DEnv → Res Dat) (I : DEnv → Res (List Dat)) : DEnv → Res (List Dat) := fun ρ => (f ρ).bind fun d => I (ρ.set i (some d))
def iDrop (f : DEnv → Res Dat) (I : DEnv → Res (List Dat)) : DEnv → Res (List Dat) := fun ρ => (f ρ).bind fun _ => I ρ
def WantI2 (K : PySem.W.Frag) (T : CT) (W : WX) (x : Addr) (c : Nat) (S : List Addr) (B : Hp) (ds : List Dat) (D : Ends) : Res (List Dat) → Prop
  | .ok l => ∀ σ' H' dx' fs', Agr x B H' → H' x = some (.ins (T.addr c) dx' fs') → fs'.map (·.1) = T.names c → Reps K T (hide H' S) (fs'.map (·.2)) (ds ++ l) → D.nx σ' H'
  | .exc e => ∀ σ' H', Agr x B H' → W (T.exc e) none σ' H'
  | .stuck => False
def tIS (K : PySem.W.Frag) (T : CT) (W : WX) (c : Nat) (nms : List Str) (I : DEnv → Res (List Dat)) : TS := fun D σ H => ∃ (x : Addr) (S : List Addr) (B : Hp) (ρ : DEnv) (dx : Addr) (fs : List (Str × V)) (ds : List Dat),
  x ∈ S ∧ RE K T [] σ ρ H S ∧ σ[0]? = some (some (.ref x)) ∧ H x = some (.ins (T.addr c) dx fs) ∧ fs.map (·.1) ++ nms = T.names c ∧ Agr x B H ∧ Reps K T (hide H S) (fs.map (·.2)) ds ∧ WantI2 K T W x c S B ds D (I ρ)
def IS (X : Cx) (T : CT) (W : WX) (c : Nat) (st : List Stmt) (nms : List Str) (I : DEnv → Res (List Dat)) : Prop := PSs X st (tIS X.K T W c nms I)
section
variable {X : Cx} {T : CT} {W : WX} {c : Nat} {rest : List Stmt} {nms : List Str} {I : DEnv → Res (List Dat)} {pos p1 p2 p3 rpos : Pos} {e o : Expr}
theorem is_nil : IS X T W c [] [] iEnd := pss_imp pss_nil fun D σ H q => by
  obtain ⟨x, S, B, ρ, dx, fs, ds, hx, re, hs, hH, hn, ag, rs, w⟩ := q
  rw [List.append_nil] at hn
  exact w σ H dx fs ag hH hn (by rw [List.append_nil]; exact rs)
/-- the state goes on -/
theorem tIS_go {K : PySem.W.Frag} {D : Ends} {x : Addr} {S : List Addr} {B H H1 : Hp} {ρ : DEnv} {dx : Addr} {fs : List (Str × V)} {ds : List Dat} {σ : Sg} (e : Ex H H1) (hx : x ∈ S) (re : RE K T [] σ ρ H1 S) (hs : σ[0]? = some (some (.ref x))) (hH : H x = some (.ins (T.addr c) dx fs)) (hn : fs.map (·.1) ++ nms = T.names c)
    (ag : Agr x B H) (rs : Reps K T (hide H S) (fs.map (·.2)) ds) (w : WantI2 K T W x c S B ds D (I ρ)) : tIS K T W c nms I D σ H1 :=
  ⟨x, S, B, ρ, dx, fs, ds, hx, re, hs, e _ _ hH, hn, ag.ex e, rs.mono (hide_mono e), w⟩
theorem is_if {cn : Nat} {cond : Expr} {y m : Str} {j : Nat} {t : DEnv → Res Bool} (d : ExD X.K T X.mg cn y) (hc : X.calm = true) (tk : Takes X W) (ht : DT X T W [] cond t) (hr : IS X T W c rest nms I) (hg : Gl X y := by rfl) (hdb : (y == ("__debug__" : Str)) = false := by decide) :
    IS X T W c (.If cond [.Raise (some (.Call (.Name y p1) [.Constant (.str m) j p2] [] p3)) none rpos] [] pos :: rest) nms (iIf t cn I) := by
  obtain ⟨C, e1, e2, e3, e4, e5, e6⟩ := d.ex
  have pr := ps_raise (pos := rpos) hc tk (pmk_own (m := m) (j := j) (p := p1) (p2 := p2) (pos := p3) PySem.F.excBase_ValueError e4 e2 e3 (raises_own e5 e6) hg hdb)
  refine pss_imp (pss_cons (ps_if ht (pss_one pr) pss_nil) hr) fun D σ H q => ?_
  obtain ⟨x, S, B, ρ, dx, fs, ds, hx, re, hs, hH, hn, ag, rs, w⟩ := q
  refine ⟨ρ, S, re, ?_⟩
  unfold iIf at w
  cases qt : t ρ with
  | stuck => rw [qt] at w; exact w.elim
  | exc e => rw [qt] at w; exact fun H1 e1 => w σ H1 (ag.ex e1)
  | ok b =>
    rw [qt] at w
    intro H1 ex
    cases b with
    | true =>
      have := w σ H1 (ag.ex ex)
      rw [e1] at this
      exact this
    | false => exact tIS_go ex hx (re.mono ex) hs hH hn ag rs w
theorem is_drop {f : DEnv → Res Dat} (he : DE X T W [] e f) (hr : IS X T W c rest nms I) (hsw : swapsWith e none pos.line X.env = pure false := by rfl) : IS X T W c (.Expr e pos :: rest) nms (iDrop f I) := by
  refine pss_imp (pss_cons (ps_expr he hsw) hr) fun D σ H q => ?_
  obtain ⟨x, S, B, ρ, dx, fs, ds, hx, re, hs, hH, hn, ag, rs, w⟩ := q
  refine ⟨ρ, S, re, ?_⟩
  unfold iDrop at w
  cases qt : f ρ with
  | stuck => rw [qt] at w; exact w.elim
  | exc e => rw [qt] at w; exact fun H1 e1 => w σ H1 (ag.ex e1)
  | ok d =>
    rw [qt] at w
    intro v H1 ex r
    exact tIS_go ex hx (re.mono ex) hs hH hn ag rs w
theorem is_asg {i : Nat} {y : Str} {f : DEnv → Res Dat} {pos' : Pos} (hN : X.N.Nodup) (he : DE X T W [] e f) (hr : IS X T W c rest nms I) (h0 : i ≠ 0 := by decide) (hi : X.N[i]? = some y := by rfl) (hx : Loc X.env.scope y := by first | exact .inl rfl | exact .inr rfl)
    (hsw : swapsWith e (some (.Name y pos')) pos.line X.env = pure false := by rfl) (hf : X.fn y = true ∨ X.env.scope.names.lookup y = some .local := by first | exact .inl rfl | exact .inr rfl) : IS X T W c (.Assign [.Name y pos'] e pos :: rest) nms (iAsg i f I) := by
  refine pss_imp (pss_cons (ps_set hN hi hx he hsw hf) hr) fun D σ H q => ?_
  obtain ⟨x, S, B, ρ, dx, fs, ds, hx, re, hs, hH, hn, ag, rs, w⟩ := q
  refine ⟨ρ, S, re, ?_⟩
  unfold iAsg at w
  cases qt : f ρ with
  | stuck => rw [qt] at w; exact w.elim
  | exc e => rw [qt] at w; exact fun H1 e1 => w σ H1 (ag.ex e1)
  | ok d =>
    rw [qt] at w
    intro v H1 ex r
    exact tIS_go ex hx ((re.mono ex).set (by simp) r) (by rw [List.getElem?_set_ne h0]; exact hs) hH hn ag rs w
theorem putF_new {f : Str} {v : V} : ∀ {fs : List (Str × V)}, f ∉ fs.map (·.1) → putF f v fs = fs ++ [(f, v)]
  | [], _ => rfl
  | (g, y) :: r, h => by
    rw [List.map_cons, List.mem_cons, not_or] at h
    show (if g = f then (g, v) :: r else (g, y) :: putF f v r) = _
    rw [if_neg (fun z => h.1 z.symm), putF_new h.2]
    rfl
theorem hide_upd2 {H : Hp} {S : List Addr} {x : Addr} {ob : HO} (hx : x ∈ S) : hide (upd H x ob) S = hide H S := by
  funext b
  unfold hide
  by_cases z : b ∈ S
  · rw [if_pos z, if_pos z]
  · rw [if_neg z, if_neg z, upd_ne (fun q => z (by rw [q]; exact hx))]
theorem is_fld {f : Str} {g : DEnv → Res Dat} {slf : Str} {p p' : Pos} (cl : Cls X.K (T.addr c)) (na : NoAttr X.K (T.addr c) f) (hnd : (T.names c).Nodup) (hsz : (T.names c).length < 1000) (hN : X.N.Nodup) (he : DE X T W [] e g) (hr : IS X T W c rest nms I)
    (hi : X.N[0]? = some slf := by rfl) (hv : X.env.scope.names.lookup slf = some .local ∨ X.env.scope.names.lookup slf = some .cell ∨ X.env.scope.names.lookup slf = some .free := by first | exact .inl rfl | exact .inr (.inl rfl))
    (hd : (slf == ("__debug__" : Str)) = false := by decide) (hcd : (slf == ("__classdict__" : Str)) = false := by decide)
    (hsw : swapsWith e (some (.Attribute (.Name slf p) f p')) pos.line X.env = pure false := by rfl) : IS X T W c (.Assign [.Attribute (.Name slf p) f p'] e pos :: rest) (f :: nms) (iFld g I) := by
  refine pss_imp (pss_cons (ps_fld (pe_var hi hv hd hcd) he hsw) hr) fun D σ H q => ?_
  obtain ⟨x, S, B, ρ, dx, fs, ds, hx, re, hs, hH, hn, ag, rs, w⟩ := q
  refine ⟨ρ, S, re, ?_⟩
  unfold iFld at w
  cases qt : g ρ with
  | stuck => rw [qt] at w; exact w.elim
  | exc e => rw [qt] at w; exact fun H1 e1 => w σ H1 (ag.ex e1)
  | ok d =>
    rw [qt] at w
    intro v H1 ex r
    have hlen : fs.length < 1000 := by
      have := congrArg List.length hn
      rw [List.length_append, List.length_map] at this
      omega
    have hnf : f ∉ fs.map (·.1) := by
      rw [← hn, List.nodup_append] at hnd
      exact fun z => hnd.2.2 f z f (List.mem_cons_self ..) rfl
    refine ⟨_, hs, x, _, dx, fs, rfl, ex _ _ hH, cl, na, hlen, ?_⟩
    rw [putF_new hnf]
    have re1 := re.mono ex
    have eh := hide_upd2 (H := H1) (ob := .ins (T.addr c) dx (fs ++ [(f, v)])) hx
    refine ⟨x, S, B, ρ, dx, fs ++ [(f, v)], ds ++ [d], hx, ⟨fun q hq => ?_, re1.len, fun i d' hi hd => ?_, fun i d h => (by cases h), fun i j d e p h => (by cases h)⟩, hs, upd_same .., ?_, fun b ob hb hB => ?_, ?_, ?_⟩
    · by_cases z : q = x
      · subst z
        exact ⟨_, upd_same .., rfl⟩
      · rw [upd_ne z]
        exact re1.mt q hq
    · rw [eh]
      exact re1.fro i d' hi hd
    · rw [List.map_append, List.append_assoc]
      exact hn
    · rw [upd_ne hb]
      exact ex _ _ (ag b ob hb hB)
    · rw [eh, List.map_append]
      exact (rs.mono (hide_mono ex)).append (.cons r .nil)
    · have w : WantI2 X.K T W x c S B ds D ((I ρ).bind fun l => .ok (d :: l)) := w
      cases qi : I ρ with
      | stuck => rw [qi] at w; exact w.elim
      | exc e => rw [qi] at w; exact w
      | ok l =>
        rw [qi] at w
        intro σ' H' dx' fs' a h1 h2 h3
        exact w σ' H' dx' fs' a h1 h2 (by rw [List.append_assoc] at h3; exact h3)
end
end Dl
namespace Dl
open PySem PySem.Spec PyProof.Rows L2
/-! ### what an __init__ promises, a class is called -/
def startI (m : Nat) (ds : List Dat) : DEnv := (startD m (.non :: ds)).set 0 none
def spI (K : PySem.W.Frag) (T : CT) (c n m : Nat) (I : DEnv → Res (List Dat)) : Sp := fun vs H Q E => vs.length = n + 1 ∧ ∃ (x dx : Addr) (vs' : List V) (S : List Addr) (ds : List Dat), vs = .ref x :: vs' ∧ H x = some (.ins (T.addr c) dx []) ∧ x ∈ S ∧ Hid H S ∧ Reps K T (hide H S) vs' ds ∧
  WantI2 K T (fun cls d _ H => E cls d H) x c S H [] { nx := fun _ H' => Q .non H', rt := fun _ _ => False, bk := fun _ _ => False, ct := fun _ _ => False } (I (startI m ds))
theorem re_startI {K : PySem.W.Frag} {T : CT} {H : Hp} {S : List Addr} {N : List Str} {x : Addr} {vs : List V} {ds : List Dat} (hN : N ≠ []) (m : Hid H S) (r : Reps K T (hide H S) vs ds) : RE K T [] (start N (.ref x :: vs)) (startI N.length ds) H S ∧ (start N (.ref x :: vs))[0]? = some (some (.ref x)) := by
  have hl := r.length
  refine ⟨⟨m, ?_, fun i d _ hd => ?_, fun i d h => (by cases h), fun i j d e p h => (by cases h)⟩, ?_⟩
  · unfold L2.start startI startD
    simp [hl]
  · unfold startI startD at hd
    unfold L2.start
    cases i with
    | zero => simp at hd
    | succ i =>
      rw [List.getElem?_set_ne (by omega)] at hd
      simp only [List.map_cons, List.cons_append, List.getElem?_cons_succ, List.length_cons] at hd ⊢
      by_cases hi : i < ds.length
      · rw [List.getElem?_append_left (by simpa using hi), List.getElem?_map] at hd
        rw [List.getElem?_append_left (by rw [List.length_map, hl]; exact hi), List.getElem?_map]
        cases q : ds[i]? with
        | none => rw [q] at hd; cases hd
        | some d' =>
          rw [q] at hd
          cases hd
          obtain ⟨v, h1, h2⟩ := r.get q
          exact ⟨v, by rw [h1]; rfl, h2⟩
      · rw [List.getElem?_append_right (by simpa using hi), List.getElem?_replicate] at hd
        split at hd <;> cases hd
  · unfold L2.start
    rfl
theorem init_D {P : Program} {w : World} {K : PySem.W.Frag} {mg : Str → Option Value} {base : Heap} {T : CT} {x qual : Str} {st : Stmt} {f : Addr} {fd : FuncData} {N ps : List Str} {k n c : Nat} {I : DEnv → Res (List Dat)} (Fu : Fun K x qual st f fd) (Sc : FnScope N ps (defScope st)) (hn : ps.length = n + 1) (hN : N ≠ [])
    (hb : ∀ (cdv : Value) (A : Around) (outer : List Env) (s : Shared) (H : Hp) (E : XK), Room k (A.deeper (envOfC qual (defScope st) s.heap.objs.size f cdv)) →
      IS (cxOf (L2.CX P w) P w K mg base N qual (defScope st) f cdv A outer s H E) T (fun cls d _ H => E cls d H) c (defBody st) (T.names c) I) :
    FnOk P w K mg base (L2.CX P w) (k + 1) f fd ps (spI K T c n N.length I) := by
  refine Fu.okX Sc (fun vs H Q E h => h.1.trans hn.symm) (fun cdv A outer s H vs Q E hr h => ?_)
  obtain ⟨hlen, y, dx, vs', S, ds, rfl, h1, h2, h3, h4, h5⟩ := h
  refine ⟨_, hb cdv A outer s H E hr, ?_⟩
  obtain ⟨r1, r2⟩ := re_startI (x := y) hN h3 h4
  refine ⟨y, S, H, startI N.length ds, dx, [], [], h2, r1, r2, h1, rfl, fun b o _ q => q, .nil, ?_⟩
  cases q : I (startI N.length ds) with
  | stuck => rw [q] at h5; exact h5.elim
  | exc e => rw [q] at h5; exact h5
  | ok l => rw [q] at h5; exact h5
/-- a class that is made so: its index, how many arguments, what it stores -/
structure MkD (P : Program) (w : World) (K : PySem.W.Frag) (mg : Str → Option Value) (base : Heap) (T : CT) (k : Nat) (x : Str) (c n m : Nat) (I : DEnv → Res (List Dat)) : Prop where
  ex : ∃ f fd ps, mg x = some (.ref (T.addr c)) ∧ Mk K (T.addr c) f ∧ Binds K fd ps [] ∧ FnOk P w K mg base (L2.CX P w) k f fd ps (spI K T c n m I)
def makeD (c n m : Nat) (I : DEnv → Res (List Dat)) (ds : List Dat) : Res Dat := if ds.length = n then (I (startI m ds)).bind fun l => .ok (.obj c l) else .stuck
def vMake (c n m : Nat) (I : DEnv → Res (List Dat)) (fs : DEnv → Res (List Dat)) : DEnv → Res Dat := fun ρ => (fs ρ).bind (makeD c n m I)
section
variable {X : Cx} {T : CT} {W : WX} {ow : List Nat} {e : Expr} {es : List Expr} {pos p : Pos} {fs : DEnv → Res (List Dat)}
/-- a class is called: the errors of its __init__ go on by slots -/
theorem run_new {pins : List (Addr × Obj)} {σ : Sg} {H : Hp} {s : Shared} {Q : VK} {k : Nat} {f C : Addr} {fd : FuncData} {ps : List Str} {sp : Sp} {E : XK} {us : List Value} {vs : List V} (M : Mk X.K C f) (F : FnOk X.prog X.w X.K X.mg X.base (L2.CX X.prog X.w) k f fd ps sp) (hr : Room (k + 1) X.A) (hb : Binds X.K fd ps [])
    (hx : PassesAt (L2.CX X.prog X.w) X σ E) (I : Inv X pins σ H s) (r : Vals vs us) (h : ∀ x dx, H x = none → H dx = none → dx ≠ x → sp (.ref x :: vs) (upd (upd H dx (.own x)) x (.ins C dx [])) (fun v H2 => v = .non ∧ Q (.ref x) H2) E) :
    wpAny (model X.prog X.w) X.A (call (.ref C) us) (EP X pins σ Q) X.xe s := by
  have n1 := I.hok.fresh (Nat.le_succ s.heap.objs.size)
  have n2 := I.hok.fresh (Nat.le_refl s.heap.objs.size)
  have q := h _ _ n1 n2 (Nat.ne_of_lt (Nat.lt_succ_self _))
  have J := Inv.made (C := C) I
  have rr : Vals (V.ref (s.heap.objs.size + 1) :: vs) (Value.ref (s.heap.objs.size + 1) :: us) := .cons rfl r
  have len := (rr.length).symm.trans (F.len _ _ _ _ q)
  have bnd := hb _ (Value.ref (s.heap.objs.size + 1) :: us) J.kIn (by rw [List.append_nil]; exact len)
  rw [List.append_nil] at bnd
  have body := F.run _ X.stack _ _ ⟨Value.ref (s.heap.objs.size + 1) :: us, []⟩ _ _ _ E (hr.make C us []) (J.env0.make C us []) bnd rr q
  refine wpAny_call (make_map (f := f) I.kIn M.makes M.init (beq_iff_eq.mp M.fn) (codeAny_mono body fun res s' z => ?_))
  match res, z with
  | .error e, z => exact hx pins _ _ e s' J z
  | .ok (.ret u), z =>
    obtain ⟨v, H', J3, rv, ev, q3⟩ := J.after z
    subst ev
    exact ⟨rv, ⟨V.ref (s.heap.objs.size + 1), H', J3, rfl, q3⟩⟩
  | .ok .next, z => exact z.elim
  | .ok .brk, z => exact z.elim
  | .ok .cont, z => exact z.elim
theorem pe_new {k : Nat} {x : Str} {f C : Addr} {fd : FuncData} {ps : List Str} {sp : Sp} {E : Sg → XK} {t : TA} (M : Mk X.K C f) (F : FnOk X.prog X.w X.K X.mg X.base (L2.CX X.prog X.w) k f fd ps sp) (hr : Room (k + 1) X.A) (hg : Gl X x) (hm : X.mg x = some (.ref C)) (hb : Binds X.K fd ps [])
    (hx : ∀ σ, PassesAt (L2.CX X.prog X.w) X σ (E σ)) (ha : PA X (e :: es) t) (hdb : (x == ("__debug__" : Str)) = false) (he : starEach (e :: es) X.env = (false, eval e X.env) :: starEach es X.env) (hpl : (backTo pos (starEach es X.env)).any (·.1) = false) :
    PE X (.Call (.Name x p) (e :: es) [] pos) (fun σ H Q => t σ H fun vs H1 => ∀ y dx, H1 y = none → H1 dx = none → dx ≠ y → sp (.ref y :: vs) (upd (upd H1 dx (.own y)) y (.ins C dx [])) (fun v H2 => v = .non ∧ Q (.ref y) H2) (E σ)) :=
  ⟨fun pins s σ H Q I h => wpAny_Call_Name_kw (ld_glob I hg hm (PySem.W.callWith_K (h₀ := X.base) I.ok.mod.kin M.kp (thn (ha.run pos pins s σ H _ I h) fun us s1 ⟨vs, H1, I1, r, q⟩ => ⟨I1.kIn, run_new M F hr hb (hx σ) I1 r q⟩) he hpl) hdb)⟩
theorem de_make {k j c n m : Nat} {x : Str} {I : DEnv → Res (List Dat)} (cc : MkD X.prog X.w X.K X.mg X.base T k x c n m I) (hr : Room j X.A) (hk : k + 1 ≤ j) (hp : ∀ σ, PassesAt (L2.CX X.prog X.w) X σ (WE W σ)) (ha : DA X T W ow (e :: es) fs) (hg : Gl X x := by rfl)
    (hdb : (x == ("__debug__" : Str)) = false := by decide) (he : starEach (e :: es) X.env = (false, eval e X.env) :: starEach es X.env := by rfl) (hpl : (backTo pos (starEach es X.env)).any (·.1) = false := by rfl) :
    DE X T W ow (.Call (.Name x p) (e :: es) [] pos) (vMake c n m I fs) := by
  obtain ⟨f, fd, ps, h1, h2, h3, h4⟩ := cc.ex
  refine pe_imp (pe_new h2 h4 (hr.mono hk) hg h1 h3 hp ha hdb he hpl) fun σ H Q h => ?_
  obtain ⟨ρ, S, re, w⟩ := h
  refine Want.partA re w fun vs ds H1 w1 re1 e1 rs => ?_
  intro y dx hy hdx hne
  unfold makeD at w1
  split at w1
  · rename_i hl
    have eo : Ex H1 (upd (upd H1 dx (.own y)) y (.ins (T.addr c) dx [])) := (Ex.new hdx).trans (Ex.new (by rw [upd_ne (fun q => hne q.symm)]; exact hy))
    have yS : y ∉ S := re1.mt.not hy
    have eh : Ex (hide H1 S) (hide (upd (upd H1 dx (.own y)) y (.ins (T.addr c) dx [])) (y :: S)) := fun b o hb => by
      unfold hide at hb ⊢
      by_cases z : b ∈ S
      · rw [if_pos z] at hb; cases hb
      · rw [if_neg z] at hb
        have nb : b ≠ y := fun q => by rw [q, hy] at hb; cases hb
        rw [if_neg (by rw [List.mem_cons, not_or]; exact ⟨nb, z⟩)]
        exact eo b o hb
    refine ⟨by rw [List.length_cons, rs.length, hl], y, dx, vs, y :: S, ds, rfl, upd_same .., List.mem_cons_self .., fun q hq => ?_, rs.mono eh, ?_⟩
    · rcases List.mem_cons.mp hq with z | z
      · subst z
        exact ⟨_, upd_same .., rfl⟩
      · obtain ⟨o, a, b⟩ := re1.mt q z
        exact ⟨o, eo q o a, b⟩
    have back : ∀ {H' : Hp}, Agr y (upd (upd H1 dx (.own y)) y (.ins (T.addr c) dx [])) H' → Ex H1 H' := fun {H'} ag b o hb => ag b o (fun q => by rw [q, hy] at hb; cases hb) (eo b o hb)
    cases q : I (startI m ds) with
    | stuck => rw [q] at w1; exact w1.elim
    | exc e =>
      rw [q] at w1
      exact fun σ' H' ag => w1 H' (back ag)
    | ok l =>
      rw [q] at w1
      intro σ' H' dx' fs' ag hH hn hr'
      refine ⟨rfl, w1 (.ref y) H' (back ag) ?_⟩
      refine .obj (dx := dx') (fs := fs') ?_ hn (hr'.mono fun b o hb => ?_)
      · unfold hide
        rw [if_neg yS]
        exact hH
      · unfold hide at hb ⊢
        split at hb
        · cases hb
        · rename_i z
          rw [List.mem_cons, not_or] at z
          rw [if_neg z.2]
          exact hb
  · exact w1.elim
end
end Dl
/-! The D layer, part 13: methods of own objects; except .. as e. -/
namespace Dl
open PySem PySem.Spec PyProof.Rows L2
structure MetD (P : Program) (w : World) (K : PySem.W.Frag) (mg : Str → Option Value) (base : Heap) (T : CT) (k c : Nat) (m : Str) (n : Nat) (F : List Dat → Res Dat) : Prop where
  ex : ∃ f fd ps, Cls K (T.addr c) ∧ Meth K (T.addr c) m f ∧ Binds K fd ps [] ∧ FnOk P w K mg base (L2.CX P w) k f fd ps (spD K T n F)
def methK (c n : Nat) (F : List Dat → Res Dat) (ds : List Dat) : Dat → Res Dat
  | .obj c' l => if c' = c ∧ ds.length + 1 = n then F (.obj c' l :: ds) else .stuck
  | _ => .stuck
def isObj (c : Nat) : Dat → Bool
  | .obj c' _ => c' == c
  | _ => false
def vMeth (c n : Nat) (F : List Dat → Res Dat) (fo : DEnv → Res Dat) (fs : DEnv → Res (List Dat)) : DEnv → Res Dat := fun ρ => (fo ρ).bind fun x => if isObj c x = true then (fs ρ).bind fun ds => methK c n F ds x else .stuck
theorem lookup_none {m : Str} : ∀ {fs : List (Str × V)}, m ∉ fs.map (·.1) → fs.lookup m = none
  | [], _ => rfl
  | (g, y) :: r, h => by
    rw [List.map_cons, List.mem_cons, not_or] at h
    show (match m == g with | true => some y | false => r.lookup m) = none
    rw [beq_eq_false_iff_ne.mpr h.1]
    exact lookup_none h.2
section
variable {X : Cx} {T : CT} {W : WX} {ow : List Nat} {o e : Expr} {es : List Expr} {pos apos : Pos} {fo : DEnv → Res Dat} {fs : DEnv → Res (List Dat)}
theorem pe_mcall {pl : Sem Bool} {k : Nat} {C f : Addr} {m : Str} {fd : FuncData} {ps : List Str} {sp : Sp} {E : Sg → XK} {ta : TE} {t : TA} (he : PE X o ta) (c : Cls X.K C) (hm : Meth X.K C m f) (F : FnOk X.prog X.w X.K X.mg X.base (L2.CX X.prog X.w) k f fd ps sp) (hr : Room k X.A) (hb : Binds X.K fd ps []) (hx : ∀ σ, PassesAt (L2.CX X.prog X.w) X σ (E σ)) (ha : PA X (e :: es) t)
    (hst : starEach (e :: es) X.env = (false, eval e X.env) :: starEach es X.env) (hpl : (backTo pos (starEach es X.env)).any (·.1) = false)
    (ht : eval (.Call (.Attribute o m apos) (e :: es) [] pos) X.env = (do
      let ov ← eval o X.env
      standAt apos.atName
      let (f, first) ← holding [ov] (getMethod ov m pl)
      callWith pos f first (backTo pos (starEach (e :: es) X.env)) (backToKw pos (keywordEach [] X.env)))) :
    PE X (.Call (.Attribute o m apos) (e :: es) [] pos) (fun σ H Q => ta σ H fun x H1 => ∃ a dx fs, x = .ref a ∧ H1 a = some (.ins C dx fs) ∧ fs.lookup m = none ∧ t σ H1 fun vs H2 => sp (x :: vs) H2 Q (E σ)) :=
  ⟨fun pins s σ H Q I h => PySem.W.methodCall_KW (pl := pl) (thn (he.run pins s σ H _ I h) fun u s1 z => by
    obtain ⟨x, H1, I1, rx, a, dx, fs, ex, ea, l, q⟩ := z
    subst ex
    obtain rfl : u = Value.ref a := rx
    exact getmeth_ok I1 ea c hm l (PySem.W.callWith_K (first := [.ref a]) (h₀ := X.base) I.ok.mod.kin hm.kp (thn (ha.run pos pins s1 σ H1 _ I1 q) fun us s2 ⟨vs, H2, I2, r, q2⟩ => ⟨I2.kIn, run_fnS (us := .ref a :: us) (vs := .ref a :: vs) F hr hb (hx σ) I2 (.cons rfl r) q2⟩) hst hpl)) ht⟩
theorem pe_mcall0 {pl : Sem Bool} {k : Nat} {C f : Addr} {m : Str} {fd : FuncData} {ps : List Str} {sp : Sp} {E : Sg → XK} {ta : TE} (he : PE X o ta) (c : Cls X.K C) (hm : Meth X.K C m f) (F : FnOk X.prog X.w X.K X.mg X.base (L2.CX X.prog X.w) k f fd ps sp) (hr : Room k X.A) (hb : Binds X.K fd ps []) (hx : ∀ σ, PassesAt (L2.CX X.prog X.w) X σ (E σ))
    (ht : eval (.Call (.Attribute o m apos) [] [] pos) X.env = (do
      let ov ← eval o X.env
      standAt apos.atName
      let (f, first) ← holding [ov] (getMethod ov m pl)
      callWith pos f first (backTo pos (starEach [] X.env)) (backToKw pos (keywordEach [] X.env)))) :
    PE X (.Call (.Attribute o m apos) [] [] pos) (fun σ H Q => ta σ H fun x H1 => ∃ a dx fs, x = .ref a ∧ H1 a = some (.ins C dx fs) ∧ fs.lookup m = none ∧ sp [x] H1 Q (E σ)) :=
  ⟨fun pins s σ H Q I h => PySem.W.methodCall_KW (pl := pl) (thn (he.run pins s σ H _ I h) fun u s1 z => by
    obtain ⟨x, H1, I1, rx, a, dx, fs, ex, ea, l, q⟩ := z
    subst ex
    obtain rfl : u = Value.ref a := rx
    exact getmeth_ok I1 ea c hm l (PySem.W.callWith_K0 (first := [.ref a]) I1.kIn hm.kp (run_fnS (us := [.ref a]) (vs := [.ref a]) F hr hb (hx σ) I1 (.cons rfl .nil) q))) ht⟩
theorem want_call {K : PySem.W.Frag} {σ : Sg} {H : Hp} {S : List Addr} {r : Res Dat} {Q : VK} (w : Want K T W σ H S r Q) : Want K T (fun cls d _ H => WE W σ cls d H) [] H S r Q := by
  cases r with
  | ok d => exact w
  | exc c => exact w
  | stuck => exact w
theorem de_meth {pl : Sem Bool} {k j c n : Nat} {m : Str} {F : List Dat → Res Dat} (cm : MetD X.prog X.w X.K X.mg X.base T k c m n F) (hr : Room j X.A) (hk : k ≤ j) (hp : ∀ σ, PassesAt (L2.CX X.prog X.w) X σ (WE W σ)) (hn : m ∉ T.names c) (ho : DE X T W ow o fo) (ha : DA X T W ow (e :: es) fs)
    (hst : starEach (e :: es) X.env = (false, eval e X.env) :: starEach es X.env := by rfl) (hpl : (backTo pos (starEach es X.env)).any (·.1) = false := by rfl)
    (ht : eval (.Call (.Attribute o m apos) (e :: es) [] pos) X.env = (do
      let ov ← eval o X.env
      standAt apos.atName
      let (f, first) ← holding [ov] (getMethod ov m pl)
      callWith pos f first (backTo pos (starEach (e :: es) X.env)) (backToKw pos (keywordEach [] X.env))) := by rfl) :
    DE X T W ow (.Call (.Attribute o m apos) (e :: es) [] pos) (vMeth c n F fo fs) := by
  obtain ⟨f, fd, ps, h1, h2, h3, h4⟩ := cm.ex
  refine pe_imp (pe_mcall (pl := pl) ho h1 h2 h4 (hr.mono hk) h3 hp ha hst hpl ht) fun σ H Q h => ?_
  obtain ⟨ρ, S, re, w⟩ := h
  refine Want.part re w fun x dx H1 w1 re1 e1 rx => ?_
  cases rx with
  | @obj a dx' c' fs' ds' hs hnm rs' =>
    split at w1
    · rename_i hc
      have hc : (c' == c) = true := hc
      obtain rfl : c' = c := eq_of_beq hc
      have hH : H1 a = some (.ins (T.addr c') dx' fs') := hide_ex _ _ hs
      refine ⟨a, dx', fs', rfl, hH, lookup_none (by rw [hnm]; exact hn), ?_⟩
      refine Want.partA re1 w1 fun vs ds H2 w2 re2 e2 rs => ?_
      have w2 : Want X.K T W σ H2 S (if c' = c' ∧ ds.length + 1 = n then F (.obj c' ds' :: ds) else .stuck) Q := w2
      split at w2
      · rename_i hl
        exact ⟨by rw [List.length_cons, rs.length]; exact hl.2, S, .obj c' ds' :: ds, re2.mt, .cons ((Rep.obj hs hnm rs').mono (hide_mono e2)) rs, want_call w2⟩
      · exact w2.elim
    · exact w1.elim
  | _ => exact w1.elim
theorem de_meth0 {pl : Sem Bool} {k j c : Nat} {m : Str} {F : List Dat → Res Dat} (cm : MetD X.prog X.w X.K X.mg X.base T k c m 1 F) (hr : Room j X.A) (hk : k ≤ j) (hp : ∀ σ, PassesAt (L2.CX X.prog X.w) X σ (WE W σ)) (hn : m ∉ T.names c) (ho : DE X T W ow o fo)
    (ht : eval (.Call (.Attribute o m apos) [] [] pos) X.env = (do
      let ov ← eval o X.env
      standAt apos.atName
      let (f, first) ← holding [ov] (getMethod ov m pl)
      callWith pos f first (backTo pos (starEach [] X.env)) (backToKw pos (keywordEach [] X.env))) := by rfl) :
    DE X T W ow (.Call (.Attribute o m apos) [] [] pos) (vMeth c 1 F fo aNil) := by
  obtain ⟨f, fd, ps, h1, h2, h3, h4⟩ := cm.ex
  refine pe_imp (pe_mcall0 (pl := pl) ho h1 h2 h4 (hr.mono hk) h3 hp ht) fun σ H Q h => ?_
  obtain ⟨ρ, S, re, w⟩ := h
  refine Want.part re w fun x dx H1 w1 re1 e1 rx => ?_
  cases rx with
  | @obj a dx' c' fs' ds' hs hnm rs' =>
    split at w1
    · rename_i hc
      have hc : (c' == c) = true := hc
      obtain rfl : c' = c := eq_of_beq hc
      refine ⟨a, dx', fs', rfl, hide_ex _ _ hs, lookup_none (by rw [hnm]; exact hn), ?_⟩
      have w2 : Want X.K T W σ H1 S (if c' = c' ∧ ([] : List Dat).length + 1 = 1 then F [.obj c' ds'] else .stuck) Q := w1
      rw [if_pos ⟨rfl, rfl⟩] at w2
      exact ⟨rfl, S, [.obj c' ds'], re1.mt, .cons (Rep.obj hs hnm rs') .nil, want_call w2⟩
    · exact w1.elim
  | _ => exact w1.elim
end
end Dl
namespace Dl
open PySem PySem.Spec PyProof.Rows L2
def isBD : Dat → Dat → Option Dat
  | .bl a, .bl b => some (.bl (decide (a = b)))
  | _, _ => none
def isnotBD : Dat → Dat → Option Dat
  | .bl a, .bl b => some (.bl (!decide (a = b)))
  | _, _ => none
section
variable {K : PySem.W.Frag} {T : CT}
theorem rd_isB : R2D K T (fun x y H Q => ∃ a b, x = .bl a ∧ y = .bl b ∧ Q (.bl (decide (a = b))) H) isBD := fun S H x y dx dy d Q m rx ry e q => by
  cases rx with
  | bl a =>
    cases ry with
    | bl b =>
      cases e
      exact ⟨a, b, rfl, rfl, q _ H (Ex.refl H) (.bl _)⟩
    | _ => cases e
  | _ => cases ry <;> cases e
theorem rd_isnotB : R2D K T (fun x y H Q => ∃ a b, x = .bl a ∧ y = .bl b ∧ Q (.bl (!decide (a = b))) H) isnotBD := fun S H x y dx dy d Q m rx ry e q => by
  cases rx with
  | bl a =>
    cases ry with
    | bl b =>
      cases e
      exact ⟨a, b, rfl, rfl, q _ H (Ex.refl H) (.bl _)⟩
    | _ => cases e
  | _ => cases ry <;> cases e
end
end Dl
namespace Dl
open PySem PySem.Spec PyProof.Rows L2
/-! ### division by a great negative number, three names at once -/
def CDivX (_ j : Int) : Prop := j ≠ 0 ∧ j.natAbs.log2 < 9000
theorem op_fdivX {X : Cx} : OpR X (binaryOp .FloorDiv) (rI CDivX fun i j => .int (i.fdiv j)) := opI fun _ _ _ _ _ _ _ hc q => floordiv_int hc.1 q (.inl (PyProof.noPylong_of_log2 hc.2))
def fdivXI (i j : Int) : Option Int := if j ≠ 0 ∧ j.natAbs.log2 < 9000 then some (i.fdiv j) else none
def fdivXD := intOp fdivXI
theorem rd_fdivX {K : PySem.W.Frag} {T : CT} : R2D K T (rI CDivX fun i j => .int (i.fdiv j)) fdivXD := rd_int fun i j k Q H e q => by
  unfold fdivXI at e
  split at e
  · rename_i h
    exact ⟨i, j, rfl, rfl, h, by cases e; exact q⟩
  · cases e
def sPar3 (i j l : Nat) (f g h : DEnv → Res Dat) : DEnv → DFlow := fun ρ => rBind (f ρ) ρ fun d => rBind (g ρ) ρ fun e => rBind (h ρ) ρ fun d3 => .nx (((ρ.set i (some d)).set j (some e)).set l (some d3))
section
variable {X : Cx} {T : CT} {W : WX} {ow ow' ob : List Nat} {a b c : Expr} {pos : Pos} {f g h : DEnv → Res Dat}
theorem ds_par3 {i j l : Nat} {x y z : Str} {px py pz pt : Pos} {kt k2 pt2} (hc : X.calm = true) (hN : X.N.Nodup) (ha : DE X T W ow a f) (hb : DE X T W ow b g) (hd : DE X T W ow c h) (hs : ∀ k ∈ ow', k ∈ ow) (hi1 : i ∉ ow') (hj1 : j ∉ ow') (hl1 : l ∉ ow')
    (hw : swappedStores [.Tuple [.Name x px, .Name y py, .Name z pz] kt pt] (.Tuple [a, b, c] k2 pt2) X.env = pure (some [x, y, z]))
    (hi : X.N[i]? = some x := by rfl) (hj : X.N[j]? = some y := by rfl) (hl : X.N[l]? = some z := by rfl) (hij : i ≠ j := by decide) (hil : i ≠ l := by decide) (hjl : j ≠ l := by decide)
    (hx : X.env.scope.names.lookup x = some .local := by rfl) (hy : X.env.scope.names.lookup y = some .local := by rfl) (hz : X.env.scope.names.lookup z = some .local := by rfl)
    (h1 : starEach [a, b, c] X.env = (false, eval a X.env) :: starEach [b, c] X.env := by rfl) (h2 : starEach [b, c] X.env = (false, eval b X.env) :: starEach [c] X.env := by rfl) (h3 : starEach [c] X.env = (false, eval c X.env) :: starEach [] X.env := by rfl)
    (hsw : swapsWithSole [.Tuple [.Name x px, .Name y py, .Name z pz] kt pt] (.Tuple [a, b, c] k2 pt2) pos.line X.env = pure false := by rfl) :
    DS X T W ow ow' ob (.Assign [.Tuple [.Name x px, .Name y py, .Name z pz] kt pt] (.Tuple [a, b, c] k2 pt2) pos) (sPar3 i j l f g h) := ps_imp (ps_par3 hc hN hi hj hl hij hil hjl hx hy hz (pa_cons ha (pa_cons hb (pa_cons hd pa_nil h3) h2) h1) hw hsw) fun D σ H q => by
  obtain ⟨B, B0, ρ, S, rs, w⟩ := q
  refine Wants.part rs w fun v d H1 w1 rs1 e1 r => ?_
  refine Wants.part rs1 w1 fun v2 d2 H2 w2 rs2 e2 r2 => ?_
  refine Wants.part rs2 w2 fun v3 d3 H3 w3 rs3 e3 r3 => ?_
  obtain ⟨rs4, sub⟩ := rs3.less hs
  refine ⟨v, v2, v3, rfl, ?_⟩
  exact Wants.go w3 (((rs4.set hi1 (((r.mono (hide_mono e2)).mono (hide_mono e3)).mono (hide_sub sub))).set hj1 ((r2.mono (hide_mono e3)).mono (hide_sub sub))).set hl1 (r3.mono (hide_sub sub))) (hide_sub sub)
end
end Dl
/-! What the pure functions of the D layer compute: steps of loops, the draws. -/
namespace Dl
open PySem PySem.Spec PyProof.Rows L2
theorem seq_nx {F G : DEnv → DFlow} {ρ ρ' : DEnv} (h : F ρ = .nx ρ') : sSeq F G ρ = G ρ' := by unfold sSeq; rw [h]
theorem seq_rt {F G : DEnv → DFlow} {ρ : DEnv} {d : Dat} (h : F ρ = .rt d) : sSeq F G ρ = .rt d := by unfold sSeq; rw [h]
theorem seq_ex {F G : DEnv → DFlow} {ρ ρ' : DEnv} {c : Nat} (h : F ρ = .ex c ρ') : sSeq F G ρ = .ex c ρ' := by unfold sSeq; rw [h]
theorem asg_ok {i : Nat} {f : DEnv → Res Dat} {ρ : DEnv} {d : Dat} (h : f ρ = .ok d) : sAsg i f ρ = .nx (ρ.set i (some d)) := by unfold sAsg; rw [h]; rfl
theorem asgO_ok {i : Nat} {f : DEnv → Res (List Dat)} {ρ : DEnv} {d : List Dat} (h : f ρ = .ok d) : sAsgO i f ρ = .nx (ρ.set i (some (.lst d))) := by unfold sAsgO; rw [h]; rfl
theorem ret_ok {f : DEnv → Res Dat} {ρ : DEnv} {d : Dat} (h : f ρ = .ok d) : sRet f ρ = .rt d := by unfold sRet; rw [h]; rfl
theorem drop_ok {f : DEnv → Res Dat} {ρ : DEnv} {d : Dat} (h : f ρ = .ok d) : sDrop f ρ = .nx ρ := by unfold sDrop; rw [h]; rfl
theorem if_t {t : DEnv → Res Bool} {F G : DEnv → DFlow} {ρ : DEnv} (h : t ρ = .ok true) : sIf t F G ρ = F ρ := by unfold sIf; rw [h]; rfl
theorem if_f {t : DEnv → Res Bool} {F G : DEnv → DFlow} {ρ : DEnv} (h : t ρ = .ok false) : sIf t F G ρ = G ρ := by unfold sIf; rw [h]; rfl
theorem asgT_ok {asg : Dat → DEnv → Option DEnv} {f : DEnv → Res Dat} {ρ ρ' : DEnv} {d : Dat} (h : f ρ = .ok d) (ha : asg d ρ = some ρ') : sAsgT asg f ρ = .nx ρ' := by
  unfold sAsgT; rw [h]; show (match asg d ρ with | some ρ' => DFlow.nx ρ' | none => .stuck) = _; rw [ha]
theorem aug_ok {i : Nat} {g : Dat → Dat → Option Dat} {f : DEnv → Res Dat} {ρ : DEnv} {d e z : Dat} (hi : ρ[i]? = some (some d)) (h : f ρ = .ok e) (hz : g d e = some z) : sAug i g f ρ = .nx (ρ.set i (some z)) := by
  unfold sAug
  rw [hi]
  show rBind (f ρ) ρ _ = _
  rw [h]
  show (match g d e with | some z => DFlow.nx (ρ.set i (some z)) | none => .stuck) = _
  rw [hz]
theorem for_ok {g : DEnv → Res (List Dat)} {asg : Dat → DEnv → Option DEnv} {F : DEnv → DFlow} {ρ : DEnv} {l : List Dat} (h : g ρ = .ok l) : sFor g asg F ρ = forL asg F l ρ := by unfold sFor; rw [h]; rfl
theorem op_ok {g : Dat → Dat → Option Dat} {f1 f2 : DEnv → Res Dat} {ρ : DEnv} {x y z : Dat} (h1 : f1 ρ = .ok x) (h2 : f2 ρ = .ok y) (h : g x y = some z) : vOp g f1 f2 ρ = .ok z := by
  unfold vOp; rw [h1]; show (f2 ρ).bind _ = _; rw [h2]; show ofO (g x y) = _; rw [h]; rfl
theorem v1_ok {g : Dat → Option Dat} {f : DEnv → Res Dat} {ρ : DEnv} {x z : Dat} (h1 : f ρ = .ok x) (h : g x = some z) : v1 g f ρ = .ok z := by
  unfold v1; rw [h1]; show ofO (g x) = _; rw [h]; rfl
theorem cb_ok {g : List Dat → Option Dat} {fs : DEnv → Res (List Dat)} {ρ : DEnv} {l : List Dat} {z : Dat} (h1 : fs ρ = .ok l) (h : g l = some z) : vCB g fs ρ = .ok z := by
  unfold vCB; rw [h1]; show ofO (g l) = _; rw [h]; rfl
theorem call_ok {n : Nat} {F : List Dat → Res Dat} {fs : DEnv → Res (List Dat)} {ρ : DEnv} {l : List Dat} {r : Res Dat} (h1 : fs ρ = .ok l) (hl : l.length = n) (h : F l = r) : vCall n F fs ρ = r := by
  unfold vCall; rw [h1]; show (if l.length = n then F l else .stuck) = _; rw [if_pos hl]; exact h
theorem ac_ok {f : DEnv → Res Dat} {fs : DEnv → Res (List Dat)} {ρ : DEnv} {x : Dat} {l : List Dat} (h1 : f ρ = .ok x) (h2 : fs ρ = .ok l) : aCons f fs ρ = .ok (x :: l) := by
  unfold aCons; rw [h1]; show (fs ρ).bind _ = _; rw [h2]; rfl
theorem an_ok {ρ : DEnv} : aNil ρ = .ok [] := rfl
theorem tup_ok {fs : DEnv → Res (List Dat)} {ρ : DEnv} {l : List Dat} (h1 : fs ρ = .ok l) (hl : l.length ≤ 1000) : vTup fs ρ = .ok (.tup l) := by
  unfold vTup; rw [h1]; show (if l.length ≤ 1000 then _ else _) = _; rw [if_pos hl]
theorem lst_ok {fs : DEnv → Res (List Dat)} {ρ : DEnv} {l : List Dat} (h1 : fs ρ = .ok l) (hl : l.length ≤ 1000) : fLst fs ρ = .ok l := by
  unfold fLst; rw [h1]; show (if l.length ≤ 1000 then _ else _) = _; rw [if_pos hl]
theorem vl_ok {f : DEnv → Res (List Dat)} {ρ : DEnv} {l : List Dat} (h1 : f ρ = .ok l) : vL f ρ = .ok (.lst l) := by unfold vL; rw [h1]; rfl
theorem ga_ok {k : List Dat → Res (List Dat)} {fs : DEnv → Res (List Dat)} {ρ : DEnv} {l : List Dat} {r : Res (List Dat)} (h1 : fs ρ = .ok l) (h : k l = r) : gA k fs ρ = r := by unfold gA; rw [h1]; exact h
theorem gs_ok {f : DEnv → Res Dat} {ρ : DEnv} {x : Dat} {r : Res (List Dat)} (h1 : f ρ = .ok x) (h : itemsD x = r) : gSeq f ρ = r := by unfold gSeq; rw [h1]; exact h
theorem test_ok {f : DEnv → Res Dat} {ρ : DEnv} {b : Bool} (h : f ρ = .ok (.bl b)) : vTest f ρ = .ok b := by unfold vTest; rw [h]; rfl
theorem tru_ok {f : DEnv → Res Dat} {ρ : DEnv} {d : Dat} {b : Bool} (h : f ρ = .ok d) (ht : truD d = some b) : vTru f ρ = .ok b := by unfold vTru; rw [h]; show ofO (truD d) = _; rw [ht]; rfl
theorem not_ok {t : DEnv → Res Bool} {ρ : DEnv} {b : Bool} (h : t ρ = .ok b) : vNotT t ρ = .ok (!b) := by unfold vNotT; rw [h]; rfl
theorem or_f {t u : DEnv → Res Bool} {ρ : DEnv} (h : t ρ = .ok false) : vOrT t u ρ = u ρ := by unfold vOrT; rw [h]; rfl
theorem or_t {t u : DEnv → Res Bool} {ρ : DEnv} (h : t ρ = .ok true) : vOrT t u ρ = .ok true := by unfold vOrT; rw [h]; rfl
theorem and_t {t u : DEnv → Res Bool} {ρ : DEnv} (h : t ρ = .ok true) : vAndT t u ρ = u ρ := by unfold vAndT; rw [h]; rfl
theorem and_f {t u : DEnv → Res Bool} {ρ : DEnv} (h : t ρ = .ok false) : vAndT t u ρ = .ok false := by unfold vAndT; rw [h]; rfl
theorem vand_t {t u : DEnv → Res Dat} {ρ : DEnv} (h : t ρ = .ok (.bl true)) : vAnd t u ρ = u ρ := by unfold vAnd; rw [h]; rfl
theorem vand_f {t u : DEnv → Res Dat} {ρ : DEnv} (h : t ρ = .ok (.bl false)) : vAnd t u ρ = .ok (.bl false) := by unfold vAnd; rw [h]; rfl
theorem vor_f {t u : DEnv → Res Dat} {ρ : DEnv} (h : t ρ = .ok (.bl false)) : vOr t u ρ = u ρ := by unfold vOr; rw [h]; rfl
theorem vor_t {t u : DEnv → Res Dat} {ρ : DEnv} (h : t ρ = .ok (.bl true)) : vOr t u ρ = .ok (.bl true) := by unfold vOr; rw [h]; rfl
theorem vif_t {t : DEnv → Res Bool} {f g : DEnv → Res Dat} {ρ : DEnv} (h : t ρ = .ok true) : vIf t f g ρ = f ρ := by unfold vIf; rw [h]; rfl
theorem vif_f {t : DEnv → Res Bool} {f g : DEnv → Res Dat} {ρ : DEnv} (h : t ρ = .ok false) : vIf t f g ρ = g ρ := by unfold vIf; rw [h]; rfl
theorem sl_ok {f : DEnv → Res Dat} {fl fh : DEnv → Res (Option Int)} {ρ : DEnv} {x z : Dat} {l h : Option Int} (h1 : f ρ = .ok x) (h2 : fl ρ = .ok l) (h3 : fh ρ = .ok h) (e : slD x l h = some z) : vSl f fl fh ρ = .ok z := by
  unfold vSl; rw [h1]; show (fl ρ).bind _ = _; rw [h2]; show (fh ρ).bind _ = _; rw [h3]; show ofO (slD x l h) = _; rw [e]; rfl
theorem step_ok {f : DEnv → Res Dat} {fl fh fs : DEnv → Res (Option Int)} {ρ : DEnv} {x z : Dat} {l h s : Option Int} (h1 : f ρ = .ok x) (h2 : fl ρ = .ok l) (h3 : fh ρ = .ok h) (h4 : fs ρ = .ok s) (e : stepK l h s x = some z) : vStep f fl fh fs ρ = .ok z := by
  unfold vStep; rw [h1]; show (fl ρ).bind _ = _; rw [h2]; show (fh ρ).bind _ = _; rw [h3]; show (fs ρ).bind _ = _; rw [h4]; show ofO (stepK l h s x) = _; rw [e]; rfl
theorem os_ok {f : DEnv → Res Dat} {ρ : DEnv} {i : Int} (h : f ρ = .ok (.int i)) : oSome f ρ = .ok (some i) := by unfold oSome; rw [h]; rfl
theorem lc_ok {g : DEnv → Res (List Dat)} {asg : Dat → DEnv → Option DEnv} {vs : List Nat} {t : DEnv → Res Bool} {f : DEnv → Res Dat} {ρ : DEnv} {l : List Dat} {r : Res (List Dat)} (h : g ρ = .ok l) (hl : l.length ≤ 10000000) (hr : lcL asg t f (wipeD ρ vs) l = r) : vLc g asg vs t f ρ = r := by
  unfold vLc; rw [h]; show (if l.length ≤ 10000000 then _ else _) = _; rw [if_pos hl]; exact hr
/-- a comprehension without «if» -/
theorem lcL_map {asg : Dat → DEnv → Option DEnv} {f : DEnv → Res Dat} {ρ : DEnv} {g : Dat → Dat} : ∀ {l : List Dat}, (∀ d ∈ l, ∃ ρ1, asg d ρ = some ρ1 ∧ f ρ1 = .ok (g d)) → lcL asg tYesD f ρ l = .ok (l.map g)
  | [], _ => rfl
  | d :: r, h => by
    obtain ⟨ρ1, e1, e2⟩ := h d (List.mem_cons_self ..)
    have ih := lcL_map (asg := asg) (f := f) (ρ := ρ) (g := g) (l := r) fun e he => h e (List.mem_cons_of_mem _ he)
    unfold lcL
    rw [e1]
    show (noExc (f ρ1)).bind (fun y => (lcL asg tYesD f ρ r).bind fun ys => .ok (y :: ys)) = _
    rw [e2, ih]
    rfl
theorem lcL_of {α : Type} {asg : Dat → DEnv → Option DEnv} {f : DEnv → Res Dat} {ρ : DEnv} {e : α → Dat} {g : α → Dat} {l : List α} (h : ∀ a ∈ l, ∃ ρ1, asg (e a) ρ = some ρ1 ∧ f ρ1 = .ok (g a)) : lcL asg tYesD f ρ (l.map e) = .ok (l.map g) := by
  induction l with
  | nil => rfl
  | cons a r ih =>
    obtain ⟨ρ1, e1, e2⟩ := h a (List.mem_cons_self ..)
    have ih := ih fun e he => h e (List.mem_cons_of_mem _ he)
    rw [List.map_cons, List.map_cons]
    unfold lcL
    rw [e1]
    show (noExc (f ρ1)).bind (fun y => (lcL asg tYesD f ρ (r.map e)).bind fun ys => .ok (y :: ys)) = _
    rw [e2, ih]
    rfl
/-- a loop by its state -/
theorem forL_inv {asg : Dat → DEnv → Option DEnv} {F : DEnv → DFlow} : ∀ {l : List Dat} {ρ : DEnv} (P : Nat → DEnv → Prop), P 0 ρ → (∀ k d ρ, l[k]? = some d → P k ρ → ∃ ρ1 ρ2, asg d ρ = some ρ1 ∧ (F ρ1 = .nx ρ2 ∨ F ρ1 = .ct ρ2) ∧ P (k + 1) ρ2) → ∃ ρ', forL asg F l ρ = .nx ρ' ∧ P l.length ρ'
  | [], ρ, P, h0, _ => ⟨ρ, rfl, h0⟩
  | d :: r, ρ, P, h0, hs => by
    obtain ⟨ρ1, ρ2, e1, e2, p⟩ := hs 0 d ρ rfl h0
    obtain ⟨ρ', e, q⟩ := forL_inv (asg := asg) (F := F) (l := r) (ρ := ρ2) (fun k => P (k + 1)) p fun k d ρ hk hp => hs (k + 1) d ρ (by rw [List.getElem?_cons_succ]; exact hk) hp
    refine ⟨ρ', ?_, by rw [List.length_cons]; exact q⟩
    unfold forL
    rw [e1]
    show (match F ρ1 with | .nx ρ2 => forL asg F r ρ2 | .ct ρ2 => forL asg F r ρ2 | .bk ρ2 => .nx ρ2 | f => f) = _
    rcases e2 with e2 | e2 <;> rw [e2] <;> exact e
/-- … that returns at item m -/
theorem forL_ret {asg : Dat → DEnv → Option DEnv} {F : DEnv → DFlow} {x : Dat} : ∀ {l : List Dat} {ρ : DEnv} {m : Nat} (P : Nat → DEnv → Prop), m < l.length → P 0 ρ → (∀ k d ρ, l[k]? = some d → k < m → P k ρ → ∃ ρ1 ρ2, asg d ρ = some ρ1 ∧ (F ρ1 = .nx ρ2 ∨ F ρ1 = .ct ρ2) ∧ P (k + 1) ρ2) →
    (∀ d ρ, l[m]? = some d → P m ρ → ∃ ρ1, asg d ρ = some ρ1 ∧ F ρ1 = .rt x) → forL asg F l ρ = .rt x
  | [], ρ, m, P, hm, _, _, _ => by cases hm
  | d :: r, ρ, 0, P, hm, h0, _, hr => by
    obtain ⟨ρ1, e1, e2⟩ := hr d ρ rfl h0
    unfold forL
    rw [e1]
    show (match F ρ1 with | .nx ρ2 => forL asg F r ρ2 | .ct ρ2 => forL asg F r ρ2 | .bk ρ2 => .nx ρ2 | f => f) = _
    rw [e2]
  | d :: r, ρ, m + 1, P, hm, h0, hs, hr => by
    obtain ⟨ρ1, ρ2, e1, e2, p⟩ := hs 0 d ρ rfl (Nat.succ_pos _) h0
    have ih := forL_ret (asg := asg) (F := F) (x := x) (l := r) (ρ := ρ2) (m := m) (fun k => P (k + 1)) (by rw [List.length_cons] at hm; omega) p
      (fun k d ρ hk hkm hp => hs (k + 1) d ρ (by rw [List.getElem?_cons_succ]; exact hk) (by omega) hp) fun d ρ hk hp => hr d ρ (by rw [List.getElem?_cons_succ]; exact hk) hp
    unfold forL
    rw [e1]
    show (match F ρ1 with | .nx ρ2 => forL asg F r ρ2 | .ct ρ2 => forL asg F r ρ2 | .bk ρ2 => .nx ρ2 | f => f) = _
    rcases e2 with e2 | e2 <;> rw [e2] <;> exact ih
theorem whileL_t {t : DEnv → Res Bool} {F : DEnv → DFlow} {n : Nat} {ρ ρ2 : DEnv} (h : t ρ = .ok true) (hf : F ρ = .nx ρ2) : whileL t F (n + 1) ρ = whileL t F n ρ2 := by
  show rBind (t ρ) ρ _ = _
  rw [h]
  show (match F ρ with | .nx ρ2 => whileL t F n ρ2 | .ct ρ2 => whileL t F n ρ2 | .bk ρ2 => .nx ρ2 | f => f) = _
  rw [hf]
theorem whileL_f {t : DEnv → Res Bool} {F : DEnv → DFlow} {n : Nat} {ρ : DEnv} (h : t ρ = .ok false) : whileL t F (n + 1) ρ = .nx ρ := by
  show rBind (t ρ) ρ _ = _
  rw [h]
  rfl
theorem run_rt {m : Nat} {F : DEnv → DFlow} {ds : List Dat} {d : Dat} (h : F (startD m ds) = .rt d) : runD m F ds = .ok d := by unfold runD; rw [h]; rfl
theorem run_nx {m : Nat} {F : DEnv → DFlow} {ds : List Dat} {ρ : DEnv} (h : F (startD m ds) = .nx ρ) : runD m F ds = .ok .non := by unfold runD; rw [h]; rfl
theorem rng_get {lo : Int} {n k : Nat} {d : Dat} (h : (rng lo n)[k]? = some d) : k < n ∧ d = .int (lo + k) := by
  unfold rng at h
  rw [List.getElem?_map] at h
  by_cases z : k < n
  · rw [List.getElem?_range z] at h
    exact ⟨z, (Option.some.inj h).symm⟩
  · rw [List.getElem?_eq_none (by rw [List.length_range]; omega)] at h
    cases h
theorem rng_len {lo : Int} {n : Nat} : (rng lo n).length = n := by unfold rng; rw [List.length_map, List.length_range]
end Dl
/-! What the laws draw from the script. -/
namespace Dl
open PySem PySem.Spec PyProof.Rows L2
theorem mul_c {i j : Int} (h : j.natAbs < 2 ^ 64) : mulD (.int i) (.int j) = some (.int (i * j)) := by
  show (if mulOk i j = true then _ else _) = _
  rw [if_pos]
  unfold mulOk
  rw [decide_eq_true h]
  simp
theorem mod_c {i j : Int} (h : 0 < j) : modD (.int i) (.int j) = some (.int (i % j)) := by
  show (modI i j).map _ = _
  unfold modI
  rw [if_pos h]
  rfl
theorem pow1018 : powD (.int 10) (.int 18) = some (.int 1000000000000000000) := by
  show (powI 10 18).map _ = _
  have : powI 10 18 = some 1000000000000000000 := by decide +kernel
  rw [this]
  rfl
theorem fdiv_c {i j : Int} (h : 0 < j) (h2 : j.natAbs.log2 < 9000) : fdivD (.int i) (.int j) = some (.int (i / j)) := by
  show (fdivI i j).map _ = _
  unfold fdivI
  rw [if_pos h, if_pos h2]
  rfl
def Drawn (ds : List Int) : Prop := ∀ d ∈ ds, 0 ≤ d ∧ d < 65521
theorem Drawn.snoc {ds : List Int} {d : Int} (h : Drawn ds) (h1 : 0 ≤ d) (h2 : d < 65521) : Drawn (ds ++ [d]) := fun e he => by
  rcases List.mem_append.mp he with z | z
  · exact h e z
  · rw [List.mem_singleton] at z
    subst z
    exact ⟨h1, h2⟩
theorem app_ok {i : Nat} {f : DEnv → Res Dat} {ρ : DEnv} {d : Dat} {l : List Dat} (hi : ρ[i]? = some (some (.lst l))) (h : f ρ = .ok d) (hl : l.length < 10000000) : sApp i f ρ = .nx (ρ.set i (some (.lst (l ++ [d])))) := by
  unfold sApp
  rw [hi]
  show rBind (f ρ) ρ _ = _
  rw [h]
  show (if l.length < 10000000 then _ else _) = _
  rw [if_pos hl]
/-- the inner loop's turn -/
def G1 : DEnv → DFlow := sIf (vTest (vOp gtD (vVar 5) (vC (.int 0)))) (sSeq (sApp 2 (vOp modD (vCB intD (aCons (vVar 5) (aNil))) (vC (.int 1009)))) (sAsg 5 (vOp fdivD (vVar 5) (vC (.int 1009))))) (sNop)
def G2 : DEnv → DFlow := sSeq (sAsg 5 (vCB absD (aCons (vVar 4) (aNil)))) (sSeq (sAsg 3 (vOp modD (vCB intD (aCons (vOp addD (vOp addD (vOp mulD (vVar 3) (vC (.int 48271))) (vVar 5)) (vC (.int 11))) (aNil))) (vC (.int 2147483647)))) (sIf (vTest (vOp geD (vVar 5) (vOp powD (vC (.int 10)) (vC (.int 18))))) (sFor (gA range1D (aCons (vC (.int 60)) (aNil))) (aName 6) G1) (sApp 2 (vOp modD (vOp fdivD (vCB intD (aCons (vOp addD (vOp mulD (vVar 3) (vC (.int 16807))) (vC (.int 5))) (aNil))) (vC (.int 3))) (vC (.int 65521))))))
def G3 : DEnv → DFlow := sIf (vTest (vOp ltD (vCB lenD (aCons (vVar 2) (aNil))) (vVar 1))) (sSeq (sAsg 3 (vOp modD (vCB intD (aCons (vOp addD (vOp addD (vOp mulD (vVar 3) (vC (.int 69621))) (vVar 6)) (vC (.int 1))) (aNil))) (vC (.int 2147483647)))) (sApp 2 (vOp modD (vOp fdivD (vCB intD (aCons (vVar 3) (aNil))) (vC (.int 7))) (vC (.int 65521))))) (sNop)
def Gd : DEnv → DFlow := sSeq (sAsgO 2 (fLst (aNil))) (sSeq (sAsg 3 (vC (.int 7))) (sSeq (sFor (gSeq (vSl (vVar 0) (oNone) (oSome (vC (.int 63))))) (aName 4) G2) (sSeq (sFor (gA range1D (aCons (vVar 1) (aNil))) (aName 6) G3) (sRet (vSl (vVar 2) (oNone) (oSome (vVar 1)))))))
theorem g1_turn {a b x y : Option Dat} {ds : List Int} {s n : Int} (hd : Drawn ds) (hl : ds.length < 10000000) : ∃ (ds' : List Int) (n' : Int), G1 [a, b, some (.lst (ds.map .int)), some (.int s), x, some (.int n), y] = .nx [a, b, some (.lst (ds'.map .int)), some (.int s), x, some (.int n'), y] ∧ Drawn ds' ∧ ds'.length ≤ ds.length + 1 := by
  by_cases z : 0 < n
  · refine ⟨ds ++ [n % 1009], n / 1009, ?_, hd.snoc (Int.emod_nonneg _ (by decide)) (by have := Int.emod_lt_of_pos n (show (0 : Int) < 1009 by decide); omega), by rw [List.length_append]; exact Nat.le_refl _⟩
    unfold G1
    rw [if_t (by exact test_ok (op_ok (x := .int n) (y := .int 0) rfl rfl (by show some (Dat.bl (decide (0 < n))) = _; rw [decide_eq_true z])))]
    rw [seq_nx (app_ok (l := ds.map .int) rfl (op_ok (x := .int n) (y := .int 1009) rfl rfl (mod_c (by decide))) (by rw [List.length_map]; exact hl))]
    rw [asg_ok (op_ok (x := .int n) (y := .int 1009) rfl rfl (fdiv_c (by decide) (by decide)))]
    rw [List.map_append]
    rfl
  · refine ⟨ds, n, ?_, hd, Nat.le_succ _⟩
    unfold G1
    rw [if_f (by exact test_ok (op_ok (x := .int n) (y := .int 0) rfl rfl (by show some (Dat.bl (decide (0 < n))) = _; rw [decide_eq_false z])))]
    rfl
theorem g2_turn {a b x y : Option Dat} {ds : List Int} {s c : Int} (hd : Drawn ds) (hl : ds.length < 100000) : ∃ (ds' : List Int) (s' n' : Int) (y' : Option Dat), G2 [a, b, some (.lst (ds.map .int)), some (.int s), some (.int c), x, y] = .nx [a, b, some (.lst (ds'.map .int)), some (.int s'), some (.int c), some (.int n'), y'] ∧ Drawn ds' ∧ ds'.length ≤ ds.length + 60 := by
  unfold G2
  have e1 : ∀ G, sSeq (sAsg 5 (vCB absD (aCons (vVar 4) (aNil)))) G [a, b, some (.lst (ds.map .int)), some (.int s), some (.int c), x, y] = G [a, b, some (.lst (ds.map .int)), some (.int s), some (.int c), some (.int (if c < 0 then -c else c)), y] := fun G => seq_nx rfl
  rw [e1]
  generalize (if c < 0 then -c else c) = n
  rw [seq_nx (ρ' := [a, b, some (.lst (ds.map .int)), some (.int ((s * 48271 + n + 11) % 2147483647)), some (.int c), some (.int n), y]) (asg_ok (op_ok (x := .int (s * 48271 + n + 11)) (y := .int 2147483647)
    (cb_ok (ac_ok (op_ok (op_ok (op_ok (x := .int s) (y := .int 48271) rfl rfl (mul_c (by decide))) (y := .int n) rfl rfl) (y := .int 11) rfl rfl) an_ok) rfl) rfl (mod_c (by decide))))]
  generalize (s * 48271 + n + 11) % 2147483647 = s'
  have ht : vTest (vOp geD (vVar 5) (vOp powD (vC (.int 10)) (vC (.int 18)))) [a, b, some (.lst (ds.map .int)), some (.int s'), some (.int c), some (.int n), y] = .ok (decide (1000000000000000000 ≤ n)) :=
    test_ok (op_ok (x := .int n) (y := .int 1000000000000000000) rfl (op_ok (x := .int 10) (y := .int 18) rfl rfl pow1018) rfl)
  by_cases z : 1000000000000000000 ≤ n
  · rw [decide_eq_true z] at ht
    rw [if_t ht, for_ok (l := rng 0 60) rfl]
    obtain ⟨ρ', e, p⟩ := forL_inv (asg := aName 6) (F := G1) (l := rng 0 60) (ρ := [a, b, some (.lst (ds.map .int)), some (.int s'), some (.int c), some (.int n), y])
      (fun k ρ => ∃ (ds' : List Int) (n' : Int) (y' : Option Dat), ρ = [a, b, some (.lst (ds'.map .int)), some (.int s'), some (.int c), some (.int n'), y'] ∧ Drawn ds' ∧ ds'.length ≤ ds.length + k ∧ k ≤ 60) ⟨ds, n, y, rfl, hd, Nat.le_refl _, by decide⟩ fun k d ρ hk hp => by
        obtain ⟨ds', n', y', rfl, h1, h2, h3⟩ := hp
        obtain ⟨ds2, n2, e2, h4, h5⟩ := g1_turn (a := a) (b := b) (x := some (.int c)) (y := some d) (s := s') (n := n') h1 (by omega)
        have hk' := (rng_get hk).1
        exact ⟨_, _, rfl, .inl e2, ds2, n2, _, rfl, h4, by omega, by omega⟩
    obtain ⟨ds', n', y', rfl, h1, h2, h3⟩ := p
    exact ⟨ds', s', n', y', e, h1, by rw [rng_len] at h2; exact h2⟩
  · rw [decide_eq_false z] at ht
    rw [if_f ht]
    refine ⟨ds ++ [(s' * 16807 + 5) / 3 % 65521], s', n, y, ?_, hd.snoc (Int.emod_nonneg _ (by decide)) (Int.emod_lt_of_pos _ (by decide)), by rw [List.length_append, List.length_singleton]; omega⟩
    rw [app_ok (l := ds.map .int) rfl (op_ok (x := .int ((s' * 16807 + 5) / 3)) (y := .int 65521) (op_ok (x := .int (s' * 16807 + 5)) (y := .int 3)
      (cb_ok (ac_ok (op_ok (op_ok (x := .int s') (y := .int 16807) rfl rfl (mul_c (by decide))) (y := .int 5) rfl rfl) an_ok) rfl) rfl (fdiv_c (by decide) (by decide))) rfl (mod_c (by decide))) (by rw [List.length_map]; omega)]
    rw [List.map_append]
    rfl
theorem g3_turn {a x y : Option Dat} {m : Nat} {ds : List Int} {s k : Int} (hd : Drawn ds) (hl : ds.length < 100000) : ∃ (ds' : List Int) (s' : Int), G3 [a, some (.int m), some (.lst (ds.map .int)), some (.int s), x, y, some (.int k)] = .nx [a, some (.int m), some (.lst (ds'.map .int)), some (.int s'), x, y, some (.int k)] ∧ Drawn ds' ∧ (ds.length < m → ds'.length = ds.length + 1) ∧ (m ≤ ds.length → ds'.length = ds.length) := by
  unfold G3
  have ht : vTest (vOp ltD (vCB lenD (aCons (vVar 2) (aNil))) (vVar 1)) [a, some (.int m), some (.lst (ds.map .int)), some (.int s), x, y, some (.int k)] = .ok (decide (((ds.map Dat.int).length : Int) < m)) := rfl
  rw [List.length_map] at ht
  by_cases z : ds.length < m
  · rw [decide_eq_true (by omega)] at ht
    rw [if_t ht]
    refine ⟨ds ++ [(s * 69621 + k + 1) % 2147483647 / 7 % 65521], (s * 69621 + k + 1) % 2147483647, ?_, hd.snoc (Int.emod_nonneg _ (by decide)) (Int.emod_lt_of_pos _ (by decide)), fun _ => by rw [List.length_append]; rfl, fun h => by omega⟩
    rw [seq_nx (ρ' := [a, some (.int m), some (.lst (ds.map .int)), some (.int ((s * 69621 + k + 1) % 2147483647)), x, y, some (.int k)]) (asg_ok (op_ok (x := .int (s * 69621 + k + 1)) (y := .int 2147483647)
      (cb_ok (ac_ok (op_ok (op_ok (op_ok (x := .int s) (y := .int 69621) rfl rfl (mul_c (by decide))) (y := .int k) rfl rfl) (y := .int 1) rfl rfl) an_ok) rfl) rfl (mod_c (by decide))))]
    generalize (s * 69621 + k + 1) % 2147483647 = s'
    rw [app_ok (l := ds.map .int) rfl (op_ok (x := .int (s' / 7)) (y := .int 65521) (op_ok (x := .int s') (y := .int 7)
      (cb_ok (ac_ok rfl an_ok) rfl) rfl (fdiv_c (by decide) (by decide))) rfl (mod_c (by decide))) (by rw [List.length_map]; omega)]
    rw [List.map_append]
    rfl
  · rw [decide_eq_false (by omega)] at ht
    rw [if_f ht]
    exact ⟨ds, s, rfl, hd, fun h => absurd h z, fun _ => rfl⟩
theorem cut_pre {α : Type} (l : List α) (k : Nat) : cutD l none (some (k : Int)) = l.take k := by
  unfold cutD
  rw [HT.sIx_nat]
  show (l.drop 0).take (min k l.length - 0) = _
  rw [List.drop_zero, Nat.sub_zero]
  by_cases z : k ≤ l.length
  · rw [Nat.min_eq_left z]
  · rw [Nat.min_eq_right (by omega), List.take_of_length_le (Nat.le_refl _), List.take_of_length_le (by omega)]
/-- the draws: m numbers below 65521 -/
theorem draws_eq {m : Nat} (hm : m ≤ 10000) (ns : List Int) : ∃ ds : List Int, runD 7 Gd [.frz (ns.map .int), .int m] = .ok (.lst (ds.map .int)) ∧ ds.length = m ∧ Drawn ds := by
  have e0 : startD 7 [.frz (ns.map .int), .int m] = [some (.frz (ns.map .int)), some (.int m), none, none, none, none, none] := rfl
  obtain ⟨ρ', e, ds, s, x, y, z, rfl, h1, h2⟩ := forL_inv (asg := aName 4) (F := G2) (l := (ns.take 63).map .int) (ρ := [some (.frz (ns.map .int)), some (.int m), some (.lst []), some (.int 7), none, none, none])
    (fun k ρ => ∃ (ds : List Int) (s : Int) (x y z : Option Dat), ρ = [some (.frz (ns.map .int)), some (.int m), some (.lst (ds.map .int)), some (.int s), x, y, z] ∧ Drawn ds ∧ ds.length ≤ 60 * k) ⟨[], 7, none, none, none, rfl, (fun _ h => by cases h), Nat.le_refl _⟩ fun k d ρ hk hp => by
      obtain ⟨ds, s, x, y, z, rfl, h1, h2⟩ := hp
      have hk2 : k < 63 := by
        have := (List.getElem?_eq_some_iff.mp hk).1
        rw [List.length_map, List.length_take] at this
        omega
      rw [List.getElem?_map] at hk
      cases q : (ns.take 63)[k]? with
      | none => rw [q] at hk; cases hk
      | some c =>
        rw [q] at hk
        cases hk
        obtain ⟨ds', s', n', y', e2, h3, h4⟩ := g2_turn (a := some (.frz (ns.map .int))) (b := some (.int m)) (x := y) (y := z) (s := s) (c := c) h1 (by omega)
        exact ⟨_, _, rfl, .inl e2, ds', s', _, _, _, rfl, h3, by omega⟩
  have hl : ((ns.take 63).map Dat.int).length ≤ 63 := by rw [List.length_map, List.length_take]; omega
  obtain ⟨ρ2, e2, ds2, s2, x2, y2, z2, rfl, h3, h4, h5, h6⟩ := forL_inv (asg := aName 6) (F := G3) (l := rng 0 m) (ρ := [some (.frz (ns.map .int)), some (.int m), some (.lst (ds.map .int)), some (.int s), x, y, z])
    (fun k ρ => ∃ (ds : List Int) (s : Int) (x y z : Option Dat), ρ = [some (.frz (ns.map .int)), some (.int m), some (.lst (ds.map .int)), some (.int s), x, y, z] ∧ Drawn ds ∧ ds.length ≤ 3780 + k ∧ (k ≤ ds.length ∨ m ≤ ds.length) ∧ k ≤ m) ⟨ds, s, x, y, z, rfl, h1, by omega, .inl (Nat.zero_le _), Nat.zero_le _⟩ fun k d ρ hk hp => by
      obtain ⟨ds, s, x, y, z, rfl, h1, h2, h3, h4⟩ := hp
      obtain ⟨hk', rfl⟩ := rng_get hk
      obtain ⟨ds', s', e2, h5, h6, h7⟩ := g3_turn (a := some (.frz (ns.map .int))) (x := x) (y := y) (m := m) (s := s) (k := 0 + (k : Nat)) h1 (by omega)
      refine ⟨_, _, rfl, .inl e2, ds', s', _, _, _, rfl, h5, ?_, ?_, by omega⟩
      · by_cases z : ds.length < m
        · rw [h6 z]; omega
        · rw [h7 (by omega)]; omega
      · by_cases z : ds.length < m
        · rw [h6 z]; omega
        · rw [h7 (by omega)]; omega
  rw [rng_len] at h4 h5
  refine ⟨ds2.take m, ?_, by rw [List.length_take]; omega, fun d hd => h3 d (List.mem_of_mem_take hd)⟩
  refine run_rt ?_
  rw [e0]
  unfold Gd
  refine (seq_nx (ρ' := [some (.frz (ns.map .int)), some (.int m), some (.lst []), none, none, none, none]) rfl).trans ?_
  refine (seq_nx (ρ' := [some (.frz (ns.map .int)), some (.int m), some (.lst []), some (.int 7), none, none, none]) rfl).trans ?_
  rw [seq_nx (ρ' := [some (.frz (ns.map .int)), some (.int m), some (.lst (ds.map .int)), some (.int s), x, y, z])]
  · rw [seq_nx (ρ' := [some (.frz (ns.map .int)), some (.int m), some (.lst (ds2.map .int)), some (.int s2), x2, y2, z2])]
    · rw [ret_ok (sl_ok (x := .lst (ds2.map .int)) (l := none) (h := some (m : Int)) rfl rfl (os_ok rfl) rfl)]
      rw [cut_pre, List.map_take]
    · rw [for_ok (l := rng 0 m)]
      · exact e2
      · refine ga_ok (ac_ok (x := .int m) rfl an_ok) ?_
        show (if big62 (m : Int) = true then Res.ok (rng 0 (m : Int).toNat) else .stuck) = _
        rw [if_pos, Int.toNat_natCast]
        unfold big62
        rw [decide_eq_true, decide_eq_true] <;> first | rfl | omega
  · rw [for_ok (l := (ns.take 63).map .int)]
    · exact e
    · refine gs_ok (sl_ok (x := .frz (ns.map .int)) (l := none) (h := some ((63 : Nat) : Int)) rfl rfl (os_ok rfl) rfl) ?_
      rw [cut_pre, List.map_take]
      rfl
end Dl
namespace Lw
open PySem PySem.Spec PyProof.Rows L2 Dl
def top (i : Nat) : Stmt := PySem.Challenge.pw_creasewrit_k60_points_and_lines.main.body.getD i (.Pass ⟨0, 0, 0, 0⟩)
def m_BadLine (c : Nat) : Bool := [false, false, true].getD c false
def m_BadPoint (c : Nat) : Bool := [true, true, false].getD c true
abbrev s_is_integer : Stmt := top 5
abbrev N_is_integer : List Str := ["value"]
def F_is_integer : DEnv → DFlow := sRet (vAnd (v1 (isiD "int") (vVar 0)) (v1 notD (v1 (isiD "bool") (vVar 0))))
def D_is_integer : List Dat → Res Dat := runD 1 F_is_integer
abbrev s_divisor : Stmt := top 6
abbrev N_divisor : List Str := ["numbers", "found", "number", "one"]
def F_divisor : DEnv → DFlow := sSeq (sAsg 1 (vC (.int 0))) (sSeq (sFor (gSeq (vVar 0)) (aName 2) (sSeq (sAsg 3 (vCB absD (aCons (vVar 2) (aNil)))) (sWhile 1000000 (vTest (vOp gtD (vVar 3) (vC (.int 0)))) (sPar 1 3 (vVar 3) (vOp modD (vVar 1) (vVar 3)))))) (sRet (vVar 1)))
def D_divisor : List Dat → Res Dat := runD 4 F_divisor
abbrev s__are_integers : Stmt := top 7
abbrev N__are_integers : List Str := ["value", "one"]
def F__are_integers : DEnv → DFlow := sRet (vAnd (v1 (isiD "tuple") (vVar 0)) (vAnd (vOp eqD (vCB lenD (aCons (vVar 0) (aNil))) (vC (.int 3))) (vCB allD (aCons (vL (vLc (gSeq (vVar 0)) (aName 1) [1] (tYesD) (vCall 1 D_is_integer (aCons (vVar 1) (aNil))))) (aNil)))))
def D__are_integers : List Dat → Res Dat := runD 2 F__are_integers
abbrev s_is_point : Stmt := top 8
abbrev N_is_point : List Str := ["value"]
def F_is_point : DEnv → DFlow := sRet (vAnd (vCall 1 D__are_integers (aCons (vVar 0) (aNil))) (vAnd (vOp gtD (vOp ixD (vVar 0) (vC (.int 2))) (vC (.int 0))) (vOp eqD (vCall 1 D_divisor (aCons (vVar 0) (aNil))) (vC (.int 1)))))
def D_is_point : List Dat → Res Dat := runD 1 F_is_point
abbrev s_is_line : Stmt := top 9
abbrev N_is_line : List Str := ["value"]
def F_is_line : DEnv → DFlow := sSeq (sIf (vOrT (vNotT (vTru (vCall 1 D__are_integers (aCons (vVar 0) (aNil))))) (vTest (vOp neD (vCall 1 D_divisor (aCons (vVar 0) (aNil))) (vC (.int 1))))) (sRet (vC (.bl false))) (sNop)) (sRet (vOr (vOp gtD (vOp ixD (vVar 0) (vC (.int 0))) (vC (.int 0))) (vAnd (vOp eqD (vOp ixD (vVar 0) (vC (.int 0))) (vC (.int 0))) (vOp gtD (vOp ixD (vVar 0) (vC (.int 1))) (vC (.int 0))))))
def D_is_line : List Dat → Res Dat := runD 1 F_is_line
abbrev s_point : Stmt := top 10
abbrev N_point : List Str := ["x", "y", "w", "by"]
def F_point : DEnv → DFlow := sSeq (sIf (vOrT (vNotT (vTru (vCall 1 D__are_integers (aCons (vTup (aCons (vVar 0) (aCons (vVar 1) (aCons (vVar 2) (aNil))))) (aNil))))) (vTest (vOp eqD (vVar 2) (vC (.int 0))))) (sRaise 1) (sNop)) (sSeq (sAsg 3 (vIf (vTest (vOp gtD (vVar 2) (vC (.int 0)))) (vCall 1 D_divisor (aCons (vTup (aCons (vVar 0) (aCons (vVar 1) (aCons (vVar 2) (aNil))))) (aNil))) (vOp subD (vC (.int 0)) (vCall 1 D_divisor (aCons (vTup (aCons (vVar 0) (aCons (vVar 1) (aCons (vVar 2) (aNil))))) (aNil)))))) (sRet (vTup (aCons (vOp fdivXD (vVar 0) (vVar 3)) (aCons (vOp fdivXD (vVar 1) (vVar 3)) (aCons (vOp fdivXD (vVar 2) (vVar 3)) (aNil)))))))
def D_point : List Dat → Res Dat := runD 4 F_point
abbrev s_line : Stmt := top 11
abbrev N_line : List Str := ["a", "b", "c", "by"]
def F_line : DEnv → DFlow := sSeq (sIf (vOrT (vNotT (vTru (vCall 1 D__are_integers (aCons (vTup (aCons (vVar 0) (aCons (vVar 1) (aCons (vVar 2) (aNil))))) (aNil))))) (vAndT (vTest (vOp eqD (vVar 0) (vC (.int 0)))) (vTest (vOp eqD (vVar 1) (vC (.int 0)))))) (sRaise 2) (sNop)) (sSeq (sAsg 3 (vIf (vOrT (vTest (vOp gtD (vVar 0) (vC (.int 0)))) (vAndT (vTest (vOp eqD (vVar 0) (vC (.int 0)))) (vTest (vOp gtD (vVar 1) (vC (.int 0)))))) (vCall 1 D_divisor (aCons (vTup (aCons (vVar 0) (aCons (vVar 1) (aCons (vVar 2) (aNil))))) (aNil))) (vOp subD (vC (.int 0)) (vCall 1 D_divisor (aCons (vTup (aCons (vVar 0) (aCons (vVar 1) (aCons (vVar 2) (aNil))))) (aNil)))))) (sRet (vTup (aCons (vOp fdivXD (vVar 0) (vVar 3)) (aCons (vOp fdivXD (vVar 1) (vVar 3)) (aCons (vOp fdivXD (vVar 2) (vVar 3)) (aNil)))))))
def D_line : List Dat → Res Dat := runD 4 F_line
abbrev s_check_points : Stmt := top 12
abbrev N_check_points : List Str := ["values", "value"]
def F_check_points : DEnv → DFlow := sIf (vNotT (vTru (vCB allD (aCons (vL (vLc (gSeq (vVar 0)) (aName 1) [1] (tYesD) (vCall 1 D_is_point (aCons (vVar 1) (aNil))))) (aNil))))) (sRaise 1) (sNop)
def D_check_points : List Dat → Res Dat := runD 2 F_check_points
abbrev s_check_lines : Stmt := top 13
abbrev N_check_lines : List Str := ["values", "value"]
def F_check_lines : DEnv → DFlow := sIf (vNotT (vTru (vCB allD (aCons (vL (vLc (gSeq (vVar 0)) (aName 1) [1] (tYesD) (vCall 1 D_is_line (aCons (vVar 1) (aNil))))) (aNil))))) (sRaise 2) (sNop)
def D_check_lines : List Dat → Res Dat := runD 2 F_check_lines
abbrev s_side_of : Stmt := top 14
abbrev N_side_of : List Str := ["here", "there"]
def F_side_of : DEnv → DFlow := sRet (vOp subD (vOp addD (vOp mulD (vOp ixD (vVar 1) (vC (.int 0))) (vOp ixD (vVar 0) (vC (.int 0)))) (vOp mulD (vOp ixD (vVar 1) (vC (.int 1))) (vOp ixD (vVar 0) (vC (.int 1))))) (vOp mulD (vOp ixD (vVar 1) (vC (.int 2))) (vOp ixD (vVar 0) (vC (.int 2)))))
def D_side_of : List Dat → Res Dat := runD 2 F_side_of
abbrev s_lies_on : Stmt := top 15
abbrev N_lies_on : List Str := ["here", "there"]
def F_lies_on : DEnv → DFlow := sSeq (sDrop (vCall 1 D_check_points (aCons (vL (fLst (aCons (vVar 0) (aNil)))) (aNil)))) (sSeq (sDrop (vCall 1 D_check_lines (aCons (vL (fLst (aCons (vVar 1) (aNil)))) (aNil)))) (sRet (vOp eqD (vCall 2 D_side_of (aCons (vVar 0) (aCons (vVar 1) (aNil)))) (vC (.int 0)))))
def D_lies_on : List Dat → Res Dat := runD 2 F_lies_on
abbrev s_cross : Stmt := top 16
abbrev N_cross : List Str := ["first", "second", "under"]
def F_cross : DEnv → DFlow := sSeq (sDrop (vCall 1 D_check_lines (aCons (vL (fLst (aCons (vVar 0) (aCons (vVar 1) (aNil))))) (aNil)))) (sSeq (sAsg 2 (vOp subD (vOp mulD (vOp ixD (vVar 0) (vC (.int 0))) (vOp ixD (vVar 1) (vC (.int 1)))) (vOp mulD (vOp ixD (vVar 0) (vC (.int 1))) (vOp ixD (vVar 1) (vC (.int 0)))))) (sSeq (sIf (vTest (vOp eqD (vVar 2) (vC (.int 0)))) (sRet (vC .non)) (sNop)) (sRet (vCall 3 D_point (aCons (vOp subD (vOp mulD (vOp ixD (vVar 0) (vC (.int 2))) (vOp ixD (vVar 1) (vC (.int 1)))) (vOp mulD (vOp ixD (vVar 0) (vC (.int 1))) (vOp ixD (vVar 1) (vC (.int 2))))) (aCons (vOp subD (vOp mulD (vOp ixD (vVar 0) (vC (.int 0))) (vOp ixD (vVar 1) (vC (.int 2)))) (vOp mulD (vOp ixD (vVar 0) (vC (.int 2))) (vOp ixD (vVar 1) (vC (.int 0))))) (aCons (vVar 2) (aNil))))))))
def D_cross : List Dat → Res Dat := runD 3 F_cross
abbrev s_mirrored : Stmt := top 17
abbrev N_mirrored : List Str := ["here", "there", "square", "side"]
def F_mirrored : DEnv → DFlow := sSeq (sDrop (vCall 1 D_check_points (aCons (vL (fLst (aCons (vVar 0) (aNil)))) (aNil)))) (sSeq (sDrop (vCall 1 D_check_lines (aCons (vL (fLst (aCons (vVar 1) (aNil)))) (aNil)))) (sSeq (sAsg 2 (vOp addD (vOp mulD (vOp ixD (vVar 1) (vC (.int 0))) (vOp ixD (vVar 1) (vC (.int 0)))) (vOp mulD (vOp ixD (vVar 1) (vC (.int 1))) (vOp ixD (vVar 1) (vC (.int 1)))))) (sSeq (sAsg 3 (vCall 2 D_side_of (aCons (vVar 0) (aCons (vVar 1) (aNil))))) (sRet (vCall 3 D_point (aCons (vOp subD (vOp mulD (vOp ixD (vVar 0) (vC (.int 0))) (vVar 2)) (vOp mulD (vOp mulD (vC (.int 2)) (vOp ixD (vVar 1) (vC (.int 0)))) (vVar 3))) (aCons (vOp subD (vOp mulD (vOp ixD (vVar 0) (vC (.int 1))) (vVar 2)) (vOp mulD (vOp mulD (vC (.int 2)) (vOp ixD (vVar 1) (vC (.int 1)))) (vVar 3))) (aCons (vOp mulD (vOp ixD (vVar 0) (vC (.int 2))) (vVar 2)) (aNil)))))))))
def D_mirrored : List Dat → Res Dat := runD 4 F_mirrored
abbrev s_joined : Stmt := top 19
abbrev N_joined : List Str := ["first", "second", "a", "b"]
def F_joined : DEnv → DFlow := sSeq (sAsg 2 (vOp subD (vOp mulD (vOp ixD (vVar 0) (vC (.int 1))) (vOp ixD (vVar 1) (vC (.int 2)))) (vOp mulD (vOp ixD (vVar 1) (vC (.int 1))) (vOp ixD (vVar 0) (vC (.int 2)))))) (sSeq (sAsg 3 (vOp subD (vOp mulD (vOp ixD (vVar 1) (vC (.int 0))) (vOp ixD (vVar 0) (vC (.int 2)))) (vOp mulD (vOp ixD (vVar 0) (vC (.int 0))) (vOp ixD (vVar 1) (vC (.int 2)))))) (sRet (vCall 3 D_line (aCons (vVar 2) (aCons (vVar 3) (aCons (vOp subD (vOp mulD (vOp ixD (vVar 1) (vC (.int 0))) (vOp ixD (vVar 0) (vC (.int 1)))) (vOp mulD (vOp ixD (vVar 0) (vC (.int 0))) (vOp ixD (vVar 1) (vC (.int 1))))) (aNil)))))))
def D_joined : List Dat → Res Dat := runD 4 F_joined
abbrev s_mirrored_line : Stmt := top 18
abbrev N_mirrored_line : List Str := ["first", "there", "square", "foot", "along"]
def F_mirrored_line : DEnv → DFlow := sSeq (sDrop (vCall 1 D_check_lines (aCons (vL (fLst (aCons (vVar 0) (aCons (vVar 1) (aNil))))) (aNil)))) (sSeq (sAsg 2 (vOp addD (vOp mulD (vOp ixD (vVar 0) (vC (.int 0))) (vOp ixD (vVar 0) (vC (.int 0)))) (vOp mulD (vOp ixD (vVar 0) (vC (.int 1))) (vOp ixD (vVar 0) (vC (.int 1)))))) (sSeq (sAsg 3 (vCall 3 D_point (aCons (vOp mulD (vOp ixD (vVar 0) (vC (.int 0))) (vOp ixD (vVar 0) (vC (.int 2)))) (aCons (vOp mulD (vOp ixD (vVar 0) (vC (.int 1))) (vOp ixD (vVar 0) (vC (.int 2)))) (aCons (vVar 2) (aNil)))))) (sSeq (sAsg 4 (vCall 3 D_point (aCons (vOp subD (vOp ixD (vVar 3) (vC (.int 0))) (vOp mulD (vOp ixD (vVar 0) (vC (.int 1))) (vOp ixD (vVar 3) (vC (.int 2))))) (aCons (vOp addD (vOp ixD (vVar 3) (vC (.int 1))) (vOp mulD (vOp ixD (vVar 0) (vC (.int 0))) (vOp ixD (vVar 3) (vC (.int 2))))) (aCons (vOp ixD (vVar 3) (vC (.int 2))) (aNil)))))) (sRet (vCall 2 D_joined (aCons (vCall 2 D_mirrored (aCons (vVar 3) (aCons (vVar 1) (aNil)))) (aCons (vCall 2 D_mirrored (aCons (vVar 4) (aCons (vVar 1) (aNil)))) (aNil))))))))
def D_mirrored_line : List Dat → Res Dat := runD 5 F_mirrored_line
abbrev s_in_sheet : Stmt := top 20
abbrev N_in_sheet : List Str := ["here"]
def F_in_sheet : DEnv → DFlow := sSeq (sDrop (vCall 1 D_check_points (aCons (vL (fLst (aCons (vVar 0) (aNil)))) (aNil)))) (sRet (vAnd (vChain leD leD (vC (.int 0)) (vOp ixD (vVar 0) (vC (.int 0))) (vOp ixD (vVar 0) (vC (.int 2)))) (vChain leD leD (vC (.int 0)) (vOp ixD (vVar 0) (vC (.int 1))) (vOp ixD (vVar 0) (vC (.int 2))))))
def D_in_sheet : List Dat → Res Dat := runD 1 F_in_sheet
abbrev s_root : Stmt := top 21
abbrev N_root : List Str := ["number", "low", "high", "middle"]
def F_root : DEnv → DFlow := sSeq (sIf (vOrT (vNotT (vTru (vCall 1 D_is_integer (aCons (vVar 0) (aNil))))) (vTest (vOp ltD (vVar 0) (vC (.int 0))))) (sRaise 1) (sNop)) (sSeq (sAsgT (aTup (asCons (aName 1) (asCons (aName 2) (asNil)))) (vTup (aCons (vC (.int 0)) (aCons (vC (.int 1)) (aNil))))) (sSeq (sWhile 1000000 (vTest (vOp leD (vOp mulD (vVar 2) (vVar 2)) (vVar 0))) (sAug 2 (intOp imulI) (vC (.int 2)))) (sSeq (sWhile 1000000 (vTest (vOp gtD (vOp subD (vVar 2) (vVar 1)) (vC (.int 1)))) (sSeq (sAsg 3 (vOp fdivD (vOp addD (vVar 1) (vVar 2)) (vC (.int 2)))) (sIf (vTest (vOp leD (vOp mulD (vVar 3) (vVar 3)) (vVar 0))) (sAsg 1 (vVar 3)) (sAsg 2 (vVar 3))))) (sRet (vIf (vTest (vOp eqD (vOp mulD (vVar 1) (vVar 1)) (vVar 0))) (vVar 1) (vC .non))))))
def D_root : List Dat → Res Dat := runD 4 F_root
abbrev s__law_draws : Stmt := top 23
abbrev N__law_draws : List Str := ["script", "many", "draws", "seed", "cell", "number", "k"]
def F__law_draws : DEnv → DFlow := sSeq (sAsgO 2 (fLst (aNil))) (sSeq (sAsg 3 (vC (.int 7))) (sSeq (sFor (gSeq (vSl (vVar 0) (oNone) (oSome (vC (.int 63))))) (aName 4) (sSeq (sAsg 5 (vCB absD (aCons (vVar 4) (aNil)))) (sSeq (sAsg 3 (vOp modD (vCB intD (aCons (vOp addD (vOp addD (vOp mulD (vVar 3) (vC (.int 48271))) (vVar 5)) (vC (.int 11))) (aNil))) (vC (.int 2147483647)))) (sIf (vTest (vOp geD (vVar 5) (vOp powD (vC (.int 10)) (vC (.int 18))))) (sFor (gA range1D (aCons (vC (.int 60)) (aNil))) (aName 6) (sIf (vTest (vOp gtD (vVar 5) (vC (.int 0)))) (sSeq (sApp 2 (vOp modD (vCB intD (aCons (vVar 5) (aNil))) (vC (.int 1009)))) (sAsg 5 (vOp fdivD (vVar 5) (vC (.int 1009))))) (sNop))) (sApp 2 (vOp modD (vOp fdivD (vCB intD (aCons (vOp addD (vOp mulD (vVar 3) (vC (.int 16807))) (vC (.int 5))) (aNil))) (vC (.int 3))) (vC (.int 65521)))))))) (sSeq (sFor (gA range1D (aCons (vVar 1) (aNil))) (aName 6) (sIf (vTest (vOp ltD (vCB lenD (aCons (vVar 2) (aNil))) (vVar 1))) (sSeq (sAsg 3 (vOp modD (vCB intD (aCons (vOp addD (vOp addD (vOp mulD (vVar 3) (vC (.int 69621))) (vVar 6)) (vC (.int 1))) (aNil))) (vC (.int 2147483647)))) (sApp 2 (vOp modD (vOp fdivD (vCB intD (aCons (vVar 3) (aNil))) (vC (.int 7))) (vC (.int 65521))))) (sNop))) (sRet (vSl (vVar 2) (oNone) (oSome (vVar 1)))))))
def D__law_draws : List Dat → Res Dat := runD 7 F__law_draws
abbrev s__law_lowest : Stmt := top 24
abbrev N__law_lowest : List Str := ["numbers", "sign", "by", "number", "one"]
def F__law_lowest : DEnv → DFlow := sSeq (sAsg 2 (vC (.int 0))) (sSeq (sFor (gSeq (vVar 0)) (aName 3) (sSeq (sAsg 4 (vCB absD (aCons (vVar 3) (aNil)))) (sWhile 1000000 (vTest (vOp gtD (vVar 4) (vC (.int 0)))) (sAsgT (aTup (asCons (aName 2) (asCons (aName 4) (asNil)))) (vTup (aCons (vVar 4) (aCons (vOp modD (vVar 2) (vVar 4)) (aNil)))))))) (sRet (vCB tupleD (aCons (vL (vLc (gSeq (vVar 0)) (aName 3) [3] (tYesD) (vOp mulD (vOp fdivXD (vVar 3) (vVar 2)) (vVar 1)))) (aNil)))))
def D__law_lowest : List Dat → Res Dat := runD 5 F__law_lowest
abbrev s__law_point : Stmt := top 25
abbrev N__law_point : List Str := ["x", "y", "w"]
def F__law_point : DEnv → DFlow := sRet (vCall 2 D__law_lowest (aCons (vTup (aCons (vVar 0) (aCons (vVar 1) (aCons (vVar 2) (aNil))))) (aCons (vIf (vTest (vOp gtD (vVar 2) (vC (.int 0)))) (vC (.int 1)) (v1 negD (vC (.int 1)))) (aNil))))
def D__law_point : List Dat → Res Dat := runD 3 F__law_point
abbrev s__law_line : Stmt := top 26
abbrev N__law_line : List Str := ["a", "b", "c"]
def F__law_line : DEnv → DFlow := sRet (vCall 2 D__law_lowest (aCons (vTup (aCons (vVar 0) (aCons (vVar 1) (aCons (vVar 2) (aNil))))) (aCons (vIf (vOrT (vTest (vOp gtD (vVar 0) (vC (.int 0)))) (vAndT (vTest (vOp eqD (vVar 0) (vC (.int 0)))) (vTest (vOp gtD (vVar 1) (vC (.int 0)))))) (vC (.int 1)) (v1 negD (vC (.int 1)))) (aNil))))
def D__law_line : List Dat → Res Dat := runD 3 F__law_line
abbrev s__law_side : Stmt := top 27
abbrev N__law_side : List Str := ["here", "there"]
def F__law_side : DEnv → DFlow := sRet (vOp subD (vOp addD (vOp mulD (vOp ixD (vVar 1) (vC (.int 0))) (vOp ixD (vVar 0) (vC (.int 0)))) (vOp mulD (vOp ixD (vVar 1) (vC (.int 1))) (vOp ixD (vVar 0) (vC (.int 1))))) (vOp mulD (vOp ixD (vVar 1) (vC (.int 2))) (vOp ixD (vVar 0) (vC (.int 2)))))
def D__law_side : List Dat → Res Dat := runD 2 F__law_side
abbrev s__law_some : Stmt := top 28
abbrev N__law_some : List Str := ["draws", "at", "kind", "wide", "x", "y", "w"]
def F__law_some : DEnv → DFlow := sSeq (sAsg 3 (vOp ixD (vL (fLst (aCons (vC (.int 3)) (aCons (vC (.int 6)) (aCons (vC (.int 40)) (aCons (vOp powD (vC (.int 10)) (vC (.int 6))) (aNil))))))) (vOp modD (vCB intD (aCons (vOp ixD (vVar 0) (vVar 1)) (aNil))) (vC (.int 4))))) (sSeq (sPar3 4 5 6 (vOp subD (vOp modD (vCB intD (aCons (vOp ixD (vVar 0) (vOp addD (vVar 1) (vC (.int 1)))) (aNil))) (vOp addD (vOp mulD (vC (.int 2)) (vVar 3)) (vC (.int 1)))) (vVar 3)) (vOp subD (vOp modD (vCB intD (aCons (vOp ixD (vVar 0) (vOp addD (vVar 1) (vC (.int 2)))) (aNil))) (vOp addD (vOp mulD (vC (.int 2)) (vVar 3)) (vC (.int 1)))) (vVar 3)) (vOp addD (vC (.int 1)) (vOp modD (vCB intD (aCons (vOp ixD (vVar 0) (vOp addD (vVar 1) (vC (.int 3)))) (aNil))) (vOp addD (vVar 3) (vC (.int 1)))))) (sSeq (sIf (vTest (vOp eqD (vVar 2) (vC (.str "point")))) (sRet (vCall 3 D__law_point (aCons (vVar 4) (aCons (vVar 5) (aCons (vVar 6) (aNil)))))) (sNop)) (sRet (vCall 3 D__law_line (aCons (vVar 4) (aCons (vOp addD (vVar 5) (vCB intD (aCons (vAnd (vOp eqD (vVar 4) (vC (.int 0))) (vOp eqD (vVar 5) (vC (.int 0)))) (aNil)))) (aCons (vOp subD (vOp subD (vVar 6) (vC (.int 1))) (vOp fdivD (vVar 3) (vC (.int 2)))) (aNil))))))))
def D__law_some : List Dat → Res Dat := runD 7 F__law_some
abbrev s__law_between : Stmt := top 29
abbrev N__law_between : List Str := ["one", "two"]
def F__law_between : DEnv → DFlow := sRet (vCall 3 D__law_point (aCons (vOp addD (vOp mulD (vOp ixD (vVar 0) (vC (.int 0))) (vOp ixD (vVar 1) (vC (.int 2)))) (vOp mulD (vOp ixD (vVar 1) (vC (.int 0))) (vOp ixD (vVar 0) (vC (.int 2))))) (aCons (vOp addD (vOp mulD (vOp ixD (vVar 0) (vC (.int 1))) (vOp ixD (vVar 1) (vC (.int 2)))) (vOp mulD (vOp ixD (vVar 1) (vC (.int 1))) (vOp ixD (vVar 0) (vC (.int 2))))) (aCons (vOp mulD (vOp mulD (vC (.int 2)) (vOp ixD (vVar 0) (vC (.int 2)))) (vOp ixD (vVar 1) (vC (.int 2)))) (aNil)))))
def D__law_between : List Dat → Res Dat := runD 2 F__law_between
abbrev s__law_is_mirrored : Stmt := top 30
abbrev N__law_is_mirrored : List Str := ["here", "there", "told", "across"]
def F__law_is_mirrored : DEnv → DFlow := sSeq (sIf (vOrT (vNotT (vTru (vCall 1 D_is_point (aCons (vVar 2) (aNil))))) (vTest (vOp neD (vCall 2 D__law_side (aCons (vCall 2 D__law_between (aCons (vVar 0) (aCons (vVar 2) (aNil)))) (aCons (vVar 1) (aNil)))) (vC (.int 0))))) (sRet (vC (.bl false))) (sNop)) (sSeq (sAsg 3 (vTup (aCons (vOp subD (vOp mulD (vOp ixD (vVar 2) (vC (.int 0))) (vOp ixD (vVar 0) (vC (.int 2)))) (vOp mulD (vOp ixD (vVar 0) (vC (.int 0))) (vOp ixD (vVar 2) (vC (.int 2))))) (aCons (vOp subD (vOp mulD (vOp ixD (vVar 2) (vC (.int 1))) (vOp ixD (vVar 0) (vC (.int 2)))) (vOp mulD (vOp ixD (vVar 0) (vC (.int 1))) (vOp ixD (vVar 2) (vC (.int 2))))) (aNil))))) (sRet (vOp eqD (vOp mulD (vOp ixD (vVar 3) (vC (.int 0))) (vOp ixD (vVar 1) (vC (.int 1)))) (vOp mulD (vOp ixD (vVar 3) (vC (.int 1))) (vOp ixD (vVar 1) (vC (.int 0)))))))
def D__law_is_mirrored : List Dat → Res Dat := runD 4 F__law_is_mirrored
abbrev s__law_are_right : Stmt := top 31
abbrev N__law_are_right : List Str := ["here", "one", "two", "found", "under", "told", "other", "k", "foot"]
def F__law_are_right : DEnv → DFlow := sSeq (sIf (vOrT (vNotT (vTru (vCB allD (aCons (vL (vLc (gSeq (vTup (aCons (vCall 2 D_lies_on (aCons (vVar 0) (aCons (vVar 1) (aNil)))) (aCons (vCall 1 D_in_sheet (aCons (vVar 0) (aNil))) (aNil))))) (aName 5) [5] (tYesD) (v1 (isiD "bool") (vVar 5)))) (aNil))))) (vTest (vOp neD (vCall 2 D_lies_on (aCons (vVar 0) (aCons (vVar 1) (aNil)))) (vOp eqD (vCall 2 D__law_side (aCons (vVar 0) (aCons (vVar 1) (aNil)))) (vC (.int 0)))))) (sRet (vC (.bl false))) (sNop)) (sSeq (sIf (vTest (vOp neD (vCall 1 D_in_sheet (aCons (vVar 0) (aNil))) (vAnd (vChain leD leD (vC (.int 0)) (vOp ixD (vVar 0) (vC (.int 0))) (vOp ixD (vVar 0) (vC (.int 2)))) (vChain leD leD (vC (.int 0)) (vOp ixD (vVar 0) (vC (.int 1))) (vOp ixD (vVar 0) (vC (.int 2))))))) (sRet (vC (.bl false))) (sNop)) (sSeq (sPar 3 4 (vCall 2 D_cross (aCons (vVar 1) (aCons (vVar 2) (aNil)))) (vOp subD (vOp mulD (vOp ixD (vVar 1) (vC (.int 0))) (vOp ixD (vVar 2) (vC (.int 1)))) (vOp mulD (vOp ixD (vVar 1) (vC (.int 1))) (vOp ixD (vVar 2) (vC (.int 0)))))) (sSeq (sIf (vOrT (vTest (vOp neD (vOp isND (vVar 3) (vC .non)) (vOp eqD (vVar 4) (vC (.int 0))))) (vAndT (vTest (vOp notND (vVar 3) (vC .non))) (vOrT (vNotT (vTru (vCall 1 D_is_point (aCons (vVar 3) (aNil))))) (vOrT (vTest (vOp neD (vCall 2 D__law_side (aCons (vVar 3) (aCons (vVar 1) (aNil)))) (vC (.int 0)))) (vTest (vOp neD (vCall 2 D__law_side (aCons (vVar 3) (aCons (vVar 2) (aNil)))) (vC (.int 0)))))))) (sRet (vC (.bl false))) (sNop)) (sSeq (sPar 5 6 (vCall 2 D_mirrored (aCons (vVar 0) (aCons (vVar 1) (aNil)))) (vCall 2 D_mirrored_line (aCons (vVar 2) (aCons (vVar 1) (aNil))))) (sSeq (sIf (vOrT (vNotT (vTru (vCall 3 D__law_is_mirrored (aCons (vVar 0) (aCons (vVar 1) (aCons (vVar 5) (aNil))))))) (vOrT (vTest (vOp neD (vCall 2 D_mirrored (aCons (vVar 5) (aCons (vVar 1) (aNil)))) (vVar 0))) (vOrT (vTest (vOp neD (vCall 2 D_mirrored_line (aCons (vVar 6) (aCons (vVar 1) (aNil)))) (vVar 2))) (vNotT (vTru (vCall 1 D_is_line (aCons (vVar 6) (aNil)))))))) (sRet (vC (.bl false))) (sNop)) (sSeq (sFor (gA range1D (aCons (vC (.int 2)) (aNil))) (aName 7) (sSeq (sAsg 8 (vCall 3 D__law_point (aCons (vOp subD (vOp mulD (vOp ixD (vVar 2) (vC (.int 0))) (vOp ixD (vVar 2) (vC (.int 2)))) (vOp mulD (vVar 7) (vOp ixD (vVar 2) (vC (.int 1))))) (aCons (vOp addD (vOp mulD (vOp ixD (vVar 2) (vC (.int 1))) (vOp ixD (vVar 2) (vC (.int 2)))) (vOp mulD (vVar 7) (vOp ixD (vVar 2) (vC (.int 0))))) (aCons (vOp addD (vOp mulD (vOp ixD (vVar 2) (vC (.int 0))) (vOp ixD (vVar 2) (vC (.int 0)))) (vOp mulD (vOp ixD (vVar 2) (vC (.int 1))) (vOp ixD (vVar 2) (vC (.int 1))))) (aNil)))))) (sIf (vOrT (vTest (vOp neD (vCall 2 D__law_side (aCons (vVar 8) (aCons (vVar 2) (aNil)))) (vC (.int 0)))) (vTest (vOp neD (vCall 2 D__law_side (aCons (vCall 2 D_mirrored (aCons (vVar 8) (aCons (vVar 1) (aNil)))) (aCons (vVar 6) (aNil)))) (vC (.int 0))))) (sRet (vC (.bl false))) (sNop)))) (sRet (vC (.bl true)))))))))
def D__law_are_right : List Dat → Res Dat := runD 9 F__law_are_right
abbrev s__law_error : Stmt := top 32
abbrev N__law_error : List Str := ["call", "one", "two"]
def F__law_error : DEnv → DFlow := sSeq (sTryM (sIf (vTest (vOp eqD (vVar 0) (vC (.int 0)))) (sDrop (vCall 3 D_point (aCons (vOp ixD (vVar 1) (vC (.int 0))) (aCons (vOp ixD (vVar 1) (vC (.int 1))) (aCons (vOp ixD (vVar 1) (vC (.int 2))) (aNil)))))) (sIf (vTest (vOp eqD (vVar 0) (vC (.int 1)))) (sDrop (vCall 3 D_line (aCons (vOp ixD (vVar 1) (vC (.int 0))) (aCons (vOp ixD (vVar 1) (vC (.int 1))) (aCons (vOp ixD (vVar 1) (vC (.int 2))) (aNil)))))) (sIf (vTest (vOp eqD (vVar 0) (vC (.int 2)))) (sDrop (vCall 2 D_lies_on (aCons (vVar 1) (aCons (vVar 2) (aNil))))) (sIf (vTest (vOp eqD (vVar 0) (vC (.int 3)))) (sDrop (vCall 2 D_cross (aCons (vVar 1) (aCons (vVar 2) (aNil))))) (sIf (vTest (vOp eqD (vVar 0) (vC (.int 4)))) (sDrop (vCall 2 D_mirrored (aCons (vVar 1) (aCons (vVar 2) (aNil))))) (sIf (vTest (vOp eqD (vVar 0) (vC (.int 5)))) (sDrop (vCall 2 D_mirrored_line (aCons (vVar 1) (aCons (vVar 2) (aNil))))) (sIf (vTest (vOp eqD (vVar 0) (vC (.int 6)))) (sDrop (vCall 1 D_in_sheet (aCons (vVar 1) (aNil)))) (sDrop (vCall 1 D_root (aCons (vVar 1) (aNil))))))))))) [(m_BadPoint, sRet (vC (.str "point"))), (m_BadLine, sRet (vC (.str "line")))]) (sRet (vC (.str "none")))
def D__law_error : List Dat → Res Dat := runD 3 F__law_error
abbrev s_law : Stmt := top 33
abbrev N_law : List Str := ["script", "draws", "here", "one", "two", "times", "number", "square", "bad", "value", "call"]
def F_law : DEnv → DFlow := sSeq (sAsg 1 (vCall 2 D__law_draws (aCons (vVar 0) (aCons (vC (.int 40)) (aNil))))) (sSeq (sAsgT (aTup (asCons (aName 2) (asCons (aName 3) (asCons (aName 4) (asNil))))) (vTup (aCons (vCall 3 D__law_some (aCons (vVar 1) (aCons (vC (.int 0)) (aCons (vC (.str "point")) (aNil))))) (aCons (vCall 3 D__law_some (aCons (vVar 1) (aCons (vC (.int 4)) (aCons (vC (.str "line")) (aNil))))) (aCons (vCall 3 D__law_some (aCons (vVar 1) (aCons (vC (.int 8)) (aCons (vC (.str "line")) (aNil))))) (aNil)))))) (sSeq (sIf (vTest (vOp eqD (vOp modD (vCB intD (aCons (vOp ixD (vVar 1) (vC (.int 12))) (aNil))) (vC (.int 4))) (vC (.int 0)))) (sAsg 4 (vCall 3 D__law_line (aCons (vOp mulD (vC (.int 3)) (vOp ixD (vVar 3) (vC (.int 0)))) (aCons (vOp mulD (vC (.int 3)) (vOp ixD (vVar 3) (vC (.int 1)))) (aCons (vOp subD (vOp modD (vCB intD (aCons (vOp ixD (vVar 1) (vC (.int 13))) (aNil))) (vC (.int 50))) (vC (.int 25))) (aNil)))))) (sNop)) (sSeq (sIf (vTest (vOp eqD (vOp modD (vCB intD (aCons (vOp ixD (vVar 1) (vC (.int 12))) (aNil))) (vC (.int 8))) (vC (.int 1)))) (sAsg 4 (vVar 3)) (sNop)) (sSeq (sAsg 5 (vOp addD (vC (.int 1)) (vOp modD (vCB intD (aCons (vOp ixD (vVar 1) (vC (.int 14))) (aNil))) (vC (.int 50))))) (sSeq (sIf (vOrT (vTest (vOp neD (vCall 3 D_point (aCons (vOp mulD (vOp ixD (vVar 2) (vC (.int 0))) (vVar 5)) (aCons (vOp mulD (vOp ixD (vVar 2) (vC (.int 1))) (vVar 5)) (aCons (vOp mulD (vOp ixD (vVar 2) (vC (.int 2))) (vVar 5)) (aNil))))) (vVar 2))) (vTest (vOp neD (vCall 3 D_point (aCons (vOp subD (vC (.int 0)) (vOp ixD (vVar 2) (vC (.int 0)))) (aCons (vOp subD (vC (.int 0)) (vOp ixD (vVar 2) (vC (.int 1)))) (aCons (vOp subD (vC (.int 0)) (vOp ixD (vVar 2) (vC (.int 2)))) (aNil))))) (vVar 2)))) (sRet (vC (.bl false))) (sNop)) (sSeq (sIf (vOrT (vTest (vOp neD (vCall 3 D_line (aCons (vOp mulD (vOp ixD (vVar 3) (vC (.int 0))) (vVar 5)) (aCons (vOp mulD (vOp ixD (vVar 3) (vC (.int 1))) (vVar 5)) (aCons (vOp mulD (vOp ixD (vVar 3) (vC (.int 2))) (vVar 5)) (aNil))))) (vVar 3))) (vTest (vOp neD (vCall 3 D_line (aCons (vOp subD (vC (.int 0)) (vOp ixD (vVar 3) (vC (.int 0)))) (aCons (vOp subD (vC (.int 0)) (vOp ixD (vVar 3) (vC (.int 1)))) (aCons (vOp subD (vC (.int 0)) (vOp ixD (vVar 3) (vC (.int 2)))) (aNil))))) (vVar 3)))) (sRet (vC (.bl false))) (sNop)) (sSeq (sIf (vOrT (vTest (vOp isnotBD (vCall 1 D_is_point (aCons (vVar 2) (aNil))) (vC (.bl true)))) (vOrT (vTest (vOp isnotBD (vCall 1 D_is_line (aCons (vVar 3) (aNil))) (vC (.bl true)))) (vNotT (vTru (vCall 3 D__law_are_right (aCons (vVar 2) (aCons (vVar 3) (aCons (vVar 4) (aNil))))))))) (sRet (vC (.bl false))) (sNop)) (sSeq (sAsg 6 (vOp addD (vOp mulD (vCB intD (aCons (vOp ixD (vVar 1) (vC (.int 15))) (aNil))) (vOp ixD (vL (fLst (aCons (vC (.int 1)) (aCons (vC (.int 65521)) (aCons (vOp mulD (vOp mulD (vC (.int 65521)) (vC (.int 65521))) (vC (.int 65521))) (aNil)))))) (vOp modD (vCB intD (aCons (vOp ixD (vVar 1) (vC (.int 16))) (aNil))) (vC (.int 3))))) (vOp modD (vCB intD (aCons (vOp ixD (vVar 1) (vC (.int 17))) (aNil))) (vC (.int 3))))) (sSeq (sAsg 7 (vOp mulD (vVar 6) (vVar 6))) (sSeq (sIf (vOrT (vTest (vOp neD (vCall 1 D_root (aCons (vVar 7) (aNil))) (vVar 6))) (vAndT (vTest (vOp gtD (vVar 6) (vC (.int 0)))) (vOrT (vTest (vOp notND (vCall 1 D_root (aCons (vOp addD (vVar 7) (vC (.int 1))) (aNil))) (vC .non))) (vAndT (vTest (vOp gtD (vVar 6) (vC (.int 1)))) (vTest (vOp notND (vCall 1 D_root (aCons (vOp subD (vVar 7) (vC (.int 1))) (aNil))) (vC .non))))))) (sRet (vC (.bl false))) (sNop)) (sSeq (sAsg 8 (vL (fLst (aCons (vC .non) (aCons (vC (.int 5)) (aCons (vTup (aCons (vC (.int 1)) (aCons (vC (.int 2)) (aNil)))) (aCons (vL (fLst (aCons (vC (.int 0)) (aCons (vC (.int 0)) (aCons (vC (.int 1)) (aNil)))))) (aCons (vTup (aCons (vC (.int 0)) (aCons (vC (.int 0)) (aCons (vC (.int 0)) (aNil))))) (aCons (vTup (aCons (vC (.int 2)) (aCons (vC (.int 2)) (aCons (vC (.int 2)) (aNil))))) (aCons (vTup (aCons (vC (.int 1)) (aCons (vC (.int 1)) (aCons (v1 negD (vC (.int 1))) (aNil))))) (aCons (vTup (aCons (vC (.bl true)) (aCons (vC (.int 0)) (aCons (vC (.int 1)) (aNil))))) (aCons (vTup (aCons (vC (.str "0")) (aCons (vC (.int 0)) (aCons (vC (.int 1)) (aNil))))) (aCons (vTup (aCons (vC (.int 0)) (aCons (vC (.int 0)) (aCons (vC (.int 1)) (aCons (vC (.int 1)) (aNil)))))) (aNil)))))))))))))) (sSeq (sIf (vOrT (vTru (vCB anyD (aCons (vL (vLc (gSeq (vVar 8)) (aName 9) [9] (tYesD) (vCall 1 D_is_point (aCons (vVar 9) (aNil))))) (aNil)))) (vOrT (vTru (vCB anyD (aCons (vL (vLc (gSeq (vVar 8)) (aName 9) [9] (vTest (vOp neD (vVar 9) (vTup (aCons (vC (.int 1)) (aCons (vC (.int 1)) (aCons (v1 negD (vC (.int 1))) (aNil))))))) (vCall 1 D_is_line (aCons (vVar 9) (aNil))))) (aNil)))) (vOrT (vTru (vCall 1 D_is_line (aCons (vTup (aCons (vC (.int 0)) (aCons (vC (.int 0)) (aCons (vC (.int 1)) (aNil))))) (aNil)))) (vOrT (vTru (vCall 1 D_is_line (aCons (vTup (aCons (v1 negD (vC (.int 1))) (aCons (vC (.int 0)) (aCons (vC (.int 1)) (aNil))))) (aNil)))) (vTru (vCall 1 D_is_line (aCons (vTup (aCons (vC (.int 0)) (aCons (v1 negD (vC (.int 1))) (aCons (vC (.int 1)) (aNil))))) (aNil)))))))) (sRet (vC (.bl false))) (sNop)) (sSeq (sIf (vTest (vOp neD (vL (vLc (gSeq (vL (fLst (aCons (vTup (aCons (vC (.int 1)) (aCons (vC (.int 1)) (aCons (vC (.int 0)) (aNil))))) (aCons (vTup (aCons (vC (.bl true)) (aCons (vC (.int 0)) (aCons (vC (.int 1)) (aNil))))) (aCons (vTup (aCons (vC .non) (aCons (vC (.int 1)) (aCons (vC (.int 1)) (aNil))))) (aCons (vTup (aCons (vC (.int 0)) (aCons (vC (.str "0")) (aCons (vC (.int 1)) (aNil))))) (aNil)))))))) (aName 9) [9] (tYesD) (vCall 3 D__law_error (aCons (vC (.int 0)) (aCons (vVar 9) (aCons (vC (.int 0)) (aNil))))))) (vOp mulD (vL (fLst (aCons (vC (.str "point")) (aNil)))) (vC (.int 4))))) (sRet (vC (.bl false))) (sNop)) (sSeq (sIf (vTest (vOp neD (vL (vLc (gSeq (vL (fLst (aCons (vTup (aCons (vC (.int 0)) (aCons (vC (.int 0)) (aCons (vC (.int 1)) (aNil))))) (aCons (vTup (aCons (vC (.bl true)) (aCons (vC (.int 0)) (aCons (vC (.int 1)) (aNil))))) (aCons (vTup (aCons (vC .non) (aCons (vC (.int 1)) (aCons (vC (.int 1)) (aNil))))) (aCons (vTup (aCons (vC (.int 0)) (aCons (vC (.int 1)) (aCons (vC (.str "0")) (aNil))))) (aNil)))))))) (aName 9) [9] (tYesD) (vCall 3 D__law_error (aCons (vC (.int 1)) (aCons (vVar 9) (aCons (vC (.int 0)) (aNil))))))) (vOp mulD (vL (fLst (aCons (vC (.str "line")) (aNil)))) (vC (.int 4))))) (sRet (vC (.bl false))) (sNop)) (sSeq (sFor (gSeq (vL (fLst (aCons (vC .non) (aCons (vTup (aCons (vC (.int 2)) (aCons (vC (.int 2)) (aCons (vC (.int 2)) (aNil))))) (aCons (vL (fLst (aCons (vC (.int 1)) (aCons (vC (.int 0)) (aCons (vC (.int 1)) (aNil)))))) (aCons (vTup (aCons (vC (.bl true)) (aCons (vC (.int 1)) (aCons (vC (.int 0)) (aNil))))) (aNil)))))))) (aName 9) (sSeq (sIf (vTest (vOp neD (vL (vLc (gSeq (vTup (aCons (vC (.int 2)) (aCons (vC (.int 3)) (aCons (vC (.int 4)) (aCons (vC (.int 5)) (aCons (vC (.int 6)) (aNil)))))))) (aName 10) [10] (tYesD) (vCall 3 D__law_error (aCons (vVar 10) (aCons (vVar 9) (aCons (vVar 9) (aNil))))))) (vL (fLst (aCons (vC (.str "point")) (aCons (vC (.str "line")) (aCons (vC (.str "point")) (aCons (vC (.str "line")) (aCons (vC (.str "point")) (aNil)))))))))) (sRet (vC (.bl false))) (sNop)) (sIf (vOrT (vTest (vOp neD (vL (vLc (gSeq (vTup (aCons (vC (.int 2)) (aCons (vC (.int 4)) (aNil))))) (aName 10) [10] (tYesD) (vCall 3 D__law_error (aCons (vVar 10) (aCons (vVar 2) (aCons (vVar 9) (aNil))))))) (vOp mulD (vL (fLst (aCons (vC (.str "line")) (aNil)))) (vC (.int 2))))) (vTest (vOp neD (vL (vLc (gSeq (vTup (aCons (vC (.int 3)) (aCons (vC (.int 5)) (aNil))))) (aName 10) [10] (tYesD) (vCall 3 D__law_error (aCons (vVar 10) (aCons (vVar 3) (aCons (vVar 9) (aNil))))))) (vOp mulD (vL (fLst (aCons (vC (.str "line")) (aNil)))) (vC (.int 2)))))) (sRet (vC (.bl false))) (sNop)))) (sRet (vAnd (vOp eqD (vL (vLc (gSeq (vTup (aCons (v1 negD (vC (.int 1))) (aCons (vC .non) (aCons (vC (.bl true)) (aCons (vC (.str "4")) (aNil))))))) (aName 9) [9] (tYesD) (vCall 3 D__law_error (aCons (vC (.int 7)) (aCons (vVar 9) (aCons (vC (.int 0)) (aNil))))))) (vOp mulD (vL (fLst (aCons (vC (.str "point")) (aNil)))) (vC (.int 4)))) (vAnd (vOp eqD (vCall 1 D_root (aCons (vC (.int 0)) (aNil))) (vC (.int 0))) (vOp eqD (vCall 1 D_root (aCons (vC (.int 1)) (aNil))) (vC (.int 1)))))))))))))))))))))
def D_law : List Dat → Res Dat := runD 11 F_law
end Lw
namespace Lw
open PySem PySem.Spec PyProof.Rows L2 Dl
structure Txt (K : PySem.W.Frag) (mg : Str → Option Value) (T : CT) (w : World) : Prop where
  b_abs : mg "abs" = none
  b_all : mg "all" = none
  b_any : mg "any" = none
  b_bool : mg "bool" = none
  b_int : mg "int" = none
  b_isinstance : mg "isinstance" = none
  b_len : mg "len" = none
  b_range : mg "range" = none
  b_tuple : mg "tuple" = none
  e_BadPoint : ExD K T mg 1 "BadPoint"
  e_BadLine : ExD K T mg 2 "BadLine"
  n_BadLine : mg "BadLine" = some (T.exc 2)
  x_BadLine : ∀ c, PySem.W.exmOne K (T.exc c) (T.exc 2) = some (m_BadLine c)
  n_BadPoint : mg "BadPoint" = some (T.exc 1)
  x_BadPoint : ∀ c, PySem.W.exmOne K (T.exc c) (T.exc 1) = some (m_BadPoint c)
section
variable {P : Program} {w : World} {K : PySem.W.Frag} {mg : Str → Option Value} {base : Heap} {T : CT}
theorem sc_is_integer : FnScope N_is_integer ["value"] (defScope s_is_integer) := ⟨rfl, rfl, rfl, by decide +kernel, rfl, by decide +kernel, by decide +kernel⟩
theorem ok_is_integer (tx : Txt K mg T w) {f : Addr} {fd : FuncData} (Fu : Fun K "is_integer" "is_integer" s_is_integer f fd) : FnOk P w K mg base (L2.CX P w) 1 f fd ["value"] (spD K T 1 D_is_integer) :=
  fn_D (ow' := []) Fu sc_is_integer rfl fun cdv A outer s H E hr => by
    have tk : Takes (cxOf (L2.CX P w) P w K mg base N_is_integer "is_integer" (defScope s_is_integer) f cdv A outer s H E) (fun cls d _ H => E cls d H) := takes_of rfl rfl rfl rfl
    have hpo := passes_of (X := cxOf (L2.CX P w) P w K mg base N_is_integer "is_integer" (defScope s_is_integer) f cdv A outer s H E) rfl
    exact dss_one (ds_ret (de_and (de_isi kit_int tx.b_isinstance tx.b_int (by decide +kernel) (de_var 0)) (de_one (de_not (de_isi kit_bool tx.b_isinstance tx.b_bool (by decide +kernel) (de_var 0))))))
theorem sc_divisor : FnScope N_divisor ["numbers"] (defScope s_divisor) := ⟨rfl, rfl, rfl, by decide +kernel, rfl, by decide +kernel, by decide +kernel⟩
theorem ok_divisor (tx : Txt K mg T w) {f : Addr} {fd : FuncData} (Fu : Fun K "divisor" "divisor" s_divisor f fd) : FnOk P w K mg base (L2.CX P w) 1 f fd ["numbers"] (spD K T 1 D_divisor) :=
  fn_D (ow' := []) Fu sc_divisor rfl fun cdv A outer s H E hr => by
    have tk : Takes (cxOf (L2.CX P w) P w K mg base N_divisor "divisor" (defScope s_divisor) f cdv A outer s H E) (fun cls d _ H => E cls d H) := takes_of rfl rfl rfl rfl
    have hpo := passes_of (X := cxOf (L2.CX P w) P w K mg base N_divisor "divisor" (defScope s_divisor) f cdv A outer s H E) rfl
    exact dss_cons (ds_asg (i := 1) (ow' := []) sc_divisor.nd (de_int) (by decide) (by decide)) (dss_cons (ds_for hpo rfl (di_seq (de_var 0)) (dg_name (i := 2) sc_divisor.nd) (by decide) aName_same (dss_cons (ds_asg (i := 3) (ow' := []) sc_divisor.nd (de_callB call_abs rc_abs tx.b_abs (by decide +kernel) (da_cons (de_var 2) (da_nil))) (by decide) (by decide)) (dss_one (ds_while 1000000 hpo (dt_cmp op_gt rd_cmp (de_var 3) (de_int) (nomark _)) (dss_one (ds_par (i := 1) (j := 3) (ow' := []) rfl sc_divisor.nd (de_var 3) (de_op op_modAll rd_mod (de_var 1) (de_var 3)) (by decide) (by decide) (by decide) rfl)))))) (dss_one (ds_ret (de_var 1))))
theorem sc__are_integers : FnScope N__are_integers ["value"] (defScope s__are_integers) := ⟨rfl, rfl, rfl, by decide +kernel, rfl, by decide +kernel, by decide +kernel⟩
theorem ok__are_integers (tx : Txt K mg T w) (c_is_integer : FnD P w K mg base T 1 "is_integer" 1 D_is_integer) {f : Addr} {fd : FuncData} (Fu : Fun K "_are_integers" "_are_integers" s__are_integers f fd) : FnOk P w K mg base (L2.CX P w) 2 f fd ["value"] (spD K T 1 D__are_integers) :=
  fn_D (ow' := []) Fu sc__are_integers rfl fun cdv A outer s H E hr => by
    have tk : Takes (cxOf (L2.CX P w) P w K mg base N__are_integers "_are_integers" (defScope s__are_integers) f cdv A outer s H E) (fun cls d _ H => E cls d H) := takes_of rfl rfl rfl rfl
    have hpo := passes_of (X := cxOf (L2.CX P w) P w K mg base N__are_integers "_are_integers" (defScope s__are_integers) f cdv A outer s H E) rfl
    exact dss_one (ds_ret (de_and (de_isi kit_tuple tx.b_isinstance tx.b_tuple (by decide +kernel) (de_var 0)) (de_and (de_cmp (op_eqD (hu64 hr)) rd_eq (de_callB call_len rc_len tx.b_len (by decide +kernel) (da_cons (de_var 0) (da_nil))) (de_int) (nomark _)) (de_one (de_callB (cr_all rfl) rc_all tx.b_all (by decide +kernel) (da_cons (de_f (df_lc (own := [("one", 1)]) rfl sc__are_integers.nd (di_seq (de_var 0)) (blkOk_by (own := [("one", 1)]) (N := N__are_integers) (sc := defScope s__are_integers) (by decide +kernel)) (by decide) (fun _ _ _ _ _ => dg_name (i := 1) sc__are_integers.nd) (fun _ _ _ _ _ => dts_nil) (fun _ _ _ _ _ => de_call c_is_integer hr (by decide) passNo (da_cons (de_var 1) (da_nil))))) (da_nil)))))))
theorem sc_is_point : FnScope N_is_point ["value"] (defScope s_is_point) := ⟨rfl, rfl, rfl, by decide +kernel, rfl, by decide +kernel, by decide +kernel⟩
theorem ok_is_point (tx : Txt K mg T w) (c__are_integers : FnD P w K mg base T 2 "_are_integers" 1 D__are_integers) (c_divisor : FnD P w K mg base T 1 "divisor" 1 D_divisor) {f : Addr} {fd : FuncData} (Fu : Fun K "is_point" "is_point" s_is_point f fd) : FnOk P w K mg base (L2.CX P w) 3 f fd ["value"] (spD K T 1 D_is_point) :=
  fn_D (ow' := []) Fu sc_is_point rfl fun cdv A outer s H E hr => by
    have tk : Takes (cxOf (L2.CX P w) P w K mg base N_is_point "is_point" (defScope s_is_point) f cdv A outer s H E) (fun cls d _ H => E cls d H) := takes_of rfl rfl rfl rfl
    have hpo := passes_of (X := cxOf (L2.CX P w) P w K mg base N_is_point "is_point" (defScope s_is_point) f cdv A outer s H E) rfl
    exact dss_one (ds_ret (de_and (de_call c__are_integers hr (by decide) (passAt tk) (da_cons (de_var 0) (da_nil))) (de_and (de_cmp op_gt rd_cmp (de_ix (de_var 0) (de_int)) (de_int) (nomark _)) (de_one (de_cmp (op_eqD (hu64 hr)) rd_eq (de_call c_divisor hr (by decide) (passAt tk) (da_cons (de_var 0) (da_nil))) (de_int) (nomark _))))))
theorem sc_is_line : FnScope N_is_line ["value"] (defScope s_is_line) := ⟨rfl, rfl, rfl, by decide +kernel, rfl, by decide +kernel, by decide +kernel⟩
theorem ok_is_line (tx : Txt K mg T w) (c__are_integers : FnD P w K mg base T 2 "_are_integers" 1 D__are_integers) (c_divisor : FnD P w K mg base T 1 "divisor" 1 D_divisor) {f : Addr} {fd : FuncData} (Fu : Fun K "is_line" "is_line" s_is_line f fd) : FnOk P w K mg base (L2.CX P w) 3 f fd ["value"] (spD K T 1 D_is_line) :=
  fn_D (ow' := []) Fu sc_is_line rfl fun cdv A outer s H E hr => by
    have tk : Takes (cxOf (L2.CX P w) P w K mg base N_is_line "is_line" (defScope s_is_line) f cdv A outer s H E) (fun cls d _ H => E cls d H) := takes_of rfl rfl rfl rfl
    have hpo := passes_of (X := cxOf (L2.CX P w) P w K mg base N_is_line "is_line" (defScope s_is_line) f cdv A outer s H E) rfl
    exact dss_cons (ds_if (DW.dt (dw_or (dt_not (dt_truth (de_call c__are_integers hr (by decide) (passAt tk) (da_cons (de_var 0) (da_nil))))) (dw_or1 (dt_cmp (op_neD (hu64 hr)) rd_ne (de_call c_divisor hr (by decide) (passAt tk) (da_cons (de_var 0) (da_nil))) (de_int) (nomark _))))) (dss_one (ds_ret (de_bl))) (dss_nil)) (dss_one (ds_ret (de_or (de_cmp op_gt rd_cmp (de_ix (de_var 0) (de_int)) (de_int) (nomark _)) (de_one (de_and (de_cmp (op_eqD (hu64 hr)) rd_eq (de_ix (de_var 0) (de_int)) (de_int) (nomark _)) (de_one (de_cmp op_gt rd_cmp (de_ix (de_var 0) (de_int)) (de_int) (nomark _))))))))
theorem sc_point : FnScope N_point ["x", "y", "w"] (defScope s_point) := ⟨rfl, rfl, rfl, by decide +kernel, rfl, by decide +kernel, by decide +kernel⟩
theorem ok_point (tx : Txt K mg T w) (c__are_integers : FnD P w K mg base T 2 "_are_integers" 1 D__are_integers) (c_divisor : FnD P w K mg base T 1 "divisor" 1 D_divisor) {f : Addr} {fd : FuncData} (Fu : Fun K "point" "point" s_point f fd) : FnOk P w K mg base (L2.CX P w) 3 f fd ["x", "y", "w"] (spD K T 3 D_point) :=
  fn_D (ow' := []) Fu sc_point rfl fun cdv A outer s H E hr => by
    have tk : Takes (cxOf (L2.CX P w) P w K mg base N_point "point" (defScope s_point) f cdv A outer s H E) (fun cls d _ H => E cls d H) := takes_of rfl rfl rfl rfl
    have hpo := passes_of (X := cxOf (L2.CX P w) P w K mg base N_point "point" (defScope s_point) f cdv A outer s H E) rfl
    exact dss_cons (ds_if (DW.dt (dw_or (dt_not (dt_truth (de_call c__are_integers hr (by decide) (passAt tk) (da_cons (de_tup (da_cons (de_var 0) (da_cons (de_var 1) (da_cons (de_var 2) (da_nil))))) (da_nil))))) (dw_or1 (dt_cmp (op_eqD (hu64 hr)) rd_eq (de_var 2) (de_int) (nomark _))))) (dss_one (ds_raise tx.e_BadPoint rfl tk)) (dss_nil)) (dss_cons (ds_asg (i := 3) (ow' := []) sc_point.nd (de_if (dt_cmp op_gt rd_cmp (de_var 2) (de_int) (nomark _)) (de_call c_divisor hr (by decide) (passAt tk) (da_cons (de_tup (da_cons (de_var 0) (da_cons (de_var 1) (da_cons (de_var 2) (da_nil))))) (da_nil))) (de_op op_sub rd_sub (de_int) (de_call c_divisor hr (by decide) (passAt tk) (da_cons (de_tup (da_cons (de_var 0) (da_cons (de_var 1) (da_cons (de_var 2) (da_nil))))) (da_nil))))) (by decide) (by decide)) (dss_one (ds_ret (de_tup (da_cons (de_op op_fdivX rd_fdivX (de_var 0) (de_var 3)) (da_cons (de_op op_fdivX rd_fdivX (de_var 1) (de_var 3)) (da_cons (de_op op_fdivX rd_fdivX (de_var 2) (de_var 3)) (da_nil))))))))
theorem sc_line : FnScope N_line ["a", "b", "c"] (defScope s_line) := ⟨rfl, rfl, rfl, by decide +kernel, rfl, by decide +kernel, by decide +kernel⟩
theorem ok_line (tx : Txt K mg T w) (c__are_integers : FnD P w K mg base T 2 "_are_integers" 1 D__are_integers) (c_divisor : FnD P w K mg base T 1 "divisor" 1 D_divisor) {f : Addr} {fd : FuncData} (Fu : Fun K "line" "line" s_line f fd) : FnOk P w K mg base (L2.CX P w) 3 f fd ["a", "b", "c"] (spD K T 3 D_line) :=
  fn_D (ow' := []) Fu sc_line rfl fun cdv A outer s H E hr => by
    have tk : Takes (cxOf (L2.CX P w) P w K mg base N_line "line" (defScope s_line) f cdv A outer s H E) (fun cls d _ H => E cls d H) := takes_of rfl rfl rfl rfl
    have hpo := passes_of (X := cxOf (L2.CX P w) P w K mg base N_line "line" (defScope s_line) f cdv A outer s H E) rfl
    exact dss_cons (ds_if (DW.dt (dw_or (dt_not (dt_truth (de_call c__are_integers hr (by decide) (passAt tk) (da_cons (de_tup (da_cons (de_var 0) (da_cons (de_var 1) (da_cons (de_var 2) (da_nil))))) (da_nil))))) (dw_or1 (DW.dt (dw_and (dt_cmp (op_eqD (hu64 hr)) rd_eq (de_var 0) (de_int) (nomark _)) (dw_and1 (dt_cmp (op_eqD (hu64 hr)) rd_eq (de_var 1) (de_int) (nomark _)))))))) (dss_one (ds_raise tx.e_BadLine rfl tk)) (dss_nil)) (dss_cons (ds_asg (i := 3) (ow' := []) sc_line.nd (de_if (DW.dt (dw_or (dt_cmp op_gt rd_cmp (de_var 0) (de_int) (nomark _)) (dw_or1 (DW.dt (dw_and (dt_cmp (op_eqD (hu64 hr)) rd_eq (de_var 0) (de_int) (nomark _)) (dw_and1 (dt_cmp op_gt rd_cmp (de_var 1) (de_int) (nomark _)))))))) (de_call c_divisor hr (by decide) (passAt tk) (da_cons (de_tup (da_cons (de_var 0) (da_cons (de_var 1) (da_cons (de_var 2) (da_nil))))) (da_nil))) (de_op op_sub rd_sub (de_int) (de_call c_divisor hr (by decide) (passAt tk) (da_cons (de_tup (da_cons (de_var 0) (da_cons (de_var 1) (da_cons (de_var 2) (da_nil))))) (da_nil))))) (by decide) (by decide)) (dss_one (ds_ret (de_tup (da_cons (de_op op_fdivX rd_fdivX (de_var 0) (de_var 3)) (da_cons (de_op op_fdivX rd_fdivX (de_var 1) (de_var 3)) (da_cons (de_op op_fdivX rd_fdivX (de_var 2) (de_var 3)) (da_nil))))))))
theorem sc_check_points : FnScope N_check_points ["values"] (defScope s_check_points) := ⟨rfl, rfl, rfl, by decide +kernel, rfl, by decide +kernel, by decide +kernel⟩
theorem ok_check_points (tx : Txt K mg T w) (c_is_point : FnD P w K mg base T 3 "is_point" 1 D_is_point) {f : Addr} {fd : FuncData} (Fu : Fun K "check_points" "check_points" s_check_points f fd) : FnOk P w K mg base (L2.CX P w) 4 f fd ["values"] (spD K T 1 D_check_points) :=
  fn_D (ow' := []) Fu sc_check_points rfl fun cdv A outer s H E hr => by
    have tk : Takes (cxOf (L2.CX P w) P w K mg base N_check_points "check_points" (defScope s_check_points) f cdv A outer s H E) (fun cls d _ H => E cls d H) := takes_of rfl rfl rfl rfl
    have hpo := passes_of (X := cxOf (L2.CX P w) P w K mg base N_check_points "check_points" (defScope s_check_points) f cdv A outer s H E) rfl
    exact dss_one (ds_if (dt_not (dt_truth (de_callB (cr_all rfl) rc_all tx.b_all (by decide +kernel) (da_cons (de_f (df_lc (own := [("value", 1)]) rfl sc_check_points.nd (di_seq (de_var 0)) (blkOk_by (own := [("value", 1)]) (N := N_check_points) (sc := defScope s_check_points) (by decide +kernel)) (by decide) (fun _ _ _ _ _ => dg_name (i := 1) sc_check_points.nd) (fun _ _ _ _ _ => dts_nil) (fun _ _ _ _ _ => de_call c_is_point hr (by decide) passNo (da_cons (de_var 1) (da_nil))))) (da_nil))))) (dss_one (ds_raise tx.e_BadPoint rfl tk)) (dss_nil))
theorem sc_check_lines : FnScope N_check_lines ["values"] (defScope s_check_lines) := ⟨rfl, rfl, rfl, by decide +kernel, rfl, by decide +kernel, by decide +kernel⟩
theorem ok_check_lines (tx : Txt K mg T w) (c_is_line : FnD P w K mg base T 3 "is_line" 1 D_is_line) {f : Addr} {fd : FuncData} (Fu : Fun K "check_lines" "check_lines" s_check_lines f fd) : FnOk P w K mg base (L2.CX P w) 4 f fd ["values"] (spD K T 1 D_check_lines) :=
  fn_D (ow' := []) Fu sc_check_lines rfl fun cdv A outer s H E hr => by
    have tk : Takes (cxOf (L2.CX P w) P w K mg base N_check_lines "check_lines" (defScope s_check_lines) f cdv A outer s H E) (fun cls d _ H => E cls d H) := takes_of rfl rfl rfl rfl
    have hpo := passes_of (X := cxOf (L2.CX P w) P w K mg base N_check_lines "check_lines" (defScope s_check_lines) f cdv A outer s H E) rfl
    exact dss_one (ds_if (dt_not (dt_truth (de_callB (cr_all rfl) rc_all tx.b_all (by decide +kernel) (da_cons (de_f (df_lc (own := [("value", 1)]) rfl sc_check_lines.nd (di_seq (de_var 0)) (blkOk_by (own := [("value", 1)]) (N := N_check_lines) (sc := defScope s_check_lines) (by decide +kernel)) (by decide) (fun _ _ _ _ _ => dg_name (i := 1) sc_check_lines.nd) (fun _ _ _ _ _ => dts_nil) (fun _ _ _ _ _ => de_call c_is_line hr (by decide) passNo (da_cons (de_var 1) (da_nil))))) (da_nil))))) (dss_one (ds_raise tx.e_BadLine rfl tk)) (dss_nil))
theorem sc_side_of : FnScope N_side_of ["here", "there"] (defScope s_side_of) := ⟨rfl, rfl, rfl, by decide +kernel, rfl, by decide +kernel, by decide +kernel⟩
theorem ok_side_of (tx : Txt K mg T w) {f : Addr} {fd : FuncData} (Fu : Fun K "side_of" "side_of" s_side_of f fd) : FnOk P w K mg base (L2.CX P w) 1 f fd ["here", "there"] (spD K T 2 D_side_of) :=
  fn_D (ow' := []) Fu sc_side_of rfl fun cdv A outer s H E hr => by
    have tk : Takes (cxOf (L2.CX P w) P w K mg base N_side_of "side_of" (defScope s_side_of) f cdv A outer s H E) (fun cls d _ H => E cls d H) := takes_of rfl rfl rfl rfl
    have hpo := passes_of (X := cxOf (L2.CX P w) P w K mg base N_side_of "side_of" (defScope s_side_of) f cdv A outer s H E) rfl
    exact dss_one (ds_ret (de_op op_sub rd_sub (de_op op_addAll rd_add (de_op op_mulAll rd_mul (de_ix (de_var 1) (de_int)) (de_ix (de_var 0) (de_int))) (de_op op_mulAll rd_mul (de_ix (de_var 1) (de_int)) (de_ix (de_var 0) (de_int)))) (de_op op_mulAll rd_mul (de_ix (de_var 1) (de_int)) (de_ix (de_var 0) (de_int)))))
theorem sc_lies_on : FnScope N_lies_on ["here", "there"] (defScope s_lies_on) := ⟨rfl, rfl, rfl, by decide +kernel, rfl, by decide +kernel, by decide +kernel⟩
theorem ok_lies_on (tx : Txt K mg T w) (c_check_lines : FnD P w K mg base T 4 "check_lines" 1 D_check_lines) (c_check_points : FnD P w K mg base T 4 "check_points" 1 D_check_points) (c_side_of : FnD P w K mg base T 1 "side_of" 2 D_side_of) {f : Addr} {fd : FuncData} (Fu : Fun K "lies_on" "lies_on" s_lies_on f fd) : FnOk P w K mg base (L2.CX P w) 5 f fd ["here", "there"] (spD K T 2 D_lies_on) :=
  fn_D (ow' := []) Fu sc_lies_on rfl fun cdv A outer s H E hr => by
    have tk : Takes (cxOf (L2.CX P w) P w K mg base N_lies_on "lies_on" (defScope s_lies_on) f cdv A outer s H E) (fun cls d _ H => E cls d H) := takes_of rfl rfl rfl rfl
    have hpo := passes_of (X := cxOf (L2.CX P w) P w K mg base N_lies_on "lies_on" (defScope s_lies_on) f cdv A outer s H E) rfl
    exact dss_cons (ds_drop (de_call c_check_points hr (by decide) (passAt tk) (da_cons (de_f (df_lst (da_cons (de_var 0) (da_nil)))) (da_nil)))) (dss_cons (ds_drop (de_call c_check_lines hr (by decide) (passAt tk) (da_cons (de_f (df_lst (da_cons (de_var 1) (da_nil)))) (da_nil)))) (dss_one (ds_ret (de_cmp (op_eqD (hu64 hr)) rd_eq (de_call c_side_of hr (by decide) (passAt tk) (da_cons (de_var 0) (da_cons (de_var 1) (da_nil)))) (de_int) (nomark _)))))
theorem sc_cross : FnScope N_cross ["first", "second"] (defScope s_cross) := ⟨rfl, rfl, rfl, by decide +kernel, rfl, by decide +kernel, by decide +kernel⟩
theorem ok_cross (tx : Txt K mg T w) (c_check_lines : FnD P w K mg base T 4 "check_lines" 1 D_check_lines) (c_point : FnD P w K mg base T 3 "point" 3 D_point) {f : Addr} {fd : FuncData} (Fu : Fun K "cross" "cross" s_cross f fd) : FnOk P w K mg base (L2.CX P w) 5 f fd ["first", "second"] (spD K T 2 D_cross) :=
  fn_D (ow' := []) Fu sc_cross rfl fun cdv A outer s H E hr => by
    have tk : Takes (cxOf (L2.CX P w) P w K mg base N_cross "cross" (defScope s_cross) f cdv A outer s H E) (fun cls d _ H => E cls d H) := takes_of rfl rfl rfl rfl
    have hpo := passes_of (X := cxOf (L2.CX P w) P w K mg base N_cross "cross" (defScope s_cross) f cdv A outer s H E) rfl
    exact dss_cons (ds_drop (de_call c_check_lines hr (by decide) (passAt tk) (da_cons (de_f (df_lst (da_cons (de_var 0) (da_cons (de_var 1) (da_nil))))) (da_nil)))) (dss_cons (ds_asg (i := 2) (ow' := []) sc_cross.nd (de_op op_sub rd_sub (de_op op_mulAll rd_mul (de_ix (de_var 0) (de_int)) (de_ix (de_var 1) (de_int))) (de_op op_mulAll rd_mul (de_ix (de_var 0) (de_int)) (de_ix (de_var 1) (de_int)))) (by decide) (by decide)) (dss_cons (ds_if (dt_cmp (op_eqD (hu64 hr)) rd_eq (de_var 2) (de_int) (nomark _)) (dss_one (ds_ret (de_non))) (dss_nil)) (dss_one (ds_ret (de_call c_point hr (by decide) (passAt tk) (da_cons (de_op op_sub rd_sub (de_op op_mulAll rd_mul (de_ix (de_var 0) (de_int)) (de_ix (de_var 1) (de_int))) (de_op op_mulAll rd_mul (de_ix (de_var 0) (de_int)) (de_ix (de_var 1) (de_int)))) (da_cons (de_op op_sub rd_sub (de_op op_mulAll rd_mul (de_ix (de_var 0) (de_int)) (de_ix (de_var 1) (de_int))) (de_op op_mulAll rd_mul (de_ix (de_var 0) (de_int)) (de_ix (de_var 1) (de_int)))) (da_cons (de_var 2) (da_nil)))))))))
theorem sc_mirrored : FnScope N_mirrored ["here", "there"] (defScope s_mirrored) := ⟨rfl, rfl, rfl, by decide +kernel, rfl, by decide +kernel, by decide +kernel⟩
theorem ok_mirrored (tx : Txt K mg T w) (c_check_lines : FnD P w K mg base T 4 "check_lines" 1 D_check_lines) (c_check_points : FnD P w K mg base T 4 "check_points" 1 D_check_points) (c_point : FnD P w K mg base T 3 "point" 3 D_point) (c_side_of : FnD P w K mg base T 1 "side_of" 2 D_side_of) {f : Addr} {fd : FuncData} (Fu : Fun K "mirrored" "mirrored" s_mirrored f fd) : FnOk P w K mg base (L2.CX P w) 5 f fd ["here", "there"] (spD K T 2 D_mirrored) :=
  fn_D (ow' := []) Fu sc_mirrored rfl fun cdv A outer s H E hr => by
    have tk : Takes (cxOf (L2.CX P w) P w K mg base N_mirrored "mirrored" (defScope s_mirrored) f cdv A outer s H E) (fun cls d _ H => E cls d H) := takes_of rfl rfl rfl rfl
    have hpo := passes_of (X := cxOf (L2.CX P w) P w K mg base N_mirrored "mirrored" (defScope s_mirrored) f cdv A outer s H E) rfl
    exact dss_cons (ds_drop (de_call c_check_points hr (by decide) (passAt tk) (da_cons (de_f (df_lst (da_cons (de_var 0) (da_nil)))) (da_nil)))) (dss_cons (ds_drop (de_call c_check_lines hr (by decide) (passAt tk) (da_cons (de_f (df_lst (da_cons (de_var 1) (da_nil)))) (da_nil)))) (dss_cons (ds_asg (i := 2) (ow' := []) sc_mirrored.nd (de_op op_addAll rd_add (de_op op_mulAll rd_mul (de_ix (de_var 1) (de_int)) (de_ix (de_var 1) (de_int))) (de_op op_mulAll rd_mul (de_ix (de_var 1) (de_int)) (de_ix (de_var 1) (de_int)))) (by decide) (by decide)) (dss_cons (ds_asg (i := 3) (ow' := []) sc_mirrored.nd (de_call c_side_of hr (by decide) (passAt tk) (da_cons (de_var 0) (da_cons (de_var 1) (da_nil)))) (by decide) (by decide)) (dss_one (ds_ret (de_call c_point hr (by decide) (passAt tk) (da_cons (de_op op_sub rd_sub (de_op op_mulAll rd_mul (de_ix (de_var 0) (de_int)) (de_var 2)) (de_op op_mulAll rd_mul (de_op op_mulAll rd_mul (de_int) (de_ix (de_var 1) (de_int))) (de_var 3))) (da_cons (de_op op_sub rd_sub (de_op op_mulAll rd_mul (de_ix (de_var 0) (de_int)) (de_var 2)) (de_op op_mulAll rd_mul (de_op op_mulAll rd_mul (de_int) (de_ix (de_var 1) (de_int))) (de_var 3))) (da_cons (de_op op_mulAll rd_mul (de_ix (de_var 0) (de_int)) (de_var 2)) (da_nil))))))))))
theorem sc_joined : FnScope N_joined ["first", "second"] (defScope s_joined) := ⟨rfl, rfl, rfl, by decide +kernel, rfl, by decide +kernel, by decide +kernel⟩
theorem ok_joined (tx : Txt K mg T w) (c_line : FnD P w K mg base T 3 "line" 3 D_line) {f : Addr} {fd : FuncData} (Fu : Fun K "joined" "joined" s_joined f fd) : FnOk P w K mg base (L2.CX P w) 4 f fd ["first", "second"] (spD K T 2 D_joined) :=
  fn_D (ow' := []) Fu sc_joined rfl fun cdv A outer s H E hr => by
    have tk : Takes (cxOf (L2.CX P w) P w K mg base N_joined "joined" (defScope s_joined) f cdv A outer s H E) (fun cls d _ H => E cls d H) := takes_of rfl rfl rfl rfl
    have hpo := passes_of (X := cxOf (L2.CX P w) P w K mg base N_joined "joined" (defScope s_joined) f cdv A outer s H E) rfl
    exact dss_cons (ds_asg (i := 2) (ow' := []) sc_joined.nd (de_op op_sub rd_sub (de_op op_mulAll rd_mul (de_ix (de_var 0) (de_int)) (de_ix (de_var 1) (de_int))) (de_op op_mulAll rd_mul (de_ix (de_var 1) (de_int)) (de_ix (de_var 0) (de_int)))) (by decide) (by decide)) (dss_cons (ds_asg (i := 3) (ow' := []) sc_joined.nd (de_op op_sub rd_sub (de_op op_mulAll rd_mul (de_ix (de_var 1) (de_int)) (de_ix (de_var 0) (de_int))) (de_op op_mulAll rd_mul (de_ix (de_var 0) (de_int)) (de_ix (de_var 1) (de_int)))) (by decide) (by decide)) (dss_one (ds_ret (de_call c_line hr (by decide) (passAt tk) (da_cons (de_var 2) (da_cons (de_var 3) (da_cons (de_op op_sub rd_sub (de_op op_mulAll rd_mul (de_ix (de_var 1) (de_int)) (de_ix (de_var 0) (de_int))) (de_op op_mulAll rd_mul (de_ix (de_var 0) (de_int)) (de_ix (de_var 1) (de_int)))) (da_nil))))))))
theorem sc_mirrored_line : FnScope N_mirrored_line ["first", "there"] (defScope s_mirrored_line) := ⟨rfl, rfl, rfl, by decide +kernel, rfl, by decide +kernel, by decide +kernel⟩
theorem ok_mirrored_line (tx : Txt K mg T w) (c_check_lines : FnD P w K mg base T 4 "check_lines" 1 D_check_lines) (c_joined : FnD P w K mg base T 4 "joined" 2 D_joined) (c_mirrored : FnD P w K mg base T 5 "mirrored" 2 D_mirrored) (c_point : FnD P w K mg base T 3 "point" 3 D_point) {f : Addr} {fd : FuncData} (Fu : Fun K "mirrored_line" "mirrored_line" s_mirrored_line f fd) : FnOk P w K mg base (L2.CX P w) 6 f fd ["first", "there"] (spD K T 2 D_mirrored_line) :=
  fn_D (ow' := []) Fu sc_mirrored_line rfl fun cdv A outer s H E hr => by
    have tk : Takes (cxOf (L2.CX P w) P w K mg base N_mirrored_line "mirrored_line" (defScope s_mirrored_line) f cdv A outer s H E) (fun cls d _ H => E cls d H) := takes_of rfl rfl rfl rfl
    have hpo := passes_of (X := cxOf (L2.CX P w) P w K mg base N_mirrored_line "mirrored_line" (defScope s_mirrored_line) f cdv A outer s H E) rfl
    exact dss_cons (ds_drop (de_call c_check_lines hr (by decide) (passAt tk) (da_cons (de_f (df_lst (da_cons (de_var 0) (da_cons (de_var 1) (da_nil))))) (da_nil)))) (dss_cons (ds_asg (i := 2) (ow' := []) sc_mirrored_line.nd (de_op op_addAll rd_add (de_op op_mulAll rd_mul (de_ix (de_var 0) (de_int)) (de_ix (de_var 0) (de_int))) (de_op op_mulAll rd_mul (de_ix (de_var 0) (de_int)) (de_ix (de_var 0) (de_int)))) (by decide) (by decide)) (dss_cons (ds_asg (i := 3) (ow' := []) sc_mirrored_line.nd (de_call c_point hr (by decide) (passAt tk) (da_cons (de_op op_mulAll rd_mul (de_ix (de_var 0) (de_int)) (de_ix (de_var 0) (de_int))) (da_cons (de_op op_mulAll rd_mul (de_ix (de_var 0) (de_int)) (de_ix (de_var 0) (de_int))) (da_cons (de_var 2) (da_nil))))) (by decide) (by decide)) (dss_cons (ds_asg (i := 4) (ow' := []) sc_mirrored_line.nd (de_call c_point hr (by decide) (passAt tk) (da_cons (de_op op_sub rd_sub (de_ix (de_var 3) (de_int)) (de_op op_mulAll rd_mul (de_ix (de_var 0) (de_int)) (de_ix (de_var 3) (de_int)))) (da_cons (de_op op_addAll rd_add (de_ix (de_var 3) (de_int)) (de_op op_mulAll rd_mul (de_ix (de_var 0) (de_int)) (de_ix (de_var 3) (de_int)))) (da_cons (de_ix (de_var 3) (de_int)) (da_nil))))) (by decide) (by decide)) (dss_one (ds_ret (de_call c_joined hr (by decide) (passAt tk) (da_cons (de_call c_mirrored hr (by decide) (passAt tk) (da_cons (de_var 3) (da_cons (de_var 1) (da_nil)))) (da_cons (de_call c_mirrored hr (by decide) (passAt tk) (da_cons (de_var 4) (da_cons (de_var 1) (da_nil)))) (da_nil)))))))))
theorem sc_in_sheet : FnScope N_in_sheet ["here"] (defScope s_in_sheet) := ⟨rfl, rfl, rfl, by decide +kernel, rfl, by decide +kernel, by decide +kernel⟩
theorem ok_in_sheet (tx : Txt K mg T w) (c_check_points : FnD P w K mg base T 4 "check_points" 1 D_check_points) {f : Addr} {fd : FuncData} (Fu : Fun K "in_sheet" "in_sheet" s_in_sheet f fd) : FnOk P w K mg base (L2.CX P w) 5 f fd ["here"] (spD K T 1 D_in_sheet) :=
  fn_D (ow' := []) Fu sc_in_sheet rfl fun cdv A outer s H E hr => by
    have tk : Takes (cxOf (L2.CX P w) P w K mg base N_in_sheet "in_sheet" (defScope s_in_sheet) f cdv A outer s H E) (fun cls d _ H => E cls d H) := takes_of rfl rfl rfl rfl
    have hpo := passes_of (X := cxOf (L2.CX P w) P w K mg base N_in_sheet "in_sheet" (defScope s_in_sheet) f cdv A outer s H E) rfl
    exact dss_cons (ds_drop (de_call c_check_points hr (by decide) (passAt tk) (da_cons (de_f (df_lst (da_cons (de_var 0) (da_nil)))) (da_nil)))) (dss_one (ds_ret (de_and (de_chain op_le rd_cmp op_le rd_cmp (de_int) (de_ix (de_var 0) (de_int)) (de_ix (de_var 0) (de_int))) (de_one (de_chain op_le rd_cmp op_le rd_cmp (de_int) (de_ix (de_var 0) (de_int)) (de_ix (de_var 0) (de_int)))))))
theorem sc_root : FnScope N_root ["number"] (defScope s_root) := ⟨rfl, rfl, rfl, by decide +kernel, rfl, by decide +kernel, by decide +kernel⟩
theorem ok_root (tx : Txt K mg T w) (c_is_integer : FnD P w K mg base T 1 "is_integer" 1 D_is_integer) {f : Addr} {fd : FuncData} (Fu : Fun K "root" "root" s_root f fd) : FnOk P w K mg base (L2.CX P w) 2 f fd ["number"] (spD K T 1 D_root) :=
  fn_D (ow' := []) Fu sc_root rfl fun cdv A outer s H E hr => by
    have tk : Takes (cxOf (L2.CX P w) P w K mg base N_root "root" (defScope s_root) f cdv A outer s H E) (fun cls d _ H => E cls d H) := takes_of rfl rfl rfl rfl
    have hpo := passes_of (X := cxOf (L2.CX P w) P w K mg base N_root "root" (defScope s_root) f cdv A outer s H E) rfl
    exact dss_cons (ds_if (DW.dt (dw_or (dt_not (dt_truth (de_call c_is_integer hr (by decide) (passAt tk) (da_cons (de_var 0) (da_nil))))) (dw_or1 (dt_cmp op_lt rd_cmp (de_var 0) (de_int) (nomark _))))) (dss_one (ds_raise tx.e_BadPoint rfl tk)) (dss_nil)) (dss_cons (ds_asgT (ow' := []) (de_tup (da_cons (de_int) (da_cons (de_int) (da_nil)))) (dg_tup rfl (dgs_cons (dg_name (i := 1) sc_root.nd) (dgs_cons (dg_name (i := 2) sc_root.nd) (dgs_nil))) (asCons_len (asCons_len (fun _ _ _ h => asNil_len h)))) (by decide) (by decide) (aTup_same (asCons_same (aName_same) (asCons_same (aName_same) (asNil_same))))) (dss_cons (ds_while 1000000 hpo (dt_cmp op_le rd_cmp (de_op op_mulAll rd_mul (de_var 2) (de_var 2)) (de_var 0) (nomark _)) (dss_one (ds_aug (i := 2) sc_root.nd iop_mul rd_imul (de_int)))) (dss_cons (ds_while 1000000 hpo (dt_cmp op_gt rd_cmp (de_op op_sub rd_sub (de_var 2) (de_var 1)) (de_int) (nomark _)) (dss_cons (ds_asg (i := 3) (ow' := []) sc_root.nd (de_op op_fdivAll rd_fdiv (de_op op_addAll rd_add (de_var 1) (de_var 2)) (de_int)) (by decide) (by decide)) (dss_one (ds_if (dt_cmp op_le rd_cmp (de_op op_mulAll rd_mul (de_var 3) (de_var 3)) (de_var 0) (nomark _)) (dss_one (ds_asg (i := 1) (ow' := []) sc_root.nd (de_var 3) (by decide) (by decide))) (dss_one (ds_asg (i := 2) (ow' := []) sc_root.nd (de_var 3) (by decide) (by decide))))))) (dss_one (ds_ret (de_if (dt_cmp (op_eqD (hu64 hr)) rd_eq (de_op op_mulAll rd_mul (de_var 1) (de_var 1)) (de_var 0) (nomark _)) (de_var 1) (de_non)))))))
theorem sc__law_draws : FnScope N__law_draws ["script", "many"] (defScope s__law_draws) := ⟨rfl, rfl, rfl, by decide +kernel, rfl, by decide +kernel, by decide +kernel⟩
theorem ok__law_draws (tx : Txt K mg T w) {f : Addr} {fd : FuncData} (Fu : Fun K "_law_draws" "_law_draws" s__law_draws f fd) : FnOk P w K mg base (L2.CX P w) 1 f fd ["script", "many"] (spD K T 2 D__law_draws) :=
  fn_D (ow' := []) Fu sc__law_draws rfl fun cdv A outer s H E hr => by
    have tk : Takes (cxOf (L2.CX P w) P w K mg base N__law_draws "_law_draws" (defScope s__law_draws) f cdv A outer s H E) (fun cls d _ H => E cls d H) := takes_of rfl rfl rfl rfl
    have hpo := passes_of (X := cxOf (L2.CX P w) P w K mg base N__law_draws "_law_draws" (defScope s__law_draws) f cdv A outer s H E) rfl
    exact dss_cons (ds_asgO (i := 2) (ow' := []) sc__law_draws.nd (df_lst (da_nil)) (by decide) (by decide)) (dss_cons (ds_asg (i := 3) (ow' := [2]) sc__law_draws.nd (de_int) (by decide) (by decide)) (dss_cons (ds_for hpo rfl (di_seq (de_slice (de_var 0) (do_none) (do_some (de_int)))) (dg_name (i := 4) sc__law_draws.nd) (by decide) aName_same (dss_cons (ds_asg (i := 5) (ow' := [2]) sc__law_draws.nd (de_callB call_abs rc_abs tx.b_abs (by decide +kernel) (da_cons (de_var 4) (da_nil))) (by decide) (by decide)) (dss_cons (ds_asg (i := 3) (ow' := [2]) sc__law_draws.nd (de_op op_modAll rd_mod (de_callTy call_int1 rc_int tx.b_int (by decide +kernel) (da_cons (de_op op_addAll rd_add (de_op op_addAll rd_add (de_op op_mulAll rd_mul (de_var 3) (de_int)) (de_var 5)) (de_int)) (da_nil))) (de_int)) (by decide) (by decide)) (dss_one (ds_if (dt_cmp op_ge rd_cmp (de_var 5) (de_op op_pow rd_pow (de_int) (de_int)) (nomark _)) (dss_one (ds_for hpo rfl (di_range1 tx.b_range (da_cons (de_int) (da_nil))) (dg_name (i := 6) sc__law_draws.nd) (by decide) aName_same (dss_one (ds_if (dt_cmp op_gt rd_cmp (de_var 5) (de_int) (nomark _)) (dss_cons (ds_app (i := 2) (de_op op_modAll rd_mod (de_callTy call_int1 rc_int tx.b_int (by decide +kernel) (da_cons (de_var 5) (da_nil))) (de_int))) (dss_one (ds_asg (i := 5) (ow' := [2]) sc__law_draws.nd (de_op op_fdivAll rd_fdiv (de_var 5) (de_int)) (by decide) (by decide)))) (dss_nil))))) (dss_one (ds_app (i := 2) (de_op op_modAll rd_mod (de_op op_fdivAll rd_fdiv (de_callTy call_int1 rc_int tx.b_int (by decide +kernel) (da_cons (de_op op_addAll rd_add (de_op op_mulAll rd_mul (de_var 3) (de_int)) (de_int)) (da_nil))) (de_int)) (de_int))))))))) (dss_cons (ds_for hpo rfl (di_range1 tx.b_range (da_cons (de_var 1) (da_nil))) (dg_name (i := 6) sc__law_draws.nd) (by decide) aName_same (dss_one (ds_if (dt_un (ow' := []) (dt_cmp op_lt rd_cmp (de_callB call_len rc_len tx.b_len (by decide +kernel) (da_cons (de_var 2) (da_nil))) (de_var 1) (nomark _))) (dss_cons (ds_asg (i := 3) (ow' := [2]) sc__law_draws.nd (de_op op_modAll rd_mod (de_callTy call_int1 rc_int tx.b_int (by decide +kernel) (da_cons (de_op op_addAll rd_add (de_op op_addAll rd_add (de_op op_mulAll rd_mul (de_var 3) (de_int)) (de_var 6)) (de_int)) (da_nil))) (de_int)) (by decide) (by decide)) (dss_one (ds_app (i := 2) (de_op op_modAll rd_mod (de_op op_fdivAll rd_fdiv (de_callTy call_int1 rc_int tx.b_int (by decide +kernel) (da_cons (de_var 3) (da_nil))) (de_int)) (de_int))))) (dss_nil)))) (dss_in (ow' := []) (dss_one (ds_ret (de_slice (de_var 2) (do_none) (do_some (de_var 1))))) (by decide)))))
theorem sc__law_lowest : FnScope N__law_lowest ["numbers", "sign"] (defScope s__law_lowest) := ⟨rfl, rfl, rfl, by decide +kernel, rfl, by decide +kernel, by decide +kernel⟩
theorem ok__law_lowest (tx : Txt K mg T w) {f : Addr} {fd : FuncData} (Fu : Fun K "_law_lowest" "_law_lowest" s__law_lowest f fd) : FnOk P w K mg base (L2.CX P w) 1 f fd ["numbers", "sign"] (spD K T 2 D__law_lowest) :=
  fn_D (ow' := []) Fu sc__law_lowest rfl fun cdv A outer s H E hr => by
    have tk : Takes (cxOf (L2.CX P w) P w K mg base N__law_lowest "_law_lowest" (defScope s__law_lowest) f cdv A outer s H E) (fun cls d _ H => E cls d H) := takes_of rfl rfl rfl rfl
    have hpo := passes_of (X := cxOf (L2.CX P w) P w K mg base N__law_lowest "_law_lowest" (defScope s__law_lowest) f cdv A outer s H E) rfl
    exact dss_cons (ds_asg (i := 2) (ow' := []) sc__law_lowest.nd (de_int) (by decide) (by decide)) (dss_cons (ds_for hpo rfl (di_seq (de_var 0)) (dg_name (i := 3) sc__law_lowest.nd) (by decide) aName_same (dss_cons (ds_asg (i := 4) (ow' := []) sc__law_lowest.nd (de_callB call_abs rc_abs tx.b_abs (by decide +kernel) (da_cons (de_var 3) (da_nil))) (by decide) (by decide)) (dss_one (ds_while 1000000 hpo (dt_cmp op_gt rd_cmp (de_var 4) (de_int) (nomark _)) (dss_one (ds_asgT (ow' := []) (de_tup (da_cons (de_var 4) (da_cons (de_op op_modAll rd_mod (de_var 2) (de_var 4)) (da_nil)))) (dg_tup rfl (dgs_cons (dg_name (i := 2) sc__law_lowest.nd) (dgs_cons (dg_name (i := 4) sc__law_lowest.nd) (dgs_nil))) (asCons_len (asCons_len (fun _ _ _ h => asNil_len h)))) (by decide) (by decide) (aTup_same (asCons_same (aName_same) (asCons_same (aName_same) (asNil_same)))))))))) (dss_one (ds_ret (de_callTy call_tuple_of rc_tuple tx.b_tuple (by decide +kernel) (da_cons (de_f (df_lc (own := [("number", 3)]) rfl sc__law_lowest.nd (di_seq (de_var 0)) (blkOk_by (own := [("number", 3)]) (N := N__law_lowest) (sc := defScope s__law_lowest) (by decide +kernel)) (by decide) (fun _ _ _ _ _ => dg_name (i := 3) sc__law_lowest.nd) (fun _ _ _ _ _ => dts_nil) (fun _ _ _ _ _ => de_op op_mulAll rd_mul (de_op op_fdivX rd_fdivX (de_var 3) (de_var 2)) (de_var 1)))) (da_nil))))))
theorem sc__law_point : FnScope N__law_point ["x", "y", "w"] (defScope s__law_point) := ⟨rfl, rfl, rfl, by decide +kernel, rfl, by decide +kernel, by decide +kernel⟩
theorem ok__law_point (tx : Txt K mg T w) (c__law_lowest : FnD P w K mg base T 1 "_law_lowest" 2 D__law_lowest) {f : Addr} {fd : FuncData} (Fu : Fun K "_law_point" "_law_point" s__law_point f fd) : FnOk P w K mg base (L2.CX P w) 2 f fd ["x", "y", "w"] (spD K T 3 D__law_point) :=
  fn_D (ow' := []) Fu sc__law_point rfl fun cdv A outer s H E hr => by
    have tk : Takes (cxOf (L2.CX P w) P w K mg base N__law_point "_law_point" (defScope s__law_point) f cdv A outer s H E) (fun cls d _ H => E cls d H) := takes_of rfl rfl rfl rfl
    have hpo := passes_of (X := cxOf (L2.CX P w) P w K mg base N__law_point "_law_point" (defScope s__law_point) f cdv A outer s H E) rfl
    exact dss_one (ds_ret (de_call c__law_lowest hr (by decide) (passAt tk) (da_cons (de_tup (da_cons (de_var 0) (da_cons (de_var 1) (da_cons (de_var 2) (da_nil))))) (da_cons (de_if (dt_cmp op_gt rd_cmp (de_var 2) (de_int) (nomark _)) (de_int) (de_neg (de_int))) (da_nil)))))
theorem sc__law_line : FnScope N__law_line ["a", "b", "c"] (defScope s__law_line) := ⟨rfl, rfl, rfl, by decide +kernel, rfl, by decide +kernel, by decide +kernel⟩
theorem ok__law_line (tx : Txt K mg T w) (c__law_lowest : FnD P w K mg base T 1 "_law_lowest" 2 D__law_lowest) {f : Addr} {fd : FuncData} (Fu : Fun K "_law_line" "_law_line" s__law_line f fd) : FnOk P w K mg base (L2.CX P w) 2 f fd ["a", "b", "c"] (spD K T 3 D__law_line) :=
  fn_D (ow' := []) Fu sc__law_line rfl fun cdv A outer s H E hr => by
    have tk : Takes (cxOf (L2.CX P w) P w K mg base N__law_line "_law_line" (defScope s__law_line) f cdv A outer s H E) (fun cls d _ H => E cls d H) := takes_of rfl rfl rfl rfl
    have hpo := passes_of (X := cxOf (L2.CX P w) P w K mg base N__law_line "_law_line" (defScope s__law_line) f cdv A outer s H E) rfl
    exact dss_one (ds_ret (de_call c__law_lowest hr (by decide) (passAt tk) (da_cons (de_tup (da_cons (de_var 0) (da_cons (de_var 1) (da_cons (de_var 2) (da_nil))))) (da_cons (de_if (DW.dt (dw_or (dt_cmp op_gt rd_cmp (de_var 0) (de_int) (nomark _)) (dw_or1 (DW.dt (dw_and (dt_cmp (op_eqD (hu64 hr)) rd_eq (de_var 0) (de_int) (nomark _)) (dw_and1 (dt_cmp op_gt rd_cmp (de_var 1) (de_int) (nomark _)))))))) (de_int) (de_neg (de_int))) (da_nil)))))
theorem sc__law_side : FnScope N__law_side ["here", "there"] (defScope s__law_side) := ⟨rfl, rfl, rfl, by decide +kernel, rfl, by decide +kernel, by decide +kernel⟩
theorem ok__law_side (tx : Txt K mg T w) {f : Addr} {fd : FuncData} (Fu : Fun K "_law_side" "_law_side" s__law_side f fd) : FnOk P w K mg base (L2.CX P w) 1 f fd ["here", "there"] (spD K T 2 D__law_side) :=
  fn_D (ow' := []) Fu sc__law_side rfl fun cdv A outer s H E hr => by
    have tk : Takes (cxOf (L2.CX P w) P w K mg base N__law_side "_law_side" (defScope s__law_side) f cdv A outer s H E) (fun cls d _ H => E cls d H) := takes_of rfl rfl rfl rfl
    have hpo := passes_of (X := cxOf (L2.CX P w) P w K mg base N__law_side "_law_side" (defScope s__law_side) f cdv A outer s H E) rfl
    exact dss_one (ds_ret (de_op op_sub rd_sub (de_op op_addAll rd_add (de_op op_mulAll rd_mul (de_ix (de_var 1) (de_int)) (de_ix (de_var 0) (de_int))) (de_op op_mulAll rd_mul (de_ix (de_var 1) (de_int)) (de_ix (de_var 0) (de_int)))) (de_op op_mulAll rd_mul (de_ix (de_var 1) (de_int)) (de_ix (de_var 0) (de_int)))))
theorem sc__law_some : FnScope N__law_some ["draws", "at", "kind"] (defScope s__law_some) := ⟨rfl, rfl, rfl, by decide +kernel, rfl, by decide +kernel, by decide +kernel⟩
theorem ok__law_some (tx : Txt K mg T w) (c__law_line : FnD P w K mg base T 2 "_law_line" 3 D__law_line) (c__law_point : FnD P w K mg base T 2 "_law_point" 3 D__law_point) {f : Addr} {fd : FuncData} (Fu : Fun K "_law_some" "_law_some" s__law_some f fd) : FnOk P w K mg base (L2.CX P w) 3 f fd ["draws", "at", "kind"] (spD K T 3 D__law_some) :=
  fn_D (ow' := []) Fu sc__law_some rfl fun cdv A outer s H E hr => by
    have tk : Takes (cxOf (L2.CX P w) P w K mg base N__law_some "_law_some" (defScope s__law_some) f cdv A outer s H E) (fun cls d _ H => E cls d H) := takes_of rfl rfl rfl rfl
    have hpo := passes_of (X := cxOf (L2.CX P w) P w K mg base N__law_some "_law_some" (defScope s__law_some) f cdv A outer s H E) rfl
    exact dss_cons (ds_asg (i := 3) (ow' := []) sc__law_some.nd (de_ix (de_f (df_lst (da_cons (de_int) (da_cons (de_int) (da_cons (de_int) (da_cons (de_op op_pow rd_pow (de_int) (de_int)) (da_nil))))))) (de_op op_modAll rd_mod (de_callTy call_int1 rc_int tx.b_int (by decide +kernel) (da_cons (de_ix (de_var 0) (de_var 1)) (da_nil))) (de_int))) (by decide) (by decide)) (dss_cons (ds_par3 (i := 4) (j := 5) (l := 6) (ow' := []) rfl sc__law_some.nd (de_op op_sub rd_sub (de_op op_modAll rd_mod (de_callTy call_int1 rc_int tx.b_int (by decide +kernel) (da_cons (de_ix (de_var 0) (de_op op_addAll rd_add (de_var 1) (de_int))) (da_nil))) (de_op op_addAll rd_add (de_op op_mulAll rd_mul (de_int) (de_var 3)) (de_int))) (de_var 3)) (de_op op_sub rd_sub (de_op op_modAll rd_mod (de_callTy call_int1 rc_int tx.b_int (by decide +kernel) (da_cons (de_ix (de_var 0) (de_op op_addAll rd_add (de_var 1) (de_int))) (da_nil))) (de_op op_addAll rd_add (de_op op_mulAll rd_mul (de_int) (de_var 3)) (de_int))) (de_var 3)) (de_op op_addAll rd_add (de_int) (de_op op_modAll rd_mod (de_callTy call_int1 rc_int tx.b_int (by decide +kernel) (da_cons (de_ix (de_var 0) (de_op op_addAll rd_add (de_var 1) (de_int))) (da_nil))) (de_op op_addAll rd_add (de_var 3) (de_int)))) (by decide) (by decide) (by decide) (by decide) rfl) (dss_cons (ds_if (dt_cmp (op_eqD (hu64 hr)) rd_eq (de_var 2) (de_str) (nomark _)) (dss_one (ds_ret (de_call c__law_point hr (by decide) (passAt tk) (da_cons (de_var 4) (da_cons (de_var 5) (da_cons (de_var 6) (da_nil))))))) (dss_nil)) (dss_one (ds_ret (de_call c__law_line hr (by decide) (passAt tk) (da_cons (de_var 4) (da_cons (de_op op_addAll rd_add (de_var 5) (de_callTy call_int1 rc_int tx.b_int (by decide +kernel) (da_cons (de_and (de_cmp (op_eqD (hu64 hr)) rd_eq (de_var 4) (de_int) (nomark _)) (de_one (de_cmp (op_eqD (hu64 hr)) rd_eq (de_var 5) (de_int) (nomark _)))) (da_nil)))) (da_cons (de_op op_sub rd_sub (de_op op_sub rd_sub (de_var 6) (de_int)) (de_op op_fdivAll rd_fdiv (de_var 3) (de_int))) (da_nil)))))))))
theorem sc__law_between : FnScope N__law_between ["one", "two"] (defScope s__law_between) := ⟨rfl, rfl, rfl, by decide +kernel, rfl, by decide +kernel, by decide +kernel⟩
theorem ok__law_between (tx : Txt K mg T w) (c__law_point : FnD P w K mg base T 2 "_law_point" 3 D__law_point) {f : Addr} {fd : FuncData} (Fu : Fun K "_law_between" "_law_between" s__law_between f fd) : FnOk P w K mg base (L2.CX P w) 3 f fd ["one", "two"] (spD K T 2 D__law_between) :=
  fn_D (ow' := []) Fu sc__law_between rfl fun cdv A outer s H E hr => by
    have tk : Takes (cxOf (L2.CX P w) P w K mg base N__law_between "_law_between" (defScope s__law_between) f cdv A outer s H E) (fun cls d _ H => E cls d H) := takes_of rfl rfl rfl rfl
    have hpo := passes_of (X := cxOf (L2.CX P w) P w K mg base N__law_between "_law_between" (defScope s__law_between) f cdv A outer s H E) rfl
    exact dss_one (ds_ret (de_call c__law_point hr (by decide) (passAt tk) (da_cons (de_op op_addAll rd_add (de_op op_mulAll rd_mul (de_ix (de_var 0) (de_int)) (de_ix (de_var 1) (de_int))) (de_op op_mulAll rd_mul (de_ix (de_var 1) (de_int)) (de_ix (de_var 0) (de_int)))) (da_cons (de_op op_addAll rd_add (de_op op_mulAll rd_mul (de_ix (de_var 0) (de_int)) (de_ix (de_var 1) (de_int))) (de_op op_mulAll rd_mul (de_ix (de_var 1) (de_int)) (de_ix (de_var 0) (de_int)))) (da_cons (de_op op_mulAll rd_mul (de_op op_mulAll rd_mul (de_int) (de_ix (de_var 0) (de_int))) (de_ix (de_var 1) (de_int))) (da_nil))))))
theorem sc__law_is_mirrored : FnScope N__law_is_mirrored ["here", "there", "told"] (defScope s__law_is_mirrored) := ⟨rfl, rfl, rfl, by decide +kernel, rfl, by decide +kernel, by decide +kernel⟩
theorem ok__law_is_mirrored (tx : Txt K mg T w) (c__law_between : FnD P w K mg base T 3 "_law_between" 2 D__law_between) (c__law_side : FnD P w K mg base T 1 "_law_side" 2 D__law_side) (c_is_point : FnD P w K mg base T 3 "is_point" 1 D_is_point) {f : Addr} {fd : FuncData} (Fu : Fun K "_law_is_mirrored" "_law_is_mirrored" s__law_is_mirrored f fd) : FnOk P w K mg base (L2.CX P w) 4 f fd ["here", "there", "told"] (spD K T 3 D__law_is_mirrored) :=
  fn_D (ow' := []) Fu sc__law_is_mirrored rfl fun cdv A outer s H E hr => by
    have tk : Takes (cxOf (L2.CX P w) P w K mg base N__law_is_mirrored "_law_is_mirrored" (defScope s__law_is_mirrored) f cdv A outer s H E) (fun cls d _ H => E cls d H) := takes_of rfl rfl rfl rfl
    have hpo := passes_of (X := cxOf (L2.CX P w) P w K mg base N__law_is_mirrored "_law_is_mirrored" (defScope s__law_is_mirrored) f cdv A outer s H E) rfl
    exact dss_cons (ds_if (DW.dt (dw_or (dt_not (dt_truth (de_call c_is_point hr (by decide) (passAt tk) (da_cons (de_var 2) (da_nil))))) (dw_or1 (dt_cmp (op_neD (hu64 hr)) rd_ne (de_call c__law_side hr (by decide) (passAt tk) (da_cons (de_call c__law_between hr (by decide) (passAt tk) (da_cons (de_var 0) (da_cons (de_var 2) (da_nil)))) (da_cons (de_var 1) (da_nil)))) (de_int) (nomark _))))) (dss_one (ds_ret (de_bl))) (dss_nil)) (dss_cons (ds_asg (i := 3) (ow' := []) sc__law_is_mirrored.nd (de_tup (da_cons (de_op op_sub rd_sub (de_op op_mulAll rd_mul (de_ix (de_var 2) (de_int)) (de_ix (de_var 0) (de_int))) (de_op op_mulAll rd_mul (de_ix (de_var 0) (de_int)) (de_ix (de_var 2) (de_int)))) (da_cons (de_op op_sub rd_sub (de_op op_mulAll rd_mul (de_ix (de_var 2) (de_int)) (de_ix (de_var 0) (de_int))) (de_op op_mulAll rd_mul (de_ix (de_var 0) (de_int)) (de_ix (de_var 2) (de_int)))) (da_nil)))) (by decide) (by decide)) (dss_one (ds_ret (de_cmp (op_eqD (hu64 hr)) rd_eq (de_op op_mulAll rd_mul (de_ix (de_var 3) (de_int)) (de_ix (de_var 1) (de_int))) (de_op op_mulAll rd_mul (de_ix (de_var 3) (de_int)) (de_ix (de_var 1) (de_int))) (nomark _)))))
theorem sc__law_are_right : FnScope N__law_are_right ["here", "one", "two"] (defScope s__law_are_right) := ⟨rfl, rfl, rfl, by decide +kernel, rfl, by decide +kernel, by decide +kernel⟩
theorem ok__law_are_right (tx : Txt K mg T w) (c__law_is_mirrored : FnD P w K mg base T 4 "_law_is_mirrored" 3 D__law_is_mirrored) (c__law_point : FnD P w K mg base T 2 "_law_point" 3 D__law_point) (c__law_side : FnD P w K mg base T 1 "_law_side" 2 D__law_side) (c_cross : FnD P w K mg base T 5 "cross" 2 D_cross) (c_in_sheet : FnD P w K mg base T 5 "in_sheet" 1 D_in_sheet) (c_is_line : FnD P w K mg base T 3 "is_line" 1 D_is_line) (c_is_point : FnD P w K mg base T 3 "is_point" 1 D_is_point) (c_lies_on : FnD P w K mg base T 5 "lies_on" 2 D_lies_on) (c_mirrored : FnD P w K mg base T 5 "mirrored" 2 D_mirrored) (c_mirrored_line : FnD P w K mg base T 6 "mirrored_line" 2 D_mirrored_line) {f : Addr} {fd : FuncData} (Fu : Fun K "_law_are_right" "_law_are_right" s__law_are_right f fd) : FnOk P w K mg base (L2.CX P w) 7 f fd ["here", "one", "two"] (spD K T 3 D__law_are_right) :=
  fn_D (ow' := []) Fu sc__law_are_right rfl fun cdv A outer s H E hr => by
    have tk : Takes (cxOf (L2.CX P w) P w K mg base N__law_are_right "_law_are_right" (defScope s__law_are_right) f cdv A outer s H E) (fun cls d _ H => E cls d H) := takes_of rfl rfl rfl rfl
    have hpo := passes_of (X := cxOf (L2.CX P w) P w K mg base N__law_are_right "_law_are_right" (defScope s__law_are_right) f cdv A outer s H E) rfl
    exact dss_cons (ds_if (DW.dt (dw_or (dt_not (dt_truth (de_callB (cr_all rfl) rc_all tx.b_all (by decide +kernel) (da_cons (de_f (df_lc (own := [("told", 5)]) rfl sc__law_are_right.nd (di_seq (de_tup (da_cons (de_call c_lies_on hr (by decide) (passAt tk) (da_cons (de_var 0) (da_cons (de_var 1) (da_nil)))) (da_cons (de_call c_in_sheet hr (by decide) (passAt tk) (da_cons (de_var 0) (da_nil))) (da_nil))))) (blkOk_by (own := [("told", 5)]) (N := N__law_are_right) (sc := defScope s__law_are_right) (by decide +kernel)) (by decide) (fun _ _ _ _ _ => dg_name (i := 5) sc__law_are_right.nd) (fun _ _ _ _ _ => dts_nil) (fun _ _ _ _ _ => de_isi kit_bool tx.b_isinstance tx.b_bool (by decide +kernel) (de_var 5)))) (da_nil))))) (dw_or1 (dt_cmp (op_neD (hu64 hr)) rd_ne (de_call c_lies_on hr (by decide) (passAt tk) (da_cons (de_var 0) (da_cons (de_var 1) (da_nil)))) (de_cmp (op_eqD (hu64 hr)) rd_eq (de_call c__law_side hr (by decide) (passAt tk) (da_cons (de_var 0) (da_cons (de_var 1) (da_nil)))) (de_int) (nomark _)) (nomark _))))) (dss_one (ds_ret (de_bl))) (dss_nil)) (dss_cons (ds_if (dt_cmp (op_neD (hu64 hr)) rd_ne (de_call c_in_sheet hr (by decide) (passAt tk) (da_cons (de_var 0) (da_nil))) (de_and (de_chain op_le rd_cmp op_le rd_cmp (de_int) (de_ix (de_var 0) (de_int)) (de_ix (de_var 0) (de_int))) (de_one (de_chain op_le rd_cmp op_le rd_cmp (de_int) (de_ix (de_var 0) (de_int)) (de_ix (de_var 0) (de_int))))) (nomark _)) (dss_one (ds_ret (de_bl))) (dss_nil)) (dss_cons (ds_par (i := 3) (j := 4) (ow' := []) rfl sc__law_are_right.nd (de_call c_cross hr (by decide) (passAt tk) (da_cons (de_var 1) (da_cons (de_var 2) (da_nil)))) (de_op op_sub rd_sub (de_op op_mulAll rd_mul (de_ix (de_var 1) (de_int)) (de_ix (de_var 2) (de_int))) (de_op op_mulAll rd_mul (de_ix (de_var 1) (de_int)) (de_ix (de_var 2) (de_int)))) (by decide) (by decide) (by decide) rfl) (dss_cons (ds_if (DW.dt (dw_or (dt_cmp (op_neD (hu64 hr)) rd_ne (de_cmp op_isN rd_isN (de_var 3) (de_non) (nomark _)) (de_cmp (op_eqD (hu64 hr)) rd_eq (de_var 4) (de_int) (nomark _)) (nomark _)) (dw_or1 (DW.dt (dw_and (dt_cmp op_notN rd_notN (de_var 3) (de_non) (nomark _)) (dw_and1 (DW.dt (dw_or (dt_not (dt_truth (de_call c_is_point hr (by decide) (passAt tk) (da_cons (de_var 3) (da_nil))))) (dw_or (dt_cmp (op_neD (hu64 hr)) rd_ne (de_call c__law_side hr (by decide) (passAt tk) (da_cons (de_var 3) (da_cons (de_var 1) (da_nil)))) (de_int) (nomark _)) (dw_or1 (dt_cmp (op_neD (hu64 hr)) rd_ne (de_call c__law_side hr (by decide) (passAt tk) (da_cons (de_var 3) (da_cons (de_var 2) (da_nil)))) (de_int) (nomark _)))))))))))) (dss_one (ds_ret (de_bl))) (dss_nil)) (dss_cons (ds_par (i := 5) (j := 6) (ow' := []) rfl sc__law_are_right.nd (de_call c_mirrored hr (by decide) (passAt tk) (da_cons (de_var 0) (da_cons (de_var 1) (da_nil)))) (de_call c_mirrored_line hr (by decide) (passAt tk) (da_cons (de_var 2) (da_cons (de_var 1) (da_nil)))) (by decide) (by decide) (by decide) rfl) (dss_cons (ds_if (DW.dt (dw_or (dt_not (dt_truth (de_call c__law_is_mirrored hr (by decide) (passAt tk) (da_cons (de_var 0) (da_cons (de_var 1) (da_cons (de_var 5) (da_nil))))))) (dw_or (dt_cmp (op_neD (hu64 hr)) rd_ne (de_call c_mirrored hr (by decide) (passAt tk) (da_cons (de_var 5) (da_cons (de_var 1) (da_nil)))) (de_var 0) (nomark _)) (dw_or (dt_cmp (op_neD (hu64 hr)) rd_ne (de_call c_mirrored_line hr (by decide) (passAt tk) (da_cons (de_var 6) (da_cons (de_var 1) (da_nil)))) (de_var 2) (nomark _)) (dw_or1 (dt_not (dt_truth (de_call c_is_line hr (by decide) (passAt tk) (da_cons (de_var 6) (da_nil)))))))))) (dss_one (ds_ret (de_bl))) (dss_nil)) (dss_cons (ds_for hpo rfl (di_range1 tx.b_range (da_cons (de_int) (da_nil))) (dg_name (i := 7) sc__law_are_right.nd) (by decide) aName_same (dss_cons (ds_asg (i := 8) (ow' := []) sc__law_are_right.nd (de_call c__law_point hr (by decide) (passAt tk) (da_cons (de_op op_sub rd_sub (de_op op_mulAll rd_mul (de_ix (de_var 2) (de_int)) (de_ix (de_var 2) (de_int))) (de_op op_mulAll rd_mul (de_var 7) (de_ix (de_var 2) (de_int)))) (da_cons (de_op op_addAll rd_add (de_op op_mulAll rd_mul (de_ix (de_var 2) (de_int)) (de_ix (de_var 2) (de_int))) (de_op op_mulAll rd_mul (de_var 7) (de_ix (de_var 2) (de_int)))) (da_cons (de_op op_addAll rd_add (de_op op_mulAll rd_mul (de_ix (de_var 2) (de_int)) (de_ix (de_var 2) (de_int))) (de_op op_mulAll rd_mul (de_ix (de_var 2) (de_int)) (de_ix (de_var 2) (de_int)))) (da_nil))))) (by decide) (by decide)) (dss_one (ds_if (DW.dt (dw_or (dt_cmp (op_neD (hu64 hr)) rd_ne (de_call c__law_side hr (by decide) (passAt tk) (da_cons (de_var 8) (da_cons (de_var 2) (da_nil)))) (de_int) (nomark _)) (dw_or1 (dt_cmp (op_neD (hu64 hr)) rd_ne (de_call c__law_side hr (by decide) (passAt tk) (da_cons (de_call c_mirrored hr (by decide) (passAt tk) (da_cons (de_var 8) (da_cons (de_var 1) (da_nil)))) (da_cons (de_var 6) (da_nil)))) (de_int) (nomark _))))) (dss_one (ds_ret (de_bl))) (dss_nil))))) (dss_one (ds_ret (de_bl)))))))))
theorem sc__law_error : FnScope N__law_error ["call", "one", "two"] (defScope s__law_error) := ⟨rfl, rfl, rfl, by decide +kernel, rfl, by decide +kernel, by decide +kernel⟩
theorem ok__law_error (tx : Txt K mg T w) (c_cross : FnD P w K mg base T 5 "cross" 2 D_cross) (c_in_sheet : FnD P w K mg base T 5 "in_sheet" 1 D_in_sheet) (c_lies_on : FnD P w K mg base T 5 "lies_on" 2 D_lies_on) (c_line : FnD P w K mg base T 3 "line" 3 D_line) (c_mirrored : FnD P w K mg base T 5 "mirrored" 2 D_mirrored) (c_mirrored_line : FnD P w K mg base T 6 "mirrored_line" 2 D_mirrored_line) (c_point : FnD P w K mg base T 3 "point" 3 D_point) (c_root : FnD P w K mg base T 2 "root" 1 D_root) {f : Addr} {fd : FuncData} (Fu : Fun K "_law_error" "_law_error" s__law_error f fd) : FnOk P w K mg base (L2.CX P w) 7 f fd ["call", "one", "two"] (spD K T 3 D__law_error) :=
  fn_D (ow' := []) Fu sc__law_error rfl fun cdv A outer s H E hr => by
    have tk : Takes (cxOf (L2.CX P w) P w K mg base N__law_error "_law_error" (defScope s__law_error) f cdv A outer s H E) (fun cls d _ H => E cls d H) := takes_of rfl rfl rfl rfl
    have hpo := passes_of (X := cxOf (L2.CX P w) P w K mg base N__law_error "_law_error" (defScope s__law_error) f cdv A outer s H E) rfl
    exact dss_cons (ds_tryM rfl rfl tk (fun W pn xe tk2 hpo2 => dss_one (ds_if (dt_cmp (op_eqD (hu64 hr)) rd_eq (de_var 0) (de_int) (nomark _)) (dss_one (ds_drop (de_call c_point hr (by decide) (passAt tk2) (da_cons (de_ix (de_var 1) (de_int)) (da_cons (de_ix (de_var 1) (de_int)) (da_cons (de_ix (de_var 1) (de_int)) (da_nil))))))) (dss_one (ds_if (dt_cmp (op_eqD (hu64 hr)) rd_eq (de_var 0) (de_int) (nomark _)) (dss_one (ds_drop (de_call c_line hr (by decide) (passAt tk2) (da_cons (de_ix (de_var 1) (de_int)) (da_cons (de_ix (de_var 1) (de_int)) (da_cons (de_ix (de_var 1) (de_int)) (da_nil))))))) (dss_one (ds_if (dt_cmp (op_eqD (hu64 hr)) rd_eq (de_var 0) (de_int) (nomark _)) (dss_one (ds_drop (de_call c_lies_on hr (by decide) (passAt tk2) (da_cons (de_var 1) (da_cons (de_var 2) (da_nil)))))) (dss_one (ds_if (dt_cmp (op_eqD (hu64 hr)) rd_eq (de_var 0) (de_int) (nomark _)) (dss_one (ds_drop (de_call c_cross hr (by decide) (passAt tk2) (da_cons (de_var 1) (da_cons (de_var 2) (da_nil)))))) (dss_one (ds_if (dt_cmp (op_eqD (hu64 hr)) rd_eq (de_var 0) (de_int) (nomark _)) (dss_one (ds_drop (de_call c_mirrored hr (by decide) (passAt tk2) (da_cons (de_var 1) (da_cons (de_var 2) (da_nil)))))) (dss_one (ds_if (dt_cmp (op_eqD (hu64 hr)) rd_eq (de_var 0) (de_int) (nomark _)) (dss_one (ds_drop (de_call c_mirrored_line hr (by decide) (passAt tk2) (da_cons (de_var 1) (da_cons (de_var 2) (da_nil)))))) (dss_one (ds_if (dt_cmp (op_eqD (hu64 hr)) rd_eq (de_var 0) (de_int) (nomark _)) (dss_one (ds_drop (de_call c_in_sheet hr (by decide) (passAt tk2) (da_cons (de_var 1) (da_nil))))) (dss_one (ds_drop (de_call c_root hr (by decide) (passAt tk2) (da_cons (de_var 1) (da_nil))))))))))))))))))) (.cons ⟨rfl, by decide, Or.inl tx.n_BadPoint⟩ tx.x_BadPoint (fun a oe cls d pn hz hf => dss_one (ds_ret (de_str))) (.cons ⟨rfl, by decide, Or.inl tx.n_BadLine⟩ tx.x_BadLine (fun a oe cls d pn hz hf => dss_one (ds_ret (de_str))) (.nil)))) (dss_one (ds_ret (de_str)))
theorem sc_law : FnScope N_law ["script"] (defScope s_law) := ⟨rfl, rfl, rfl, by decide +kernel, rfl, by decide +kernel, by decide +kernel⟩
theorem ok_law (tx : Txt K mg T w) (c__law_are_right : FnD P w K mg base T 7 "_law_are_right" 3 D__law_are_right) (c__law_draws : FnD P w K mg base T 1 "_law_draws" 2 D__law_draws) (c__law_error : FnD P w K mg base T 7 "_law_error" 3 D__law_error) (c__law_line : FnD P w K mg base T 2 "_law_line" 3 D__law_line) (c__law_some : FnD P w K mg base T 3 "_law_some" 3 D__law_some) (c_is_line : FnD P w K mg base T 3 "is_line" 1 D_is_line) (c_is_point : FnD P w K mg base T 3 "is_point" 1 D_is_point) (c_line : FnD P w K mg base T 3 "line" 3 D_line) (c_point : FnD P w K mg base T 3 "point" 3 D_point) (c_root : FnD P w K mg base T 2 "root" 1 D_root) {f : Addr} {fd : FuncData} (Fu : Fun K "law" "law" s_law f fd) : FnOk P w K mg base (L2.CX P w) 8 f fd ["script"] (spD K T 1 D_law) :=
  fn_D (ow' := []) Fu sc_law rfl fun cdv A outer s H E hr => by
    have tk : Takes (cxOf (L2.CX P w) P w K mg base N_law "law" (defScope s_law) f cdv A outer s H E) (fun cls d _ H => E cls d H) := takes_of rfl rfl rfl rfl
    have hpo := passes_of (X := cxOf (L2.CX P w) P w K mg base N_law "law" (defScope s_law) f cdv A outer s H E) rfl
    exact dss_cons (ds_asg (i := 1) (ow' := []) sc_law.nd (de_call c__law_draws hr (by decide) (passAt tk) (da_cons (de_var 0) (da_cons (de_int) (da_nil)))) (by decide) (by decide)) (dss_cons (ds_asgT (ow' := []) (de_tup (da_cons (de_call c__law_some hr (by decide) (passAt tk) (da_cons (de_var 1) (da_cons (de_int) (da_cons (de_str) (da_nil))))) (da_cons (de_call c__law_some hr (by decide) (passAt tk) (da_cons (de_var 1) (da_cons (de_int) (da_cons (de_str) (da_nil))))) (da_cons (de_call c__law_some hr (by decide) (passAt tk) (da_cons (de_var 1) (da_cons (de_int) (da_cons (de_str) (da_nil))))) (da_nil))))) (dg_tup rfl (dgs_cons (dg_name (i := 2) sc_law.nd) (dgs_cons (dg_name (i := 3) sc_law.nd) (dgs_cons (dg_name (i := 4) sc_law.nd) (dgs_nil)))) (asCons_len (asCons_len (asCons_len (fun _ _ _ h => asNil_len h))))) (by decide) (by decide) (aTup_same (asCons_same (aName_same) (asCons_same (aName_same) (asCons_same (aName_same) (asNil_same)))))) (dss_cons (ds_if (dt_cmp (op_eqD (hu64 hr)) rd_eq (de_op op_modAll rd_mod (de_callTy call_int1 rc_int tx.b_int (by decide +kernel) (da_cons (de_ix (de_var 1) (de_int)) (da_nil))) (de_int)) (de_int) (nomark _)) (dss_one (ds_asg (i := 4) (ow' := []) sc_law.nd (de_call c__law_line hr (by decide) (passAt tk) (da_cons (de_op op_mulAll rd_mul (de_int) (de_ix (de_var 3) (de_int))) (da_cons (de_op op_mulAll rd_mul (de_int) (de_ix (de_var 3) (de_int))) (da_cons (de_op op_sub rd_sub (de_op op_modAll rd_mod (de_callTy call_int1 rc_int tx.b_int (by decide +kernel) (da_cons (de_ix (de_var 1) (de_int)) (da_nil))) (de_int)) (de_int)) (da_nil))))) (by decide) (by decide))) (dss_nil)) (dss_cons (ds_if (dt_cmp (op_eqD (hu64 hr)) rd_eq (de_op op_modAll rd_mod (de_callTy call_int1 rc_int tx.b_int (by decide +kernel) (da_cons (de_ix (de_var 1) (de_int)) (da_nil))) (de_int)) (de_int) (nomark _)) (dss_one (ds_asg (i := 4) (ow' := []) sc_law.nd (de_var 3) (by decide) (by decide))) (dss_nil)) (dss_cons (ds_asg (i := 5) (ow' := []) sc_law.nd (de_op op_addAll rd_add (de_int) (de_op op_modAll rd_mod (de_callTy call_int1 rc_int tx.b_int (by decide +kernel) (da_cons (de_ix (de_var 1) (de_int)) (da_nil))) (de_int))) (by decide) (by decide)) (dss_cons (ds_if (DW.dt (dw_or (dt_cmp (op_neD (hu64 hr)) rd_ne (de_call c_point hr (by decide) (passAt tk) (da_cons (de_op op_mulAll rd_mul (de_ix (de_var 2) (de_int)) (de_var 5)) (da_cons (de_op op_mulAll rd_mul (de_ix (de_var 2) (de_int)) (de_var 5)) (da_cons (de_op op_mulAll rd_mul (de_ix (de_var 2) (de_int)) (de_var 5)) (da_nil))))) (de_var 2) (nomark _)) (dw_or1 (dt_cmp (op_neD (hu64 hr)) rd_ne (de_call c_point hr (by decide) (passAt tk) (da_cons (de_op op_sub rd_sub (de_int) (de_ix (de_var 2) (de_int))) (da_cons (de_op op_sub rd_sub (de_int) (de_ix (de_var 2) (de_int))) (da_cons (de_op op_sub rd_sub (de_int) (de_ix (de_var 2) (de_int))) (da_nil))))) (de_var 2) (nomark _))))) (dss_one (ds_ret (de_bl))) (dss_nil)) (dss_cons (ds_if (DW.dt (dw_or (dt_cmp (op_neD (hu64 hr)) rd_ne (de_call c_line hr (by decide) (passAt tk) (da_cons (de_op op_mulAll rd_mul (de_ix (de_var 3) (de_int)) (de_var 5)) (da_cons (de_op op_mulAll rd_mul (de_ix (de_var 3) (de_int)) (de_var 5)) (da_cons (de_op op_mulAll rd_mul (de_ix (de_var 3) (de_int)) (de_var 5)) (da_nil))))) (de_var 3) (nomark _)) (dw_or1 (dt_cmp (op_neD (hu64 hr)) rd_ne (de_call c_line hr (by decide) (passAt tk) (da_cons (de_op op_sub rd_sub (de_int) (de_ix (de_var 3) (de_int))) (da_cons (de_op op_sub rd_sub (de_int) (de_ix (de_var 3) (de_int))) (da_cons (de_op op_sub rd_sub (de_int) (de_ix (de_var 3) (de_int))) (da_nil))))) (de_var 3) (nomark _))))) (dss_one (ds_ret (de_bl))) (dss_nil)) (dss_cons (ds_if (DW.dt (dw_or (dt_cmp op_isnot_bl rd_isnotB (de_call c_is_point hr (by decide) (passAt tk) (da_cons (de_var 2) (da_nil))) (de_bl) (nomark _)) (dw_or (dt_cmp op_isnot_bl rd_isnotB (de_call c_is_line hr (by decide) (passAt tk) (da_cons (de_var 3) (da_nil))) (de_bl) (nomark _)) (dw_or1 (dt_not (dt_truth (de_call c__law_are_right hr (by decide) (passAt tk) (da_cons (de_var 2) (da_cons (de_var 3) (da_cons (de_var 4) (da_nil))))))))))) (dss_one (ds_ret (de_bl))) (dss_nil)) (dss_cons (ds_asg (i := 6) (ow' := []) sc_law.nd (de_op op_addAll rd_add (de_op op_mulAll rd_mul (de_callTy call_int1 rc_int tx.b_int (by decide +kernel) (da_cons (de_ix (de_var 1) (de_int)) (da_nil))) (de_ix (de_f (df_lst (da_cons (de_int) (da_cons (de_int) (da_cons (de_op op_mulAll rd_mul (de_op op_mulAll rd_mul (de_int) (de_int)) (de_int)) (da_nil)))))) (de_op op_modAll rd_mod (de_callTy call_int1 rc_int tx.b_int (by decide +kernel) (da_cons (de_ix (de_var 1) (de_int)) (da_nil))) (de_int)))) (de_op op_modAll rd_mod (de_callTy call_int1 rc_int tx.b_int (by decide +kernel) (da_cons (de_ix (de_var 1) (de_int)) (da_nil))) (de_int))) (by decide) (by decide)) (dss_cons (ds_asg (i := 7) (ow' := []) sc_law.nd (de_op op_mulAll rd_mul (de_var 6) (de_var 6)) (by decide) (by decide)) (dss_cons (ds_if (DW.dt (dw_or (dt_cmp (op_neD (hu64 hr)) rd_ne (de_call c_root hr (by decide) (passAt tk) (da_cons (de_var 7) (da_nil))) (de_var 6) (nomark _)) (dw_or1 (DW.dt (dw_and (dt_cmp op_gt rd_cmp (de_var 6) (de_int) (nomark _)) (dw_and1 (DW.dt (dw_or (dt_cmp op_notN rd_notN (de_call c_root hr (by decide) (passAt tk) (da_cons (de_op op_addAll rd_add (de_var 7) (de_int)) (da_nil))) (de_non) (nomark _)) (dw_or1 (DW.dt (dw_and (dt_cmp op_gt rd_cmp (de_var 6) (de_int) (nomark _)) (dw_and1 (dt_cmp op_notN rd_notN (de_call c_root hr (by decide) (passAt tk) (da_cons (de_op op_sub rd_sub (de_var 7) (de_int)) (da_nil))) (de_non) (nomark _)))))))))))))) (dss_one (ds_ret (de_bl))) (dss_nil)) (dss_cons (ds_asg (i := 8) (ow' := []) sc_law.nd (de_f (df_lst (da_cons (de_non) (da_cons (de_int) (da_cons (de_tup (da_cons (de_int) (da_cons (de_int) (da_nil)))) (da_cons (de_f (df_lst (da_cons (de_int) (da_cons (de_int) (da_cons (de_int) (da_nil)))))) (da_cons (de_tup (da_cons (de_int) (da_cons (de_int) (da_cons (de_int) (da_nil))))) (da_cons (de_tup (da_cons (de_int) (da_cons (de_int) (da_cons (de_int) (da_nil))))) (da_cons (de_tup (da_cons (de_int) (da_cons (de_int) (da_cons (de_neg (de_int)) (da_nil))))) (da_cons (de_tup (da_cons (de_bl) (da_cons (de_int) (da_cons (de_int) (da_nil))))) (da_cons (de_tup (da_cons (de_str) (da_cons (de_int) (da_cons (de_int) (da_nil))))) (da_cons (de_tup (da_cons (de_int) (da_cons (de_int) (da_cons (de_int) (da_cons (de_int) (da_nil)))))) (da_nil))))))))))))) (by decide) (by decide)) (dss_cons (ds_if (DW.dt (dw_or (dt_truth (de_callB (cr_any rfl) rc_any tx.b_any (by decide +kernel) (da_cons (de_f (df_lc (own := [("value", 9)]) rfl sc_law.nd (di_seq (de_var 8)) (blkOk_by (own := [("value", 9)]) (N := N_law) (sc := defScope s_law) (by decide +kernel)) (by decide) (fun _ _ _ _ _ => dg_name (i := 9) sc_law.nd) (fun _ _ _ _ _ => dts_nil) (fun _ _ _ _ _ => de_call c_is_point hr (by decide) passNo (da_cons (de_var 9) (da_nil))))) (da_nil)))) (dw_or (dt_truth (de_callB (cr_any rfl) rc_any tx.b_any (by decide +kernel) (da_cons (de_f (df_lc (own := [("value", 9)]) rfl sc_law.nd (di_seq (de_var 8)) (blkOk_by (own := [("value", 9)]) (N := N_law) (sc := defScope s_law) (by decide +kernel)) (by decide) (fun _ _ _ _ _ => dg_name (i := 9) sc_law.nd) (fun _ _ _ _ _ => dts_one (dt_cmp (op_neD (hu64 hr)) rd_ne (de_var 9) (de_tup (da_cons (de_int) (da_cons (de_int) (da_cons (de_neg (de_int)) (da_nil))))) (nomark _))) (fun _ _ _ _ _ => de_call c_is_line hr (by decide) passNo (da_cons (de_var 9) (da_nil))))) (da_nil)))) (dw_or (dt_truth (de_call c_is_line hr (by decide) (passAt tk) (da_cons (de_tup (da_cons (de_int) (da_cons (de_int) (da_cons (de_int) (da_nil))))) (da_nil)))) (dw_or (dt_truth (de_call c_is_line hr (by decide) (passAt tk) (da_cons (de_tup (da_cons (de_neg (de_int)) (da_cons (de_int) (da_cons (de_int) (da_nil))))) (da_nil)))) (dw_or1 (dt_truth (de_call c_is_line hr (by decide) (passAt tk) (da_cons (de_tup (da_cons (de_int) (da_cons (de_neg (de_int)) (da_cons (de_int) (da_nil))))) (da_nil)))))))))) (dss_one (ds_ret (de_bl))) (dss_nil)) (dss_cons (ds_if (dt_cmp (op_neD (hu64 hr)) rd_ne (de_f (df_lc (own := [("value", 9)]) rfl sc_law.nd (di_seq (de_f (df_lst (da_cons (de_tup (da_cons (de_int) (da_cons (de_int) (da_cons (de_int) (da_nil))))) (da_cons (de_tup (da_cons (de_bl) (da_cons (de_int) (da_cons (de_int) (da_nil))))) (da_cons (de_tup (da_cons (de_non) (da_cons (de_int) (da_cons (de_int) (da_nil))))) (da_cons (de_tup (da_cons (de_int) (da_cons (de_str) (da_cons (de_int) (da_nil))))) (da_nil)))))))) (blkOk_by (own := [("value", 9)]) (N := N_law) (sc := defScope s_law) (by decide +kernel)) (by decide) (fun _ _ _ _ _ => dg_name (i := 9) sc_law.nd) (fun _ _ _ _ _ => dts_nil) (fun _ _ _ _ _ => de_call c__law_error hr (by decide) passNo (da_cons (de_int) (da_cons (de_var 9) (da_cons (de_int) (da_nil))))))) (de_op op_mulAll rd_mul (de_f (df_lst (da_cons (de_str) (da_nil)))) (de_int)) (nomark _)) (dss_one (ds_ret (de_bl))) (dss_nil)) (dss_cons (ds_if (dt_cmp (op_neD (hu64 hr)) rd_ne (de_f (df_lc (own := [("value", 9)]) rfl sc_law.nd (di_seq (de_f (df_lst (da_cons (de_tup (da_cons (de_int) (da_cons (de_int) (da_cons (de_int) (da_nil))))) (da_cons (de_tup (da_cons (de_bl) (da_cons (de_int) (da_cons (de_int) (da_nil))))) (da_cons (de_tup (da_cons (de_non) (da_cons (de_int) (da_cons (de_int) (da_nil))))) (da_cons (de_tup (da_cons (de_int) (da_cons (de_int) (da_cons (de_str) (da_nil))))) (da_nil)))))))) (blkOk_by (own := [("value", 9)]) (N := N_law) (sc := defScope s_law) (by decide +kernel)) (by decide) (fun _ _ _ _ _ => dg_name (i := 9) sc_law.nd) (fun _ _ _ _ _ => dts_nil) (fun _ _ _ _ _ => de_call c__law_error hr (by decide) passNo (da_cons (de_int) (da_cons (de_var 9) (da_cons (de_int) (da_nil))))))) (de_op op_mulAll rd_mul (de_f (df_lst (da_cons (de_str) (da_nil)))) (de_int)) (nomark _)) (dss_one (ds_ret (de_bl))) (dss_nil)) (dss_cons (ds_for hpo rfl (di_seq (de_f (df_lst (da_cons (de_non) (da_cons (de_tup (da_cons (de_int) (da_cons (de_int) (da_cons (de_int) (da_nil))))) (da_cons (de_f (df_lst (da_cons (de_int) (da_cons (de_int) (da_cons (de_int) (da_nil)))))) (da_cons (de_tup (da_cons (de_bl) (da_cons (de_int) (da_cons (de_int) (da_nil))))) (da_nil)))))))) (dg_name (i := 9) sc_law.nd) (by decide) aName_same (dss_cons (ds_if (dt_cmp (op_neD (hu64 hr)) rd_ne (de_f (df_lc (own := [("call", 10)]) rfl sc_law.nd (di_seq (de_tup (da_cons (de_int) (da_cons (de_int) (da_cons (de_int) (da_cons (de_int) (da_cons (de_int) (da_nil)))))))) (blkOk_by (own := [("call", 10)]) (N := N_law) (sc := defScope s_law) (by decide +kernel)) (by decide) (fun _ _ _ _ _ => dg_name (i := 10) sc_law.nd) (fun _ _ _ _ _ => dts_nil) (fun _ _ _ _ _ => de_call c__law_error hr (by decide) passNo (da_cons (de_var 10) (da_cons (de_var 9) (da_cons (de_var 9) (da_nil))))))) (de_f (df_lst (da_cons (de_str) (da_cons (de_str) (da_cons (de_str) (da_cons (de_str) (da_cons (de_str) (da_nil)))))))) (nomark _)) (dss_one (ds_ret (de_bl))) (dss_nil)) (dss_one (ds_if (DW.dt (dw_or (dt_cmp (op_neD (hu64 hr)) rd_ne (de_f (df_lc (own := [("call", 10)]) rfl sc_law.nd (di_seq (de_tup (da_cons (de_int) (da_cons (de_int) (da_nil))))) (blkOk_by (own := [("call", 10)]) (N := N_law) (sc := defScope s_law) (by decide +kernel)) (by decide) (fun _ _ _ _ _ => dg_name (i := 10) sc_law.nd) (fun _ _ _ _ _ => dts_nil) (fun _ _ _ _ _ => de_call c__law_error hr (by decide) passNo (da_cons (de_var 10) (da_cons (de_var 2) (da_cons (de_var 9) (da_nil))))))) (de_op op_mulAll rd_mul (de_f (df_lst (da_cons (de_str) (da_nil)))) (de_int)) (nomark _)) (dw_or1 (dt_cmp (op_neD (hu64 hr)) rd_ne (de_f (df_lc (own := [("call", 10)]) rfl sc_law.nd (di_seq (de_tup (da_cons (de_int) (da_cons (de_int) (da_nil))))) (blkOk_by (own := [("call", 10)]) (N := N_law) (sc := defScope s_law) (by decide +kernel)) (by decide) (fun _ _ _ _ _ => dg_name (i := 10) sc_law.nd) (fun _ _ _ _ _ => dts_nil) (fun _ _ _ _ _ => de_call c__law_error hr (by decide) passNo (da_cons (de_var 10) (da_cons (de_var 3) (da_cons (de_var 9) (da_nil))))))) (de_op op_mulAll rd_mul (de_f (df_lst (da_cons (de_str) (da_nil)))) (de_int)) (nomark _))))) (dss_one (ds_ret (de_bl))) (dss_nil))))) (dss_one (ds_ret (de_and (de_cmp (op_eqD (hu64 hr)) rd_eq (de_f (df_lc (own := [("value", 9)]) rfl sc_law.nd (di_seq (de_tup (da_cons (de_neg (de_int)) (da_cons (de_non) (da_cons (de_bl) (da_cons (de_str) (da_nil))))))) (blkOk_by (own := [("value", 9)]) (N := N_law) (sc := defScope s_law) (by decide +kernel)) (by decide) (fun _ _ _ _ _ => dg_name (i := 9) sc_law.nd) (fun _ _ _ _ _ => dts_nil) (fun _ _ _ _ _ => de_call c__law_error hr (by decide) passNo (da_cons (de_int) (da_cons (de_var 9) (da_cons (de_int) (da_nil))))))) (de_op op_mulAll rd_mul (de_f (df_lst (da_cons (de_str) (da_nil)))) (de_int)) (nomark _)) (de_and (de_cmp (op_eqD (hu64 hr)) rd_eq (de_call c_root hr (by decide) (passAt tk) (da_cons (de_int) (da_nil))) (de_int) (nomark _)) (de_one (de_cmp (op_eqD (hu64 hr)) rd_eq (de_call c_root hr (by decide) (passAt tk) (da_cons (de_int) (da_nil))) (de_int) (nomark _))))))))))))))))))))))
end
end Lw
/-! Triples of ints: points and lines of the plane, up to a factor. -/
namespace Pl
abbrev T3 := Int × Int × Int
def gc (v : T3) : Nat := Nat.gcd (Nat.gcd v.1.natAbs v.2.1.natAbs) v.2.2.natAbs
def sm (k : Int) (v : T3) : T3 := (k * v.1, k * v.2.1, k * v.2.2)
theorem sm_sm (k m : Int) (v : T3) : sm k (sm m v) = sm (k * m) v := by
  obtain ⟨x, y, w⟩ := v
  show (k * (m * x), k * (m * y), k * (m * w)) = (k * m * x, k * m * y, k * m * w)
  rw [Int.mul_assoc, Int.mul_assoc, Int.mul_assoc]
theorem gc_sm (k : Int) (v : T3) : gc (sm k v) = k.natAbs * gc v := by
  obtain ⟨x, y, w⟩ := v
  show Nat.gcd (Nat.gcd (k * x).natAbs (k * y).natAbs) (k * w).natAbs = _
  rw [Int.natAbs_mul, Int.natAbs_mul, Int.natAbs_mul, Nat.gcd_mul_left, Nat.gcd_mul_left]
  rfl
theorem gc_dvd (v : T3) : (gc v : Int) ∣ v.1 ∧ (gc v : Int) ∣ v.2.1 ∧ (gc v : Int) ∣ v.2.2 := by
  obtain ⟨x, y, w⟩ := v
  have h1 : gc (x, y, w) ∣ Nat.gcd x.natAbs y.natAbs := Nat.gcd_dvd_left _ _
  refine ⟨?_, ?_, ?_⟩
  · exact Int.ofNat_dvd_left.mpr (Nat.dvd_trans h1 (Nat.gcd_dvd_left _ _))
  · exact Int.ofNat_dvd_left.mpr (Nat.dvd_trans h1 (Nat.gcd_dvd_right _ _))
  · exact Int.ofNat_dvd_left.mpr (Nat.gcd_dvd_right _ _)
theorem gc_pos {v : T3} (h : v ≠ (0, 0, 0)) : 0 < gc v := by
  refine Nat.pos_of_ne_zero fun e => h ?_
  obtain ⟨x, y, w⟩ := v
  have e' : Nat.gcd (Nat.gcd x.natAbs y.natAbs) w.natAbs = 0 := e
  rw [Nat.gcd_eq_zero_iff, Nat.gcd_eq_zero_iff] at e'
  obtain ⟨⟨a, b⟩, c⟩ := e'
  rw [Int.natAbs_eq_zero.mp a, Int.natAbs_eq_zero.mp b, Int.natAbs_eq_zero.mp c]
/-- v is k times what is left of it -/
def dvt (v : T3) (k : Int) : T3 := (v.1.fdiv k, v.2.1.fdiv k, v.2.2.fdiv k)
theorem fdiv_mul {a k : Int} (h : k ∣ a) : k * a.fdiv k = a := by
  obtain ⟨b, rfl⟩ := h
  by_cases z : k = 0
  · subst z; simp
  · rw [Int.mul_fdiv_cancel_left b z]
theorem sm_dvt {v : T3} {k : Int} (h : k.natAbs = gc v) : sm k (dvt v k) = v := by
  obtain ⟨x, y, w⟩ := v
  have d := gc_dvd (x, y, w)
  rw [← h] at d
  have q : ∀ a : Int, ((k.natAbs : Nat) : Int) ∣ a → k ∣ a := fun a => Int.natAbs_dvd.mp
  show (k * x.fdiv k, k * y.fdiv k, k * w.fdiv k) = _
  rw [fdiv_mul (q _ d.1), fdiv_mul (q _ d.2.1), fdiv_mul (q _ d.2.2)]
theorem gc_dvt {v : T3} {k : Int} (h : k.natAbs = gc v) (hv : v ≠ (0, 0, 0)) : gc (dvt v k) = 1 := by
  have e := gc_sm k (dvt v k)
  rw [sm_dvt h, h] at e
  have p := gc_pos hv
  exact (Nat.mul_eq_left (by omega)).mp e.symm
theorem sm_inj {k : Int} (hk : k ≠ 0) {u v : T3} (h : sm k u = sm k v) : u = v := by
  obtain ⟨x, y, w⟩ := u
  obtain ⟨x', y', w'⟩ := v
  obtain ⟨h1, h2⟩ := Prod.mk.inj h
  obtain ⟨h2, h3⟩ := Prod.mk.inj h2
  have a := Int.eq_of_mul_eq_mul_left hk h1
  have b := Int.eq_of_mul_eq_mul_left hk h2
  have c := Int.eq_of_mul_eq_mul_left hk h3
  dsimp only at a b c
  rw [a, b, c]
/-- equal up to a factor and both without a common one: equal, or opposite -/
theorem same_or {u v : T3} (hu : gc u = 1) (hv : gc v = 1) {k m : Int} (hk : k ≠ 0) (h : sm k u = sm m v) : u = v ∨ u = sm (-1) v := by
  have e := congrArg gc h
  rw [gc_sm, gc_sm, hu, hv, Nat.mul_one, Nat.mul_one] at e
  rcases Int.natAbs_eq_natAbs_iff.mp e with q | q
  · rw [← q] at h
    exact .inl (sm_inj hk h)
  · refine .inr (sm_inj hk ?_)
    rw [h, sm_sm]
    congr 1
    omega
/-! ### points -/
def IsPt (p : T3) : Prop := 0 < p.2.2 ∧ gc p = 1
def byP (v : T3) : Int := if 0 < v.2.2 then (gc v : Int) else 0 - (gc v : Int)
def ptN (v : T3) : T3 := dvt v (byP v)
theorem byP_abs (v : T3) : (byP v).natAbs = gc v := by unfold byP; split <;> omega
theorem byP_ne {v : T3} (h : v.2.2 ≠ 0) : byP v ≠ 0 := by
  have := gc_pos (v := v) (fun e => h (by rw [e]))
  unfold byP
  split <;> omega
theorem ptN_sm (v : T3) : sm (byP v) (ptN v) = v := sm_dvt (byP_abs v)
theorem ptN_is {v : T3} (h : v.2.2 ≠ 0) : IsPt (ptN v) := by
  refine ⟨?_, gc_dvt (byP_abs v) (fun e => h (by rw [e]))⟩
  have e : byP v * (ptN v).2.2 = v.2.2 := congrArg (·.2.2) (ptN_sm v)
  have hp := gc_pos (v := v) (fun e => h (by rw [e]))
  unfold byP at e
  split at e
  · rename_i z
    exact Int.pos_of_mul_pos_right (a := (gc v : Int)) (by rw [e]; exact z) (by omega)
  · rename_i z
    rcases Int.lt_trichotomy (ptN v).2.2 0 with q | q | q
    · have : 0 < (0 - (gc v : Int)) * (ptN v).2.2 := Int.mul_pos_of_neg_of_neg (by omega) q
      omega
    · rw [q, Int.mul_zero] at e; omega
    · exact q
theorem pt_uniq {p q : T3} (hp : IsPt p) (hq : IsPt q) {k m : Int} (hk : k ≠ 0) (h : sm k p = sm m q) : p = q := by
  rcases same_or hp.2 hq.2 hk h with e | e
  · exact e
  · have e2 : p.2.2 = -1 * q.2.2 := congrArg (·.2.2) e
    have := hp.1
    have := hq.1
    omega
theorem ptN_of {p v : T3} (hp : IsPt p) {k : Int} (hk : k ≠ 0) (h : v = sm k p) : ptN v = p := by
  have hw : v.2.2 ≠ 0 := by
    rw [h]
    exact Int.mul_ne_zero hk (by have := hp.1; omega)
  exact pt_uniq (ptN_is hw) hp (byP_ne hw) ((ptN_sm v).trans h)
/-! ### lines -/
def Up (l : T3) : Prop := 0 < l.1 ∨ (l.1 = 0 ∧ 0 < l.2.1)
instance (l : T3) : Decidable (Up l) := by unfold Up; infer_instance
def IsLn (l : T3) : Prop := Up l ∧ gc l = 1
def byL (v : T3) : Int := if Up v then (gc v : Int) else 0 - (gc v : Int)
def lnN (v : T3) : T3 := dvt v (byL v)
def NzL (v : T3) : Prop := ¬ (v.1 = 0 ∧ v.2.1 = 0)
theorem NzL.ne {v : T3} (h : NzL v) : v ≠ (0, 0, 0) := fun e => h (by rw [e]; exact ⟨rfl, rfl⟩)
theorem byL_abs (v : T3) : (byL v).natAbs = gc v := by unfold byL; split <;> omega
theorem byL_ne {v : T3} (h : NzL v) : byL v ≠ 0 := by
  have := gc_pos h.ne
  unfold byL
  split <;> omega
theorem lnN_sm (v : T3) : sm (byL v) (lnN v) = v := sm_dvt (byL_abs v)
theorem pos_of {g a b : Int} (hg : 0 < g) (e : g * a = b) (hb : 0 < b) : 0 < a := by
  rcases Int.lt_trichotomy a 0 with q | q | q
  · have := Int.mul_neg_of_pos_of_neg hg q; omega
  · rw [q, Int.mul_zero] at e; omega
  · exact q
theorem lnN_is {v : T3} (h : NzL v) : IsLn (lnN v) := by
  refine ⟨?_, gc_dvt (byL_abs v) h.ne⟩
  have e1 : byL v * (lnN v).1 = v.1 := congrArg (·.1) (lnN_sm v)
  have e2 : byL v * (lnN v).2.1 = v.2.1 := congrArg (·.2.1) (lnN_sm v)
  have hp := gc_pos h.ne
  unfold byL at e1 e2
  unfold Up
  unfold NzL at h
  split at e1
  · rename_i z
    rw [if_pos z] at e2
    rcases z with z | ⟨z1, z2⟩
    · exact .inl (pos_of (by omega) e1 z)
    · refine .inr ⟨?_, pos_of (by omega) e2 z2⟩
      rw [z1] at e1
      rcases Int.mul_eq_zero.mp e1 with q | q
      · omega
      · exact q
  · rename_i z
    rw [if_neg z] at e2
    unfold Up at z
    have n1 : (gc v : Int) * (lnN v).1 = -v.1 := by rw [← e1]; grind
    have n2 : (gc v : Int) * (lnN v).2.1 = -v.2.1 := by rw [← e2]; grind
    by_cases y : v.1 = 0
    · refine .inr ⟨?_, pos_of (by omega) n2 (by omega)⟩
      rw [y] at n1
      rcases Int.mul_eq_zero.mp n1 with q | q
      · omega
      · exact q
    · exact .inl (pos_of (by omega) n1 (by omega))
theorem ln_uniq {p q : T3} (hp : IsLn p) (hq : IsLn q) {k m : Int} (hk : k ≠ 0) (h : sm k p = sm m q) : p = q := by
  rcases same_or hp.2 hq.2 hk h with e | e
  · exact e
  · have e1 : p.1 = -1 * q.1 := congrArg (·.1) e
    have e2 : p.2.1 = -1 * q.2.1 := congrArg (·.2.1) e
    have h1 := hp.1
    have h2 := hq.1
    unfold Up at h1 h2
    omega
theorem lnN_of {p v : T3} (hp : IsLn p) {k : Int} (hk : k ≠ 0) (h : v = sm k p) : lnN v = p := by
  have hn : NzL v := fun z => by
    obtain ⟨z1, z2⟩ := z
    rw [h] at z1 z2
    have y1 := (Int.mul_eq_zero.mp z1).resolve_left hk
    have y2 := (Int.mul_eq_zero.mp z2).resolve_left hk
    have := hp.1
    unfold Up at this
    omega
  exact ln_uniq (lnN_is hn) hp (byL_ne hn) ((lnN_sm v).trans h)
end Pl
/-! Mirrors in the plane. -/
namespace Pl
def sqL (l : T3) : Int := l.1 * l.1 + l.2.1 * l.2.1
def sdT (p l : T3) : Int := l.1 * p.1 + l.2.1 * p.2.1 - l.2.2 * p.2.2
def mir (p l : T3) : T3 := (p.1 * sqL l - 2 * l.1 * sdT p l, p.2.1 * sqL l - 2 * l.2.1 * sdT p l, p.2.2 * sqL l)
def mirror (p l : T3) : T3 := ptN (mir p l)
/-- the line of two points -/
def jn (p q : T3) : T3 := (p.2.1 * q.2.2 - q.2.1 * p.2.2, q.1 * p.2.2 - p.1 * q.2.2, q.1 * p.2.1 - p.1 * q.2.1)
def footT (f : T3) : T3 := (f.1 * f.2.2, f.2.1 * f.2.2, sqL f)
def alongT (f P : T3) : T3 := (P.1 - f.2.1 * P.2.2, P.2.1 + f.1 * P.2.2, P.2.2)
def mirrorL (f t : T3) : T3 := lnN (jn (mirror (ptN (footT f)) t) (mirror (ptN (alongT f (ptN (footT f)))) t))
/-- the mirrored line, up to a factor -/
def rl (f t : T3) : T3 := (sqL t * f.1 - 2 * (f.1 * t.1 + f.2.1 * t.2.1) * t.1, sqL t * f.2.1 - 2 * (f.1 * t.1 + f.2.1 * t.2.1) * t.2.1, sqL t * f.2.2 - 2 * (f.1 * t.1 + f.2.1 * t.2.1) * t.2.2)
theorem sq_pos {l : T3} (h : NzL l) : 0 < sqL l := by
  obtain ⟨a, b, c⟩ := l
  unfold sqL
  unfold NzL at h
  dsimp only at h ⊢
  by_cases z : a = 0
  · have hb : b ≠ 0 := fun q => h ⟨z, q⟩
    have h2 : 0 < b * b := by
      rcases Int.lt_trichotomy b 0 with q | q | q
      · exact Int.mul_pos_of_neg_of_neg q q
      · exact absurd q hb
      · exact Int.mul_pos q q
    rw [z]
    omega
  · have h1 : 0 < a * a := by
      rcases Int.lt_trichotomy a 0 with q | q | q
      · exact Int.mul_pos_of_neg_of_neg q q
      · exact absurd q z
      · exact Int.mul_pos q q
    have h2 : 0 ≤ b * b := by
      rcases Int.lt_trichotomy b 0 with q | q | q
      · exact Int.le_of_lt (Int.mul_pos_of_neg_of_neg q q)
      · rw [q]; decide
      · exact Int.le_of_lt (Int.mul_pos q q)
    omega
theorem IsLn.nz {l : T3} (h : IsLn l) : NzL l := fun z => by
  have := h.1
  unfold Up at this
  omega
theorem mir_sm (k : Int) (p l : T3) : mir (sm k p) l = sm k (mir p l) := by
  obtain ⟨x, y, w⟩ := p
  obtain ⟨a, b, c⟩ := l
  simp only [mir, sm, sqL, sdT, Prod.mk.injEq]
  refine ⟨?_, ?_, ?_⟩ <;> grind
theorem mir_mir (p l : T3) : mir (mir p l) l = sm (sqL l * sqL l) p := by
  obtain ⟨x, y, w⟩ := p
  obtain ⟨a, b, c⟩ := l
  simp only [mir, sm, sqL, sdT, Prod.mk.injEq]
  refine ⟨?_, ?_, ?_⟩ <;> grind
theorem mir_w {p l : T3} (hp : 0 < p.2.2) (hl : NzL l) : 0 < (mir p l).2.2 := Int.mul_pos hp (sq_pos hl)
theorem mirror_is {p l : T3} (hp : 0 < p.2.2) (hl : NzL l) : IsPt (mirror p l) := ptN_is (by have := mir_w hp hl; omega)
theorem mirror_twice {p l : T3} (hp : IsPt p) (hl : NzL l) : mirror (mirror p l) l = p := by
  have h0 := mir_w hp.1 hl
  have hk := byP_ne (v := mir p l) (by omega)
  have e := ptN_sm (mir p l)
  have e2 : sm (byP (mir p l)) (mir (mirror p l) l) = sm (sqL l * sqL l) p := by
    rw [← mir_sm, ← mir_mir]
    unfold mirror
    rw [e]
  have hs := sq_pos hl
  have h1 : (mir (mirror p l) l).2.2 ≠ 0 := by have := mir_w (mirror_is hp.1 hl).1 hl; omega
  refine pt_uniq (ptN_is h1) hp (k := byP (mir p l) * byP (mir (mirror p l) l)) (m := sqL l * sqL l) (Int.mul_ne_zero hk (byP_ne h1)) ?_
  rw [← sm_sm]
  show sm (byP (mir p l)) (sm (byP (mir (mirror p l) l)) (ptN (mir (mirror p l) l))) = _
  rw [ptN_sm, e2]
/-! ### mirrored lines -/
theorem jn_sm (k m : Int) (p q : T3) : jn (sm k p) (sm m q) = sm (k * m) (jn p q) := by
  obtain ⟨x, y, w⟩ := p
  obtain ⟨a, b, c⟩ := q
  simp only [jn, sm, Prod.mk.injEq]
  refine ⟨?_, ?_, ?_⟩ <;> grind
theorem along_sm (k : Int) (f P : T3) : alongT f (sm k P) = sm k (alongT f P) := by
  obtain ⟨x, y, w⟩ := P
  obtain ⟨a, b, c⟩ := f
  simp only [alongT, sm, Prod.mk.injEq]
  refine ⟨?_, ?_, ?_⟩ <;> grind
theorem jn_foot (f : T3) : jn (footT f) (alongT f (footT f)) = sm (-(sqL f * sqL f)) f := by
  obtain ⟨a, b, c⟩ := f
  simp only [jn, alongT, footT, sm, sqL, Prod.mk.injEq]
  refine ⟨?_, ?_, ?_⟩ <;> grind
theorem jn_mir1 (x y w x' y' w' a b c : Int) : (jn (mir (x, y, w) (a, b, c)) (mir (x', y', w') (a, b, c))).1 = (sm (-(sqL (a, b, c))) (rl (jn (x, y, w) (x', y', w')) (a, b, c))).1 := by
  simp only [jn, mir, rl, sm, sqL, sdT]
  grind
theorem jn_mir2 (x y w x' y' w' a b c : Int) : (jn (mir (x, y, w) (a, b, c)) (mir (x', y', w') (a, b, c))).2.1 = (sm (-(sqL (a, b, c))) (rl (jn (x, y, w) (x', y', w')) (a, b, c))).2.1 := by
  simp only [jn, mir, rl, sm, sqL, sdT]
  grind
theorem jn_mir3 (x y w x' y' w' a b c : Int) : (jn (mir (x, y, w) (a, b, c)) (mir (x', y', w') (a, b, c))).2.2 = (sm (-(sqL (a, b, c))) (rl (jn (x, y, w) (x', y', w')) (a, b, c))).2.2 := by
  simp only [jn, mir, rl, sm, sqL, sdT]
  grind
theorem jn_mir (p q l : T3) : jn (mir p l) (mir q l) = sm (-(sqL l)) (rl (jn p q) l) := by
  obtain ⟨x, y, w⟩ := p
  obtain ⟨x', y', w'⟩ := q
  obtain ⟨a, b, c⟩ := l
  exact Prod.ext (jn_mir1 ..) (Prod.ext (jn_mir2 ..) (jn_mir3 ..))
theorem rl_sm (k : Int) (f t : T3) : rl (sm k f) t = sm k (rl f t) := by
  obtain ⟨x, y, w⟩ := f
  obtain ⟨a, b, c⟩ := t
  simp only [rl, sm, sqL, Prod.mk.injEq]
  refine ⟨?_, ?_, ?_⟩ <;> grind
theorem rl_rl (f t : T3) : rl (rl f t) t = sm (sqL t * sqL t) f := by
  obtain ⟨x, y, w⟩ := f
  obtain ⟨a, b, c⟩ := t
  simp only [rl, sm, sqL, Prod.mk.injEq]
  refine ⟨?_, ?_, ?_⟩ <;> grind
theorem side_mir (p f t : T3) : sdT (mir p t) (rl f t) = sqL t * sqL t * sdT p f := by
  obtain ⟨x, y, w⟩ := p
  obtain ⟨a, b, c⟩ := f
  obtain ⟨d, e, g⟩ := t
  simp only [rl, mir, sqL, sdT]
  grind
theorem rl_nz {f t : T3} (hf : NzL f) (ht : NzL t) : NzL (rl f t) := fun z => by
  have e := rl_rl f t
  have hs := sq_pos ht
  have h1 : (rl (rl f t) t).1 = 0 := by
    obtain ⟨z1, z2⟩ := z
    show sqL t * (rl f t).1 - 2 * ((rl f t).1 * t.1 + (rl f t).2.1 * t.2.1) * t.1 = 0
    rw [z1, z2]
    simp
  have h2 : (rl (rl f t) t).2.1 = 0 := by
    obtain ⟨z1, z2⟩ := z
    show sqL t * (rl f t).2.1 - 2 * ((rl f t).1 * t.1 + (rl f t).2.1 * t.2.1) * t.2.1 = 0
    rw [z1, z2]
    simp
  rw [e] at h1 h2
  have k : sqL t * sqL t ≠ 0 := by have := Int.mul_pos hs hs; omega
  exact hf ⟨(Int.mul_eq_zero.mp h1).resolve_left k, (Int.mul_eq_zero.mp h2).resolve_left k⟩
/-- what mirrorL joins is the mirrored line, up to a factor -/
theorem mirrorL_jn {f t : T3} (hf : NzL f) (ht : NzL t) : ∃ k m : Int, k ≠ 0 ∧ m ≠ 0 ∧ sm k (jn (mirror (ptN (footT f)) t) (mirror (ptN (alongT f (ptN (footT f)))) t)) = sm m (rl f t) := by
  have hsf := sq_pos hf
  have hst := sq_pos ht
  have w1 : (footT f).2.2 ≠ 0 := by show sqL f ≠ 0; omega
  have F := ptN_is w1
  have kF := byP_ne w1
  have eF := ptN_sm (footT f)
  generalize ptN (footT f) = P at *
  have w2 : (alongT f P).2.2 ≠ 0 := by have := F.1; show P.2.2 ≠ 0; omega
  have A := ptN_is w2
  have kA := byP_ne w2
  have eA := ptN_sm (alongT f P)
  generalize ptN (alongT f P) = Q at *
  have w3 : (mir P t).2.2 ≠ 0 := by have := mir_w F.1 ht; omega
  have w4 : (mir Q t).2.2 ≠ 0 := by have := mir_w A.1 ht; omega
  have k3 := byP_ne w3
  have k4 := byP_ne w4
  have e3 : sm (byP (mir P t)) (mirror P t) = mir P t := ptN_sm _
  have e4 : sm (byP (mir Q t)) (mirror Q t) = mir Q t := ptN_sm _
  refine ⟨(byP (footT f) * (byP (footT f) * byP (alongT f P))) * (byP (mir P t) * byP (mir Q t)), (-(sqL t)) * (-(sqL f * sqL f)), ?_, ?_, ?_⟩
  · exact Int.mul_ne_zero (Int.mul_ne_zero kF (Int.mul_ne_zero kF kA)) (Int.mul_ne_zero k3 k4)
  · exact Int.mul_ne_zero (by omega) (by have := Int.mul_pos hsf hsf; omega)
  · have g : sm (byP (footT f) * (byP (footT f) * byP (alongT f P))) (jn P Q) = sm (-(sqL f * sqL f)) f := by
      rw [← jn_sm, ← sm_sm, eA, ← along_sm, eF, jn_foot]
    have g2 : sm (byP (mir P t) * byP (mir Q t)) (jn (mirror P t) (mirror Q t)) = sm (-(sqL t)) (rl (jn P Q) t) := by rw [← jn_sm, e3, e4, jn_mir]
    rw [← sm_sm, g2, sm_sm, Int.mul_comm _ (-(sqL t)), ← sm_sm, ← rl_sm, g, rl_sm, sm_sm]
theorem mirrorL_nz {f t : T3} (hf : NzL f) (ht : NzL t) : NzL (jn (mirror (ptN (footT f)) t) (mirror (ptN (alongT f (ptN (footT f)))) t)) := fun z => by
  obtain ⟨k, m, hk, hm, e⟩ := mirrorL_jn hf ht
  generalize jn (mirror (ptN (footT f)) t) (mirror (ptN (alongT f (ptN (footT f)))) t) = j at *
  have e1 : k * j.1 = m * (rl f t).1 := congrArg (·.1) e
  have e2 : k * j.2.1 = m * (rl f t).2.1 := congrArg (·.2.1) e
  rw [z.1, Int.mul_zero] at e1
  rw [z.2, Int.mul_zero] at e2
  exact rl_nz hf ht ⟨(Int.mul_eq_zero.mp e1.symm).resolve_left hm, (Int.mul_eq_zero.mp e2.symm).resolve_left hm⟩
theorem mirrorL_is {f t : T3} (hf : NzL f) (ht : NzL t) : IsLn (mirrorL f t) := lnN_is (mirrorL_nz hf ht)
/-- it is the mirrored line -/
theorem mirrorL_rl {f t : T3} (hf : NzL f) (ht : NzL t) : ∃ k m : Int, k ≠ 0 ∧ m ≠ 0 ∧ sm k (mirrorL f t) = sm m (rl f t) := by
  obtain ⟨k, m, hk, hm, e⟩ := mirrorL_jn hf ht
  have hz := mirrorL_nz hf ht
  refine ⟨k * byL (jn (mirror (ptN (footT f)) t) (mirror (ptN (alongT f (ptN (footT f)))) t)), m, Int.mul_ne_zero hk (byL_ne hz), hm, ?_⟩
  rw [← sm_sm]
  show sm k (sm (byL _) (lnN _)) = _
  rw [lnN_sm, e]
theorem mirrorL_twice {f t : T3} (hf : IsLn f) (ht : NzL t) : mirrorL (mirrorL f t) t = f := by
  have h1 := mirrorL_is hf.nz ht
  obtain ⟨k, m, hk, hm, e⟩ := mirrorL_rl hf.nz ht
  obtain ⟨k', m', hk', hm', e'⟩ := mirrorL_rl h1.nz ht
  have hs := sq_pos ht
  refine ln_uniq (mirrorL_is h1.nz ht) hf (k := k * k') (m := m' * (m * (sqL t * sqL t))) (Int.mul_ne_zero hk hk') ?_
  rw [← sm_sm, e', sm_sm, Int.mul_comm k m', ← sm_sm, ← rl_sm, e, rl_sm, rl_rl, sm_sm, sm_sm, Int.mul_assoc]
end Pl
namespace Lw
open PySem PySem.Spec PyProof.Rows L2 Dl Pl
/-! ### bounds -/
def B (n : Nat) (x : Int) : Prop := x.natAbs < 2 ^ n
theorem B_le {m n : Nat} {x : Int} (h : B m x) (l : m ≤ n) : B n x := Nat.lt_of_lt_of_le h (Nat.pow_le_pow_right (by decide) l)
theorem B_mul {m n : Nat} {x y : Int} (h : B m x) (g : B n y) : B (m + n) (x * y) := by
  unfold B at *
  rw [Int.natAbs_mul, Nat.pow_add]
  exact Nat.mul_lt_mul'' h g
theorem B_add {m n : Nat} {x y : Int} (h : B m x) (g : B n y) : B (max m n + 1) (x + y) := by
  have h' := B_le h (Nat.le_max_left m n)
  have g' := B_le g (Nat.le_max_right m n)
  unfold B at *
  rw [Nat.pow_succ]
  have := Int.natAbs_add_le x y
  omega
theorem B_neg {m : Nat} {x : Int} (h : B m x) : B m (-x) := by
  unfold B at *
  rw [Int.natAbs_neg]
  exact h
theorem B_sub {m n : Nat} {x y : Int} (h : B m x) (g : B n y) : B (max m n + 1) (x - y) := by
  rw [Int.sub_eq_add_neg]
  exact B_add h (B_neg g)
theorem B_two : B 2 2 := by unfold B; decide
theorem mok {i j : Int} (h : B 400000 i) (g : B 400000 j) : mulOk i j = true := by
  have q : ∀ {x : Int}, B 400000 x → x.natAbs.log2 < 400000 := fun {x} hx => PySem.Flt.log2_lt_of (by decide) hx
  unfold mulOk
  rw [Bool.or_eq_true]
  exact .inr (decide_eq_true (by have := q h; have := q g; omega))
/-! ### steps on ints and triples -/
def tD (v : T3) : Dat := .tup [.int v.1, .int v.2.1, .int v.2.2]
section
variable {f g : DEnv → Res Dat} {ρ : DEnv} {a b : Int}
theorem add_i (h : f ρ = .ok (.int a)) (k : g ρ = .ok (.int b)) : vOp addD f g ρ = .ok (.int (a + b)) := op_ok h k rfl
theorem sub_i (h : f ρ = .ok (.int a)) (k : g ρ = .ok (.int b)) : vOp subD f g ρ = .ok (.int (a - b)) := op_ok h k rfl
theorem mul_i (h : f ρ = .ok (.int a)) (k : g ρ = .ok (.int b)) (m : mulOk a b = true) : vOp mulD f g ρ = .ok (.int (a * b)) := op_ok h k (by show (if mulOk a b = true then _ else _) = _; rw [if_pos m])
theorem ix_0 {v : T3} (h : f ρ = .ok (tD v)) : vOp ixD f (vC (.int 0)) ρ = .ok (.int v.1) := op_ok (f2 := vC (.int 0)) h rfl rfl
theorem ix_1 {v : T3} (h : f ρ = .ok (tD v)) : vOp ixD f (vC (.int 1)) ρ = .ok (.int v.2.1) := op_ok (f2 := vC (.int 1)) h rfl rfl
theorem ix_2 {v : T3} (h : f ρ = .ok (tD v)) : vOp ixD f (vC (.int 2)) ρ = .ok (.int v.2.2) := op_ok (f2 := vC (.int 2)) h rfl rfl
theorem gt_i (h : f ρ = .ok (.int a)) (k : g ρ = .ok (.int b)) : vTest (vOp gtD f g) ρ = .ok (decide (b < a)) := test_ok (op_ok h k rfl)
theorem eq_ii (a b : Int) : eqD (.int a) (.int b) = some (.bl (a == b)) := rfl
theorem ne_ii (a b : Int) : neD (.int a) (.int b) = some (.bl (!(a == b))) := rfl
theorem eq_i (h : f ρ = .ok (.int a)) (k : g ρ = .ok (.int b)) : vTest (vOp eqD f g) ρ = .ok (a == b) := test_ok (op_ok h k (eq_ii a b))
theorem ne_i (h : f ρ = .ok (.int a)) (k : g ρ = .ok (.int b)) : vTest (vOp neD f g) ρ = .ok (!(a == b)) := test_ok (op_ok h k (ne_ii a b))
theorem tup_3 {c : DEnv → Res Dat} {d : Int} (h : f ρ = .ok (.int a)) (k : g ρ = .ok (.int b)) (m : c ρ = .ok (.int d)) : vTup (aCons f (aCons g (aCons c aNil))) ρ = .ok (tD (a, b, d)) := tup_ok (ac_ok h (ac_ok k (ac_ok m an_ok))) (by show 3 ≤ 1000; decide)
end
theorem beq_t {a b : Int} (h : a = b) : (a == b) = true := by rw [h, beq_self_eq_true]
theorem beq_f {a b : Int} (h : a ≠ b) : (a == b) = false := beq_eq_false_iff_ne.mpr h
/-! ### Euclid -/
theorem mod_half {a b : Nat} (h : 0 < a % b) (hb : 0 < b) : 2 * (b % (a % b)) < b := by
  have h1 := Nat.mod_lt a hb
  have h2 := Nat.mod_lt b h
  by_cases z : 2 * (a % b) ≤ b
  · omega
  · have : b % (a % b) = b - a % b := by
      rw [Nat.mod_eq_sub_mod (by omega)]
      exact Nat.mod_eq_of_lt (by omega)
    omega
def E1 : DEnv → DFlow := sPar 1 3 (vVar 3) (vOp modD (vVar 1) (vVar 3))
def E1t : DEnv → Res Bool := vTest (vOp gtD (vVar 3) (vC (.int 0)))
theorem e1_t {x y : Option Dat} {a b : Nat} : E1t [x, some (.int a), y, some (.int b)] = .ok (decide (0 < b)) := by
  refine (gt_i (a := (b : Int)) (b := 0) rfl rfl).trans ?_
  congr 1
  exact decide_eq_decide.mpr ⟨fun h => by omega, fun h => by omega⟩
theorem e1_step {x y : Option Dat} {a b : Nat} (hb : 0 < b) : E1 [x, some (.int a), y, some (.int b)] = .nx [x, some (.int b), y, some (.int ((a % b : Nat) : Int))] := by
  refine (show E1 _ = _ from ?_)
  unfold E1 sPar
  show rBind (vOp modD (vVar 1) (vVar 3) [x, some (.int a), y, some (.int b)]) _ _ = _
  rw [op_ok (x := .int a) (y := .int b) (z := .int ((a % b : Nat) : Int)) rfl rfl (by rw [mod_c (by omega)]; rfl)]
  rfl
theorem e1_loop {x y : Option Dat} : ∀ (n a b m : Nat), b < 2 ^ n → 2 * n + 1 ≤ m → whileL E1t E1 m [x, some (.int a), y, some (.int b)] = .nx [x, some (.int ((Nat.gcd a b : Nat) : Int)), y, some (.int ((0 : Nat) : Int))]
  | n, a, 0, m + 1, _, _ => by
    refine (whileL_f (e1_t.trans rfl)).trans ?_
    rw [Nat.gcd_zero_right]
  | 0, a, b + 1, m, h, _ => by rw [Nat.pow_zero] at h; omega
  | n + 1, a, b + 1, m + 1, h, hm => by
    refine (whileL_t (e1_t.trans (by rw [decide_eq_true (Nat.succ_pos b)])) (e1_step (Nat.succ_pos b))).trans ?_
    cases hr : a % (b + 1) with
    | zero =>
      obtain ⟨m', rfl⟩ : ∃ m', m = m' + 1 := ⟨m - 1, by omega⟩
      refine (whileL_f (e1_t.trans rfl)).trans ?_
      rw [Nat.gcd_comm a (b + 1), Nat.gcd_rec, hr, Nat.gcd_zero_left]
    | succ r =>
      obtain ⟨m', rfl⟩ : ∃ m', m = m' + 1 := ⟨m - 1, by omega⟩
      refine (whileL_t (e1_t.trans (by rw [decide_eq_true (Nat.succ_pos r)])) (e1_step (Nat.succ_pos r))).trans ?_
      have hh := mod_half (a := a) (b := b + 1) (by omega) (Nat.succ_pos b)
      rw [hr] at hh
      rw [e1_loop n (r + 1) ((b + 1) % (r + 1)) m' (by rw [Nat.pow_succ] at h; omega) (by omega)]
      rw [Nat.gcd_comm a (b + 1), Nat.gcd_rec (b + 1) a, hr, Nat.gcd_rec (r + 1) (b + 1), Nat.gcd_comm]
theorem abs_nat (i : Int) : absD [.int i] = some (.int ((i.natAbs : Nat) : Int)) := by
  show some (Dat.int (if i < 0 then -i else i)) = _
  congr 2
  split <;> omega
theorem e1_turn {x : Option Dat} {y z : Option Dat} {a : Nat} {i : Int} (h : B 400000 i) : sSeq (sAsg 3 (vCB absD (aCons (vVar 2) (aNil)))) (sWhile 1000000 E1t E1) [x, some (.int a), some (.int i), z] = .nx [x, some (.int ((Nat.gcd a i.natAbs : Nat) : Int)), some (.int i), some (.int ((0 : Nat) : Int))] := by
  refine (seq_nx (ρ' := [x, some (.int a), some (.int i), some (.int ((i.natAbs : Nat) : Int))]) ((asg_ok (cb_ok (ac_ok (x := .int i) rfl an_ok) (abs_nat i))).trans rfl)).trans ?_
  exact e1_loop 400000 a i.natAbs 1000000 h (by decide)
def Bt (n : Nat) (v : T3) : Prop := B n v.1 ∧ B n v.2.1 ∧ B n v.2.2
theorem divisor_eq {v : T3} (h : Bt 400000 v) : D_divisor [tD v] = .ok (.int ((gc v : Nat) : Int)) := by
  obtain ⟨x, y, w⟩ := v
  obtain ⟨h1, h2, h3⟩ := h
  refine run_rt ?_
  refine (seq_nx (ρ' := [some (tD (x, y, w)), some (.int ((0 : Nat) : Int)), none, none]) rfl).trans ?_
  refine (seq_nx (ρ' := [some (tD (x, y, w)), some (.int ((gc (x, y, w) : Nat) : Int)), some (.int w), some (.int ((0 : Nat) : Int))]) ?_).trans rfl
  refine (for_ok (l := [.int x, .int y, .int w]) rfl).trans ?_
  have t := fun (s : Option Dat) (z : Option Dat) (a : Nat) (i : Int) (hi : B 400000 i) => e1_turn (x := some (tD (x, y, w))) (y := s) (z := z) (a := a) hi
  have step : ∀ (i : Int) (r : List Dat) (a : Nat) (u z : Option Dat), B 400000 i → forL (aName 2) (sSeq (sAsg 3 (vCB absD (aCons (vVar 2) (aNil)))) (sWhile 1000000 E1t E1)) (.int i :: r) [some (tD (x, y, w)), some (.int a), u, z] = forL (aName 2) (sSeq (sAsg 3 (vCB absD (aCons (vVar 2) (aNil)))) (sWhile 1000000 E1t E1)) r [some (tD (x, y, w)), some (.int ((Nat.gcd a i.natAbs : Nat) : Int)), some (.int i), some (.int ((0 : Nat) : Int))] := by
    intro i r a u z hi
    show (match sSeq (sAsg 3 (vCB absD (aCons (vVar 2) (aNil)))) (sWhile 1000000 E1t E1) [some (tD (x, y, w)), some (.int a), some (.int i), z] with | .nx ρ2 => forL (aName 2) (sSeq (sAsg 3 (vCB absD (aCons (vVar 2) (aNil)))) (sWhile 1000000 E1t E1)) r ρ2 | .ct ρ2 => forL (aName 2) (sSeq (sAsg 3 (vCB absD (aCons (vVar 2) (aNil)))) (sWhile 1000000 E1t E1)) r ρ2 | .bk ρ2 => .nx ρ2 | f => f) = _
    rw [t none z a i hi]
  refine (step x _ 0 none none h1).trans ((step y _ _ _ _ h2).trans ((step w _ _ _ _ h3).trans ?_))
  rw [Nat.gcd_zero_left]
  rfl
end Lw
namespace Lw
open PySem PySem.Spec PyProof.Rows L2 Dl Pl
theorem Bt_le {m n : Nat} {v : T3} (h : Bt m v) (l : m ≤ n) : Bt n v := ⟨B_le h.1 l, B_le h.2.1 l, B_le h.2.2 l⟩
theorem B_of_mul {n : Nat} {k a b : Int} (e : k * a = b) (hk : k ≠ 0) (h : B n b) : B n a := by
  unfold B at *
  rw [← e, Int.natAbs_mul] at h
  have : 1 ≤ k.natAbs := by omega
  exact Nat.lt_of_le_of_lt (Nat.le_mul_of_pos_left _ this) h
theorem Bt_of_sm {n : Nat} {k : Int} {u v : T3} (e : sm k u = v) (hk : k ≠ 0) (h : Bt n v) : Bt n u :=
  ⟨B_of_mul (congrArg (·.1) e) hk h.1, B_of_mul (congrArg (·.2.1) e) hk h.2.1, B_of_mul (congrArg (·.2.2) e) hk h.2.2⟩
theorem gc_log {v : T3} (h : Bt 8000 v) (hv : v ≠ (0, 0, 0)) : (gc v).log2 < 9000 := by
  have p := gc_pos hv
  have d := gc_dvd v
  have key : ∀ a : Int, a ≠ 0 → (gc v : Int) ∣ a → B 8000 a → gc v < 2 ^ 8000 := fun a ha hd hb => by
    unfold B at hb
    exact Nat.lt_of_le_of_lt (Nat.le_of_dvd (by omega) (Int.ofNat_dvd_left.mp hd)) hb
  have lt : gc v < 2 ^ 8000 := by
    by_cases z1 : v.1 = 0
    · by_cases z2 : v.2.1 = 0
      · refine key v.2.2 (fun z3 => hv ?_) d.2.2 h.2.2
        obtain ⟨x, y, w⟩ := v
        dsimp only at z1 z2 z3
        rw [z1, z2, z3]
      · exact key _ z2 d.2.1 h.2.1
    · exact key _ z1 d.1 h.1
  have := (Nat.log2_lt (by omega)).mpr lt
  omega
theorem fdx {i j : Int} (h : j ≠ 0) (h2 : j.natAbs.log2 < 9000) : fdivXD (.int i) (.int j) = some (.int (i.fdiv j)) := by
  show (fdivXI i j).map Dat.int = _
  unfold fdivXI
  rw [if_pos ⟨h, h2⟩]
  rfl
/-! ### what is a point, a line -/
theorem ints_eq (v : T3) : D__are_integers [tD v] = .ok (.bl true) := by
  obtain ⟨x, y, w⟩ := v
  kernel_rfl
theorem is_point_eq {v : T3} (h : IsPt v) (hb : Bt 8000 v) : D_is_point [tD v] = .ok (.bl true) := by
  refine run_rt (ret_ok ((vand_t (call_ok (l := [tD v]) rfl rfl (ints_eq v))).trans ((vand_t ?_).trans ?_)))
  · refine op_ok (x := .int v.2.2) (y := .int 0) (ix_2 (v := v) rfl) rfl ?_
    show some (Dat.bl (decide ((0 : Int) < v.2.2))) = _
    rw [decide_eq_true h.1]
  · refine op_ok (x := .int ((gc v : Nat) : Int)) (y := .int 1) (call_ok (l := [tD v]) rfl rfl (divisor_eq (Bt_le hb (by decide)))) rfl ?_
    rw [h.2]
    rfl
theorem up_eq {ρ : DEnv} {f g : DEnv → Res Dat} {v : T3} (hf : f ρ = .ok (.int v.1)) (hg : g ρ = .ok (.int v.2.1)) : vOrT (vTest (vOp gtD f (vC (.int 0)))) (vAndT (vTest (vOp eqD f (vC (.int 0)))) (vTest (vOp gtD g (vC (.int 0))))) ρ = .ok (decide (Up v)) := by
  have h1 := gt_i (g := vC (.int 0)) (b := 0) hf rfl
  have h2 := eq_i (g := vC (.int 0)) (b := 0) hf rfl
  have h3 := gt_i (g := vC (.int 0)) (b := 0) hg rfl
  by_cases z : 0 < v.1
  · rw [decide_eq_true z] at h1
    rw [or_t h1, decide_eq_true (show Up v from .inl z)]
  · rw [decide_eq_false z] at h1
    rw [or_f h1]
    by_cases y : v.1 = 0
    · rw [beq_t y] at h2
      rw [and_t h2, h3]
      congr 1
      exact decide_eq_decide.mpr ⟨fun q => .inr ⟨y, q⟩, fun q => q.elim (fun q => absurd q z) (·.2)⟩
    · rw [beq_f y] at h2
      rw [and_f h2, decide_eq_false (show ¬ Up v from fun q => q.elim z (fun q => y q.1))]
theorem is_line_eq {v : T3} (h : IsLn v) (hb : Bt 8000 v) : D_is_line [tD v] = .ok (.bl true) := by
  refine run_rt ?_
  refine (seq_nx (ρ' := [some (tD v)]) ?_).trans (ret_ok ?_)
  · refine (if_f ((or_f (not_ok (b := true) (tru_ok (d := .bl true) (call_ok (l := [tD v]) rfl rfl (ints_eq v)) rfl))).trans ?_)).trans rfl
    refine (ne_i (a := ((gc v : Nat) : Int)) (b := 1) (call_ok (l := [tD v]) rfl rfl (divisor_eq (Bt_le hb (by decide)))) rfl).trans ?_
    rw [h.2]
    rfl
  · have u := h.1
    have g0 : vOp gtD (vOp ixD (vVar 0) (vC (.int 0))) (vC (.int 0)) [some (tD v)] = .ok (.bl (decide (0 < v.1))) := op_ok (x := .int v.1) (y := .int 0) (ix_0 (v := v) rfl) rfl rfl
    by_cases z : 0 < v.1
    · rw [decide_eq_true z] at g0
      exact vor_t g0
    · rw [decide_eq_false z] at g0
      refine (vor_f g0).trans ?_
      have y : v.1 = 0 ∧ 0 < v.2.1 := u.resolve_left z
      refine (vand_t (op_ok (x := .int v.1) (y := .int 0) (ix_0 (v := v) rfl) rfl (by rw [eq_ii, beq_t y.1]))).trans ?_
      exact op_ok (x := .int v.2.1) (y := .int 0) (ix_1 (v := v) rfl) rfl (by show some (Dat.bl (decide ((0 : Int) < v.2.1))) = _; rw [decide_eq_true y.2])
/-! ### point and line -/
theorem point_eq {v : T3} (h : v.2.2 ≠ 0) (hb : Bt 8000 v) : D_point [.int v.1, .int v.2.1, .int v.2.2] = .ok (tD (ptN v)) := by
  have hv : v ≠ (0, 0, 0) := fun e => h (by rw [e])
  have ht : ∀ ρ : DEnv, ρ[0]? = some (some (.int v.1)) → ρ[1]? = some (some (.int v.2.1)) → ρ[2]? = some (some (.int v.2.2)) → vTup (aCons (vVar 0) (aCons (vVar 1) (aCons (vVar 2) (aNil)))) ρ = .ok (tD v) := fun ρ a b c =>
    tup_3 (by unfold vVar; rw [a]) (by unfold vVar; rw [b]) (by unfold vVar; rw [c])
  have hd := divisor_eq (Bt_le hb (by decide))
  refine run_rt ?_
  refine (seq_nx (ρ' := [some (.int v.1), some (.int v.2.1), some (.int v.2.2), none]) ?_).trans ?_
  · refine (if_f ((or_f (not_ok (b := true) (tru_ok (d := .bl true) (call_ok (l := [tD v]) (ac_ok (ht _ rfl rfl rfl) an_ok) rfl (ints_eq v)) rfl))).trans ?_)).trans rfl
    rw [eq_i (a := v.2.2) (b := 0) rfl rfl, beq_f h]
  refine (seq_nx (ρ' := [some (.int v.1), some (.int v.2.1), some (.int v.2.2), some (.int (byP v))]) ((asg_ok (d := .int (byP v)) ?_).trans rfl)).trans (ret_ok ?_)
  · have hg := gt_i (f := vVar 2) (g := vC (.int 0)) (ρ := [some (.int v.1), some (.int v.2.1), some (.int v.2.2), none]) (a := v.2.2) (b := 0) rfl rfl
    unfold byP
    by_cases z : 0 < v.2.2
    · rw [decide_eq_true z] at hg
      rw [if_pos z]
      exact (vif_t hg).trans (call_ok (l := [tD v]) (ac_ok (ht _ rfl rfl rfl) an_ok) rfl hd)
    · rw [decide_eq_false z] at hg
      rw [if_neg z]
      exact (vif_f hg).trans (sub_i (a := 0) (b := ((gc v : Nat) : Int)) rfl (call_ok (l := [tD v]) (ac_ok (ht _ rfl rfl rfl) an_ok) rfl hd))
  · have hk := byP_ne h
    have hl : (byP v).natAbs.log2 < 9000 := by rw [byP_abs]; exact gc_log hb hv
    exact tup_3 (op_ok (x := .int v.1) (y := .int (byP v)) rfl rfl (fdx hk hl)) (op_ok (x := .int v.2.1) (y := .int (byP v)) rfl rfl (fdx hk hl)) (op_ok (x := .int v.2.2) (y := .int (byP v)) rfl rfl (fdx hk hl))
theorem line_eq {v : T3} (h : NzL v) (hb : Bt 8000 v) : D_line [.int v.1, .int v.2.1, .int v.2.2] = .ok (tD (lnN v)) := by
  have hv := h.ne
  have ht : ∀ ρ : DEnv, ρ[0]? = some (some (.int v.1)) → ρ[1]? = some (some (.int v.2.1)) → ρ[2]? = some (some (.int v.2.2)) → vTup (aCons (vVar 0) (aCons (vVar 1) (aCons (vVar 2) (aNil)))) ρ = .ok (tD v) := fun ρ a b c =>
    tup_3 (by unfold vVar; rw [a]) (by unfold vVar; rw [b]) (by unfold vVar; rw [c])
  have hd := divisor_eq (Bt_le hb (by decide))
  refine run_rt ?_
  refine (seq_nx (ρ' := [some (.int v.1), some (.int v.2.1), some (.int v.2.2), none]) ?_).trans ?_
  · refine (if_f ((or_f (not_ok (b := true) (tru_ok (d := .bl true) (call_ok (l := [tD v]) (ac_ok (ht _ rfl rfl rfl) an_ok) rfl (ints_eq v)) rfl))).trans ?_)).trans rfl
    have e1 := eq_i (f := vVar 0) (g := vC (.int 0)) (ρ := startD 4 [.int v.1, .int v.2.1, .int v.2.2]) (a := v.1) (b := 0) rfl rfl
    have e2 := eq_i (f := vVar 1) (g := vC (.int 0)) (ρ := startD 4 [.int v.1, .int v.2.1, .int v.2.2]) (a := v.2.1) (b := 0) rfl rfl
    by_cases z : v.1 = 0
    · rw [beq_t z] at e1
      rw [and_t e1, e2, beq_f (fun y => h ⟨z, y⟩)]
    · rw [beq_f z] at e1
      rw [and_f e1]
  refine (seq_nx (ρ' := [some (.int v.1), some (.int v.2.1), some (.int v.2.2), some (.int (byL v))]) ((asg_ok (d := .int (byL v)) ?_).trans rfl)).trans (ret_ok ?_)
  · have hg := up_eq (f := vVar 0) (g := vVar 1) (ρ := [some (.int v.1), some (.int v.2.1), some (.int v.2.2), none]) (v := v) rfl rfl
    unfold byL
    by_cases z : Up v
    · rw [decide_eq_true z] at hg
      rw [if_pos z]
      exact (vif_t hg).trans (call_ok (l := [tD v]) (ac_ok (ht _ rfl rfl rfl) an_ok) rfl hd)
    · rw [decide_eq_false z] at hg
      rw [if_neg z]
      exact (vif_f hg).trans (sub_i (a := 0) (b := ((gc v : Nat) : Int)) rfl (call_ok (l := [tD v]) (ac_ok (ht _ rfl rfl rfl) an_ok) rfl hd))
  · have hk := byL_ne h
    have hl : (byL v).natAbs.log2 < 9000 := by rw [byL_abs]; exact gc_log hb hv
    exact tup_3 (op_ok (x := .int v.1) (y := .int (byL v)) rfl rfl (fdx hk hl)) (op_ok (x := .int v.2.1) (y := .int (byL v)) rfl rfl (fdx hk hl)) (op_ok (x := .int v.2.2) (y := .int (byL v)) rfl rfl (fdx hk hl))
/-! ### checks -/
theorem chp_eq {p : T3} (h : IsPt p) (hb : Bt 8000 p) : D_check_points [.lst [tD p]] = .ok .non := by
  refine run_nx (ρ := [some (.lst [tD p]), none]) ((if_f (not_ok (b := true) (tru_ok (d := .bl true) (cb_ok (ac_ok (vl_ok (l := [.bl true]) ?_) an_ok) rfl) rfl))).trans rfl)
  exact lc_ok (l := [p].map tD) rfl (by show 1 ≤ _; decide) (lcL_of (g := fun _ => Dat.bl true) (l := [p]) fun v hv => ⟨_, rfl, by
    rw [List.mem_singleton] at hv
    rw [hv]
    exact call_ok (l := [tD p]) rfl rfl (is_point_eq h hb)⟩)
theorem chl_eq {l : List T3} (hl : l.length ≤ 2) (h : ∀ v ∈ l, IsLn v ∧ Bt 8000 v) : D_check_lines [.lst (l.map tD)] = .ok .non := by
  refine run_nx (ρ := [some (.lst (l.map tD)), none]) ((if_f (not_ok (b := true) (tru_ok (d := .bl true) (cb_ok (ac_ok (vl_ok (l := l.map fun _ => .bl true) ?_) an_ok) ?_) rfl))).trans rfl)
  · exact lc_ok (l := l.map tD) rfl (by rw [List.length_map]; omega) (lcL_of (g := fun _ => Dat.bl true) (l := l) fun v hv => ⟨_, rfl, call_ok (l := [tD v]) rfl rfl (is_line_eq (h v hv).1 (h v hv).2)⟩)
  · match l, hl with
    | [], _ => rfl
    | [_], _ => rfl
    | [_, _], _ => rfl
theorem side_eq {p l : T3} {n : Nat} (hn : n ≤ 8000) (hp : Bt n p) (hl : Bt n l) : D_side_of [tD p, tD l] = .ok (.int (sdT p l)) := by
  have le : n ≤ 400000 := by omega
  refine run_rt (ret_ok (sub_i (add_i (mul_i (ix_0 (v := l) rfl) (ix_0 (v := p) rfl) (mok (B_le hl.1 le) (B_le hp.1 le))) (mul_i (ix_1 (v := l) rfl) (ix_1 (v := p) rfl) (mok (B_le hl.2.1 le) (B_le hp.2.1 le)))) (mul_i (ix_2 (v := l) rfl) (ix_2 (v := p) rfl) (mok (B_le hl.2.2 le) (B_le hp.2.2 le)))))
theorem sdT_B {p l : T3} {n : Nat} (hp : Bt n p) (hl : Bt n l) : B (2 * n + 2) (sdT p l) := B_le (B_sub (B_add (B_mul hl.1 hp.1) (B_mul hl.2.1 hp.2.1)) (B_mul hl.2.2 hp.2.2)) (by omega)
theorem sqL_B {l : T3} {n : Nat} (hl : Bt n l) : B (2 * n + 1) (sqL l) := B_le (B_add (B_mul hl.1 hl.1) (B_mul hl.2.1 hl.2.1)) (by omega)
theorem mir_B {p l : T3} {n : Nat} (hp : Bt n p) (hl : Bt n l) : Bt (3 * n + 5) (mir p l) := by
  have s := sdT_B hp hl
  have q := sqL_B hl
  refine ⟨B_le (B_sub (B_mul hp.1 q) (B_mul (B_mul B_two hl.1) s)) (by omega), B_le (B_sub (B_mul hp.2.1 q) (B_mul (B_mul B_two hl.2.1) s)) (by omega), B_le (B_mul hp.2.2 q) (by omega)⟩
theorem ptN_B {v : T3} {n : Nat} (h : v.2.2 ≠ 0) (hb : Bt n v) : Bt n (ptN v) := Bt_of_sm (ptN_sm v) (byP_ne h) hb
theorem lnN_B {v : T3} {n : Nat} (h : NzL v) (hb : Bt n v) : Bt n (lnN v) := Bt_of_sm (lnN_sm v) (byL_ne h) hb
theorem mirror_B {p l : T3} {n : Nat} (h1 : IsPt p) (h2 : IsLn l) (hp : Bt n p) (hl : Bt n l) : Bt (3 * n + 5) (mirror p l) := ptN_B (by have := mir_w h1.1 h2.nz; omega) (mir_B hp hl)
theorem mirrored_eq {p l : T3} {n : Nat} (h1 : IsPt p) (h2 : IsLn l) (hn : 3 * n + 5 ≤ 8000) (hp : Bt n p) (hl : Bt n l) : D_mirrored [tD p, tD l] = .ok (tD (mirror p l)) := by
  have le : n ≤ 400000 := by omega
  have s := sdT_B hp hl
  have q := sqL_B hl
  refine run_rt ?_
  refine (seq_nx (ρ' := [some (tD p), some (tD l), none, none]) (drop_ok (call_ok (l := [.lst [tD p]]) rfl rfl (chp_eq h1 (Bt_le hp (by omega)))))).trans ?_
  refine (seq_nx (ρ' := [some (tD p), some (tD l), none, none]) (drop_ok (call_ok (l := [.lst ([l].map tD)]) rfl rfl (chl_eq (l := [l]) (by show 1 ≤ 2; decide) fun v hv => by rw [List.mem_singleton] at hv; rw [hv]; exact ⟨h2, Bt_le hl (by omega)⟩)))).trans ?_
  refine (seq_nx (ρ' := [some (tD p), some (tD l), some (.int (sqL l)), none]) ((asg_ok (add_i (mul_i (ix_0 (v := l) rfl) (ix_0 (v := l) rfl) (mok (B_le hl.1 le) (B_le hl.1 le))) (mul_i (ix_1 (v := l) rfl) (ix_1 (v := l) rfl) (mok (B_le hl.2.1 le) (B_le hl.2.1 le))))).trans rfl)).trans ?_
  refine (seq_nx (ρ' := [some (tD p), some (tD l), some (.int (sqL l)), some (.int (sdT p l))]) ((asg_ok (call_ok (l := [tD p, tD l]) rfl rfl (side_eq (by omega) hp hl))).trans rfl)).trans (ret_ok ?_)
  have hb : Bt 8000 (mir p l) := Bt_le (mir_B hp hl) (by omega)
  refine call_ok (l := [.int (mir p l).1, .int (mir p l).2.1, .int (mir p l).2.2]) ?_ rfl (point_eq (by have := mir_w h1.1 h2.nz; omega) hb)
  have m1 : mulOk 2 l.1 = true := mok (B_le B_two (by decide)) (B_le hl.1 le)
  have m2 : mulOk 2 l.2.1 = true := mok (B_le B_two (by decide)) (B_le hl.2.1 le)
  refine ac_ok (sub_i (mul_i (ix_0 (v := p) rfl) rfl (mok (B_le hp.1 le) (B_le q (by omega)))) (mul_i (mul_i rfl (ix_0 (v := l) rfl) m1) rfl (mok (B_le (B_mul B_two hl.1) (by omega)) (B_le s (by omega)))))
    (ac_ok (sub_i (mul_i (ix_1 (v := p) rfl) rfl (mok (B_le hp.2.1 le) (B_le q (by omega)))) (mul_i (mul_i rfl (ix_1 (v := l) rfl) m2) rfl (mok (B_le (B_mul B_two hl.2.1) (by omega)) (B_le s (by omega)))))
    (ac_ok (mul_i (ix_2 (v := p) rfl) rfl (mok (B_le hp.2.2 le) (B_le q (by omega)))) an_ok))
end Lw
namespace Lw
open PySem PySem.Spec PyProof.Rows L2 Dl Pl
theorem lies_eq {p l : T3} {n : Nat} (h1 : IsPt p) (h2 : IsLn l) (hn : n ≤ 8000) (hp : Bt n p) (hl : Bt n l) : D_lies_on [tD p, tD l] = .ok (.bl (sdT p l == 0)) := by
  refine run_rt ?_
  refine (seq_nx (ρ' := [some (tD p), some (tD l)]) (drop_ok (call_ok (l := [.lst [tD p]]) rfl rfl (chp_eq h1 (Bt_le hp (by omega)))))).trans ?_
  refine (seq_nx (ρ' := [some (tD p), some (tD l)]) (drop_ok (call_ok (l := [.lst ([l].map tD)]) rfl rfl (chl_eq (l := [l]) (by show 1 ≤ 2; decide) fun v hv => by rw [List.mem_singleton] at hv; rw [hv]; exact ⟨h2, Bt_le hl (by omega)⟩)))).trans (ret_ok ?_)
  exact op_ok (x := .int (sdT p l)) (y := .int 0) (call_ok (l := [tD p, tD l]) rfl rfl (side_eq hn hp hl)) rfl rfl
theorem jn_B {p q : T3} {n : Nat} (hp : Bt n p) (hq : Bt n q) : Bt (2 * n + 1) (jn p q) :=
  ⟨B_le (B_sub (B_mul hp.2.1 hq.2.2) (B_mul hq.2.1 hp.2.2)) (by omega), B_le (B_sub (B_mul hq.1 hp.2.2) (B_mul hp.1 hq.2.2)) (by omega), B_le (B_sub (B_mul hq.1 hp.2.1) (B_mul hp.1 hq.2.1)) (by omega)⟩
theorem joined_eq {p q : T3} {n : Nat} (hn : 2 * n + 1 ≤ 8000) (hp : Bt n p) (hq : Bt n q) (hz : NzL (jn p q)) : D_joined [tD p, tD q] = .ok (tD (lnN (jn p q))) := by
  have le : n ≤ 400000 := by omega
  have m : ∀ {i j : Int}, B n i → B n j → mulOk i j = true := fun a b => mok (B_le a le) (B_le b le)
  refine run_rt ?_
  refine (seq_nx (ρ' := [some (tD p), some (tD q), some (.int (jn p q).1), none]) ((asg_ok (sub_i (mul_i (ix_1 (v := p) rfl) (ix_2 (v := q) rfl) (m hp.2.1 hq.2.2)) (mul_i (ix_1 (v := q) rfl) (ix_2 (v := p) rfl) (m hq.2.1 hp.2.2)))).trans rfl)).trans ?_
  refine (seq_nx (ρ' := [some (tD p), some (tD q), some (.int (jn p q).1), some (.int (jn p q).2.1)]) ((asg_ok (sub_i (mul_i (ix_0 (v := q) rfl) (ix_2 (v := p) rfl) (m hq.1 hp.2.2)) (mul_i (ix_0 (v := p) rfl) (ix_2 (v := q) rfl) (m hp.1 hq.2.2)))).trans rfl)).trans (ret_ok ?_)
  refine call_ok (l := [.int (jn p q).1, .int (jn p q).2.1, .int (jn p q).2.2]) (ac_ok rfl (ac_ok rfl (ac_ok ?_ an_ok))) rfl (line_eq hz (Bt_le (jn_B hp hq) hn))
  exact sub_i (mul_i (ix_0 (v := q) rfl) (ix_1 (v := p) rfl) (m hq.1 hp.2.1)) (mul_i (ix_0 (v := p) rfl) (ix_1 (v := q) rfl) (m hp.1 hq.2.1))
theorem foot_B {f : T3} {n : Nat} (hf : Bt n f) : Bt (2 * n + 1) (footT f) := ⟨B_le (B_mul hf.1 hf.2.2) (by omega), B_le (B_mul hf.2.1 hf.2.2) (by omega), sqL_B hf⟩
theorem along_B {f P : T3} {n m : Nat} (hf : Bt n f) (hP : Bt m P) : Bt (n + m + 1) (alongT f P) :=
  ⟨B_le (B_sub hP.1 (B_mul hf.2.1 hP.2.2)) (by omega), B_le (B_add hP.2.1 (B_mul hf.1 hP.2.2)) (by omega), B_le hP.2.2 (by omega)⟩
theorem mirrorL_data {f t : T3} {n : Nat} (h1 : IsLn f) (h2 : IsLn t) (hf : Bt n f) (ht : Bt n t) :
    IsPt (ptN (footT f)) ∧ Bt (2 * n + 1) (ptN (footT f)) ∧ (alongT f (ptN (footT f))).2.2 ≠ 0 ∧ IsPt (ptN (alongT f (ptN (footT f)))) ∧ Bt (3 * n + 2) (ptN (alongT f (ptN (footT f)))) ∧ Bt (9 * n + 11) (mirror (ptN (footT f)) t) ∧ Bt (9 * n + 11) (mirror (ptN (alongT f (ptN (footT f)))) t) := by
  have w1 : (footT f).2.2 ≠ 0 := by have := sq_pos h1.nz; show sqL f ≠ 0; omega
  have F := ptN_is w1
  have bF := ptN_B w1 (foot_B hf)
  have w2 : (alongT f (ptN (footT f))).2.2 ≠ 0 := by have := F.1; show (ptN (footT f)).2.2 ≠ 0; omega
  have A := ptN_is w2
  have bA : Bt (3 * n + 2) (ptN (alongT f (ptN (footT f)))) := ptN_B w2 (Bt_le (along_B hf bF) (by omega))
  exact ⟨F, bF, w2, A, bA, Bt_le (mirror_B (n := 3 * n + 2) F h2 (Bt_le bF (by omega)) (Bt_le ht (by omega))) (by omega), Bt_le (mirror_B (n := 3 * n + 2) A h2 bA (Bt_le ht (by omega))) (by omega)⟩
theorem mirrorL_B {f t : T3} {n : Nat} (h1 : IsLn f) (h2 : IsLn t) (hf : Bt n f) (ht : Bt n t) : Bt (18 * n + 23) (mirrorL f t) := by
  obtain ⟨_, _, _, _, _, b1, b2⟩ := mirrorL_data h1 h2 hf ht
  exact lnN_B (mirrorL_nz h1.nz h2.nz) (Bt_le (jn_B b1 b2) (by omega))
theorem mirline_eq {f t : T3} {n : Nat} (h1 : IsLn f) (h2 : IsLn t) (hn : 18 * n + 23 ≤ 8000) (hf : Bt n f) (ht : Bt n t) : D_mirrored_line [tD f, tD t] = .ok (tD (mirrorL f t)) := by
  obtain ⟨F, bF, w2, A, bA, b1, b2⟩ := mirrorL_data h1 h2 hf ht
  have w1 : (footT f).2.2 ≠ 0 := by have := sq_pos h1.nz; show sqL f ≠ 0; omega
  have hz := mirrorL_nz h1.nz h2.nz
  have le : n ≤ 400000 := by omega
  have m : ∀ {i j : Int}, B n i → B n j → mulOk i j = true := fun a b => mok (B_le a le) (B_le b le)
  refine run_rt ?_
  refine (seq_nx (ρ' := [some (tD f), some (tD t), none, none, none]) (drop_ok (call_ok (l := [.lst ([f, t].map tD)]) rfl rfl (chl_eq (l := [f, t]) (by show 2 ≤ 2; decide) fun v hv => by
    rcases List.mem_cons.mp hv with z | z
    · rw [z]; exact ⟨h1, Bt_le hf (by omega)⟩
    · rw [List.mem_singleton] at z; rw [z]; exact ⟨h2, Bt_le ht (by omega)⟩)))).trans ?_
  refine (seq_nx (ρ' := [some (tD f), some (tD t), some (.int (sqL f)), none, none]) ((asg_ok (add_i (mul_i (ix_0 (v := f) rfl) (ix_0 (v := f) rfl) (m hf.1 hf.1)) (mul_i (ix_1 (v := f) rfl) (ix_1 (v := f) rfl) (m hf.2.1 hf.2.1)))).trans rfl)).trans ?_
  refine (seq_nx (ρ' := [some (tD f), some (tD t), some (.int (sqL f)), some (tD (ptN (footT f))), none]) ((asg_ok (call_ok (l := [.int (footT f).1, .int (footT f).2.1, .int (footT f).2.2]) (ac_ok (mul_i (ix_0 (v := f) rfl) (ix_2 (v := f) rfl) (m hf.1 hf.2.2)) (ac_ok (mul_i (ix_1 (v := f) rfl) (ix_2 (v := f) rfl) (m hf.2.1 hf.2.2)) (ac_ok rfl an_ok))) rfl (point_eq w1 (Bt_le (foot_B hf) (by omega))))).trans rfl)).trans ?_
  have hA := point_eq w2 (Bt_le (along_B hf bF) (by omega))
  generalize hP : ptN (footT f) = P at *
  have m2 : mulOk f.2.1 P.2.2 = true := mok (B_le hf.2.1 le) (B_le bF.2.2 (by omega))
  have m3 : mulOk f.1 P.2.2 = true := mok (B_le hf.1 le) (B_le bF.2.2 (by omega))
  refine (seq_nx (ρ' := [some (tD f), some (tD t), some (.int (sqL f)), some (tD P), some (tD (ptN (alongT f P)))]) ((asg_ok (call_ok (l := [.int (alongT f P).1, .int (alongT f P).2.1, .int (alongT f P).2.2]) (ac_ok (sub_i (ix_0 (v := P) rfl) (mul_i (ix_1 (v := f) rfl) (ix_2 (v := P) rfl) m2)) (ac_ok (add_i (ix_1 (v := P) rfl) (mul_i (ix_0 (v := f) rfl) (ix_2 (v := P) rfl) m3)) (ac_ok (ix_2 (v := P) rfl) an_ok))) rfl hA)).trans rfl)).trans (ret_ok ?_)
  have j := joined_eq (p := mirror P t) (q := mirror (ptN (alongT f P)) t) (n := 9 * n + 11) (by omega) b1 b2 hz
  have e : mirrorL f t = lnN (jn (mirror P t) (mirror (ptN (alongT f P)) t)) := by unfold mirrorL; rw [hP]
  rw [e]
  have M1 := mirrored_eq (n := 3 * n + 2) F h2 (by omega) (Bt_le bF (by omega)) (Bt_le ht (by omega))
  have M2 := mirrored_eq (n := 3 * n + 2) A h2 (by omega) bA (Bt_le ht (by omega))
  exact call_ok (l := [tD (mirror P t), tD (mirror (ptN (alongT f P)) t)]) (ac_ok (call_ok (l := [tD P, tD t]) rfl rfl M1) (ac_ok (call_ok (l := [tD (ptN (alongT f P)), tD t]) rfl rfl M2) an_ok)) rfl j
/-! ### cross -/
def crT (f s : T3) : T3 := (f.2.2 * s.2.1 - f.2.1 * s.2.2, f.1 * s.2.2 - f.2.2 * s.1, f.1 * s.2.1 - f.2.1 * s.1)
theorem cr_B {f s : T3} {n : Nat} (hf : Bt n f) (hs : Bt n s) : Bt (2 * n + 1) (crT f s) :=
  ⟨B_le (B_sub (B_mul hf.2.2 hs.2.1) (B_mul hf.2.1 hs.2.2)) (by omega), B_le (B_sub (B_mul hf.1 hs.2.2) (B_mul hf.2.2 hs.1)) (by omega), B_le (B_sub (B_mul hf.1 hs.2.1) (B_mul hf.2.1 hs.1)) (by omega)⟩
theorem cross_eq {f s : T3} {n : Nat} (h1 : IsLn f) (h2 : IsLn s) (hn : 2 * n + 1 ≤ 8000) (hf : Bt n f) (hs : Bt n s) : D_cross [tD f, tD s] = .ok (if (crT f s).2.2 = 0 then .non else tD (ptN (crT f s))) := by
  have le : n ≤ 400000 := by omega
  have m : ∀ {i j : Int}, B n i → B n j → mulOk i j = true := fun a b => mok (B_le a le) (B_le b le)
  refine run_rt ?_
  refine (seq_nx (ρ' := [some (tD f), some (tD s), none]) (drop_ok (call_ok (l := [.lst ([f, s].map tD)]) rfl rfl (chl_eq (l := [f, s]) (by show 2 ≤ 2; decide) fun v hv => by
    rcases List.mem_cons.mp hv with z | z
    · rw [z]; exact ⟨h1, Bt_le hf (by omega)⟩
    · rw [List.mem_singleton] at z; rw [z]; exact ⟨h2, Bt_le hs (by omega)⟩)))).trans ?_
  refine (seq_nx (ρ' := [some (tD f), some (tD s), some (.int (crT f s).2.2)]) ((asg_ok (sub_i (mul_i (ix_0 (v := f) rfl) (ix_1 (v := s) rfl) (m hf.1 hs.2.1)) (mul_i (ix_1 (v := f) rfl) (ix_0 (v := s) rfl) (m hf.2.1 hs.1)))).trans rfl)).trans ?_
  have ht := eq_i (f := vVar 2) (g := vC (.int 0)) (ρ := [some (tD f), some (tD s), some (.int (crT f s).2.2)]) (a := (crT f s).2.2) (b := 0) rfl rfl
  by_cases z : (crT f s).2.2 = 0
  · rw [beq_t z] at ht
    rw [if_pos z]
    exact seq_rt ((if_t ht).trans rfl)
  · rw [beq_f z] at ht
    rw [if_neg z]
    refine (seq_nx ((if_f ht).trans rfl)).trans (ret_ok ?_)
    refine call_ok (l := [.int (crT f s).1, .int (crT f s).2.1, .int (crT f s).2.2]) ?_ rfl (point_eq z (Bt_le (cr_B hf hs) hn))
    exact ac_ok (sub_i (mul_i (ix_2 (v := f) rfl) (ix_1 (v := s) rfl) (m hf.2.2 hs.2.1)) (mul_i (ix_1 (v := f) rfl) (ix_2 (v := s) rfl) (m hf.2.1 hs.2.2))) (ac_ok (sub_i (mul_i (ix_0 (v := f) rfl) (ix_2 (v := s) rfl) (m hf.1 hs.2.2)) (mul_i (ix_2 (v := f) rfl) (ix_0 (v := s) rfl) (m hf.2.2 hs.1))) (ac_ok rfl an_ok))
/-! ### in_sheet -/
def insT (p : T3) : Bool := (decide (0 ≤ p.1) && decide (p.1 ≤ p.2.2)) && (decide (0 ≤ p.2.1) && decide (p.2.1 ≤ p.2.2))
theorem chain_le {f g : DEnv → Res Dat} {ρ : DEnv} {a b : Int} (h : f ρ = .ok (.int a)) (k : g ρ = .ok (.int b)) : vChain leD leD (vC (.int 0)) f g ρ = .ok (.bl (decide (0 ≤ a) && decide (a ≤ b))) := by
  unfold vChain
  show (f ρ).bind _ = _
  rw [h]
  show (ofO (leD (.int 0) (.int a))).bind (vChainK leD g ρ (.int a)) = _
  show vChainK leD g ρ (.int a) (.bl (decide (0 ≤ a))) = _
  cases decide (0 ≤ a) with
  | false => rfl
  | true =>
    show (g ρ).bind (fun w => ofO (leD (.int a) w)) = _
    rw [k]
    rfl
theorem ins_val {f : DEnv → Res Dat} {ρ : DEnv} {p : T3} (h : f ρ = .ok (tD p)) : vAnd (vChain leD leD (vC (.int 0)) (vOp ixD f (vC (.int 0))) (vOp ixD f (vC (.int 2)))) (vChain leD leD (vC (.int 0)) (vOp ixD f (vC (.int 1))) (vOp ixD f (vC (.int 2)))) ρ = .ok (.bl (insT p)) := by
  have c1 := chain_le (ix_0 (v := p) h) (ix_2 (v := p) h)
  have c2 := chain_le (ix_1 (v := p) h) (ix_2 (v := p) h)
  unfold insT
  cases q : (decide (0 ≤ p.1) && decide (p.1 ≤ p.2.2)) with
  | true =>
    rw [q] at c1
    rw [vand_t c1, c2, Bool.true_and]
  | false =>
    rw [q] at c1
    rw [vand_f c1, Bool.false_and]
theorem ins_eq {p : T3} (h1 : IsPt p) (hp : Bt 8000 p) : D_in_sheet [tD p] = .ok (.bl (insT p)) := by
  refine run_rt ?_
  refine (seq_nx (ρ' := [some (tD p)]) (drop_ok (call_ok (l := [.lst [tD p]]) rfl rfl (chp_eq h1 hp)))).trans (ret_ok (ins_val rfl))
/-! ### the law's own -/
theorem lside_eq {p l : T3} {n : Nat} (hn : n ≤ 8000) (hp : Bt n p) (hl : Bt n l) : D__law_side [tD p, tD l] = .ok (.int (sdT p l)) := by
  have le : n ≤ 400000 := by omega
  refine run_rt (ret_ok (sub_i (add_i (mul_i (ix_0 (v := l) rfl) (ix_0 (v := p) rfl) (mok (B_le hl.1 le) (B_le hp.1 le))) (mul_i (ix_1 (v := l) rfl) (ix_1 (v := p) rfl) (mok (B_le hl.2.1 le) (B_le hp.2.1 le)))) (mul_i (ix_2 (v := l) rfl) (ix_2 (v := p) rfl) (mok (B_le hl.2.2 le) (B_le hp.2.2 le)))))
end Lw
namespace Lw
open PySem PySem.Spec PyProof.Rows L2 Dl Pl
def E2 : DEnv → DFlow := sAsgT (aTup (asCons (aName 2) (asCons (aName 4) (asNil)))) (vTup (aCons (vVar 4) (aCons (vOp modD (vVar 2) (vVar 4)) (aNil))))
def E2t : DEnv → Res Bool := vTest (vOp gtD (vVar 4) (vC (.int 0)))
theorem e2_t {x s y : Option Dat} {a b : Nat} : E2t [x, s, some (.int a), y, some (.int b)] = .ok (decide (0 < b)) := by
  refine (gt_i (a := (b : Int)) (b := 0) rfl rfl).trans ?_
  congr 1
  exact decide_eq_decide.mpr ⟨fun h => by omega, fun h => by omega⟩
theorem e2_step {x s y : Option Dat} {a b : Nat} (hb : 0 < b) : E2 [x, s, some (.int a), y, some (.int b)] = .nx [x, s, some (.int b), y, some (.int ((a % b : Nat) : Int))] :=
  asgT_ok (d := .tup [.int b, .int ((a % b : Nat) : Int)]) (tup_ok (ac_ok rfl (ac_ok (op_ok (x := .int a) (y := .int b) (z := .int ((a % b : Nat) : Int)) rfl rfl (by rw [mod_c (by omega)]; rfl)) an_ok)) (by show 2 ≤ 1000; decide)) rfl
theorem e2_loop {x s y : Option Dat} : ∀ (n a b m : Nat), b < 2 ^ n → 2 * n + 1 ≤ m → whileL E2t E2 m [x, s, some (.int a), y, some (.int b)] = .nx [x, s, some (.int ((Nat.gcd a b : Nat) : Int)), y, some (.int ((0 : Nat) : Int))]
  | n, a, 0, m + 1, _, _ => by
    refine (whileL_f (e2_t.trans rfl)).trans ?_
    rw [Nat.gcd_zero_right]
  | 0, a, b + 1, m, h, _ => by rw [Nat.pow_zero] at h; omega
  | n + 1, a, b + 1, m + 1, h, hm => by
    refine (whileL_t (e2_t.trans (by rw [decide_eq_true (Nat.succ_pos b)])) (e2_step (Nat.succ_pos b))).trans ?_
    cases hr : a % (b + 1) with
    | zero =>
      obtain ⟨m', rfl⟩ : ∃ m', m = m' + 1 := ⟨m - 1, by omega⟩
      refine (whileL_f (e2_t.trans rfl)).trans ?_
      rw [Nat.gcd_comm a (b + 1), Nat.gcd_rec, hr, Nat.gcd_zero_left]
    | succ r =>
      obtain ⟨m', rfl⟩ : ∃ m', m = m' + 1 := ⟨m - 1, by omega⟩
      refine (whileL_t (e2_t.trans (by rw [decide_eq_true (Nat.succ_pos r)])) (e2_step (Nat.succ_pos r))).trans ?_
      have hh := mod_half (a := a) (b := b + 1) (by omega) (Nat.succ_pos b)
      rw [hr] at hh
      rw [e2_loop n (r + 1) ((b + 1) % (r + 1)) m' (by rw [Nat.pow_succ] at h; omega) (by omega)]
      rw [Nat.gcd_comm a (b + 1), Nat.gcd_rec (b + 1) a, hr, Nat.gcd_rec (r + 1) (b + 1), Nat.gcd_comm]
theorem e2_turn {x s z : Option Dat} {a : Nat} {i : Int} (h : B 400000 i) : sSeq (sAsg 4 (vCB absD (aCons (vVar 3) (aNil)))) (sWhile 1000000 E2t E2) [x, s, some (.int a), some (.int i), z] = .nx [x, s, some (.int ((Nat.gcd a i.natAbs : Nat) : Int)), some (.int i), some (.int ((0 : Nat) : Int))] := by
  refine (seq_nx (ρ' := [x, s, some (.int a), some (.int i), some (.int ((i.natAbs : Nat) : Int))]) ((asg_ok (cb_ok (ac_ok (x := .int i) rfl an_ok) (abs_nat i))).trans rfl)).trans ?_
  exact e2_loop 400000 a i.natAbs 1000000 h (by decide)
theorem fdiv_sign {a g s : Int} (hd : g ∣ a) (hs : s = 1 ∨ s = -1) (hg : g ≠ 0) : a.fdiv g * s = a.fdiv (s * g) := by
  obtain ⟨b, rfl⟩ := hd
  rw [Int.mul_fdiv_cancel_left b hg]
  rcases hs with rfl | rfl
  · rw [Int.one_mul, Int.mul_fdiv_cancel_left b hg, Int.mul_one]
  · rw [show g * b = (-1 * g) * (-b) by grind, Int.mul_fdiv_cancel_left _ (by omega)]
    omega
theorem low_eq {v : T3} {s : Int} (h : Bt 8000 v) (hv : v ≠ (0, 0, 0)) (hs : s = 1 ∨ s = -1) : D__law_lowest [tD v, .int s] = .ok (tD (dvt v (s * (gc v : Int)))) := by
  obtain ⟨x, y, w⟩ := v
  have hp := gc_pos hv
  have hd := gc_dvd (x, y, w)
  have hl := gc_log h hv
  obtain ⟨h1, h2, h3⟩ := Bt_le h (show 8000 ≤ 400000 by decide)
  obtain ⟨G, hG⟩ : ∃ G, G = gc (x, y, w) := ⟨_, rfl⟩
  rw [← hG] at hp hd hl ⊢
  refine run_rt ?_
  refine (seq_nx (ρ' := [some (tD (x, y, w)), some (.int s), some (.int ((0 : Nat) : Int)), none, none]) rfl).trans ?_
  refine (seq_nx (ρ' := [some (tD (x, y, w)), some (.int s), some (.int (G : Int)), some (.int w), some (.int ((0 : Nat) : Int))]) ?_).trans ?_
  · refine (for_ok (l := [.int x, .int y, .int w]) rfl).trans ?_
    have t := fun (u : Option Dat) (a : Nat) (i : Int) (hi : B 400000 i) => e2_turn (x := some (tD (x, y, w))) (s := some (.int s)) (z := u) (a := a) hi
    have step : ∀ (i : Int) (r : List Dat) (a : Nat) (u z : Option Dat), B 400000 i → forL (aName 3) (sSeq (sAsg 4 (vCB absD (aCons (vVar 3) (aNil)))) (sWhile 1000000 E2t E2)) (.int i :: r) [some (tD (x, y, w)), some (.int s), some (.int a), u, z] = forL (aName 3) (sSeq (sAsg 4 (vCB absD (aCons (vVar 3) (aNil)))) (sWhile 1000000 E2t E2)) r [some (tD (x, y, w)), some (.int s), some (.int ((Nat.gcd a i.natAbs : Nat) : Int)), some (.int i), some (.int ((0 : Nat) : Int))] := by
      intro i r a u z hi
      show (match sSeq (sAsg 4 (vCB absD (aCons (vVar 3) (aNil)))) (sWhile 1000000 E2t E2) [some (tD (x, y, w)), some (.int s), some (.int a), some (.int i), z] with | .nx ρ2 => forL (aName 3) (sSeq (sAsg 4 (vCB absD (aCons (vVar 3) (aNil)))) (sWhile 1000000 E2t E2)) r ρ2 | .ct ρ2 => forL (aName 3) (sSeq (sAsg 4 (vCB absD (aCons (vVar 3) (aNil)))) (sWhile 1000000 E2t E2)) r ρ2 | .bk ρ2 => .nx ρ2 | f => f) = _
      rw [t z a i hi]
    refine (step x _ 0 none none h1).trans ((step y _ _ _ _ h2).trans ((step w _ _ _ _ h3).trans ?_))
    rw [Nat.gcd_zero_left, hG]
    rfl
  · refine ret_ok (cb_ok (ac_ok (vl_ok (l := [x, y, w].map fun i : Int => Dat.int (i.fdiv (s * (G : Int)))) ?_) an_ok) rfl)
    refine lc_ok (l := [x, y, w].map Dat.int) rfl (by show 3 ≤ _; decide) (lcL_of (g := fun i : Int => Dat.int (i.fdiv (s * (G : Int)))) (l := [x, y, w]) fun i hi => ?_)
    refine ⟨[some (tD (x, y, w)), some (.int s), some (.int (G : Int)), some (.int i), some (.int ((0 : Nat) : Int))], rfl, ?_⟩
    have hb : (G : Int) ∣ i ∧ B 400000 i := by
      simp only [List.mem_cons, List.not_mem_nil, or_false] at hi
      rcases hi with rfl | rfl | rfl
      · exact ⟨hd.1, h1⟩
      · exact ⟨hd.2.1, h2⟩
      · exact ⟨hd.2.2, h3⟩
    have hg0 : (G : Int) ≠ 0 := by omega
    have m : mulOk (i.fdiv (G : Int)) s = true := by
      refine mok (B_of_mul (fdiv_mul hb.1) hg0 hb.2) (B_le (m := 2) ?_ (by decide))
      rcases hs with rfl | rfl <;> (unfold B; decide)
    rw [← fdiv_sign hb.1 hs hg0]
    exact mul_i (op_ok (x := .int i) (y := .int (G : Int)) rfl rfl (fdx hg0 (by rw [Int.natAbs_natCast]; exact hl))) rfl m
theorem lpoint_eq {v : T3} (h : v.2.2 ≠ 0) (hb : Bt 8000 v) : D__law_point [.int v.1, .int v.2.1, .int v.2.2] = .ok (tD (ptN v)) := by
  have hv : v ≠ (0, 0, 0) := fun e => h (by rw [e])
  refine run_rt (ret_ok ?_)
  have hg := gt_i (f := vVar 2) (g := vC (.int 0)) (ρ := startD 3 [.int v.1, .int v.2.1, .int v.2.2]) (a := v.2.2) (b := 0) rfl rfl
  unfold ptN byP
  by_cases z : 0 < v.2.2
  · rw [decide_eq_true z] at hg
    have l := low_eq hb hv (s := 1) (.inl rfl)
    rw [if_pos z]
    rw [Int.one_mul] at l
    exact call_ok (l := [tD v, .int 1]) (ac_ok (tup_3 rfl rfl rfl) (ac_ok ((vif_t hg).trans rfl) an_ok)) rfl l
  · rw [decide_eq_false z] at hg
    have l := low_eq hb hv (s := -1) (.inr rfl)
    rw [if_neg z]
    rw [show -1 * (gc v : Int) = 0 - (gc v : Int) by omega] at l
    exact call_ok (l := [tD v, .int (-1)]) (ac_ok (tup_3 rfl rfl rfl) (ac_ok ((vif_f hg).trans rfl) an_ok)) rfl l
theorem lline_eq {v : T3} (h : NzL v) (hb : Bt 8000 v) : D__law_line [.int v.1, .int v.2.1, .int v.2.2] = .ok (tD (lnN v)) := by
  have hv := h.ne
  refine run_rt (ret_ok ?_)
  have hg := up_eq (f := vVar 0) (g := vVar 1) (ρ := startD 3 [.int v.1, .int v.2.1, .int v.2.2]) (v := v) rfl rfl
  unfold lnN byL
  by_cases z : Up v
  · rw [decide_eq_true z] at hg
    have l := low_eq hb hv (s := 1) (.inl rfl)
    rw [if_pos z]
    rw [Int.one_mul] at l
    exact call_ok (l := [tD v, .int 1]) (ac_ok (tup_3 rfl rfl rfl) (ac_ok ((vif_t hg).trans rfl) an_ok)) rfl l
  · rw [decide_eq_false z] at hg
    have l := low_eq hb hv (s := -1) (.inr rfl)
    rw [if_neg z]
    rw [show -1 * (gc v : Int) = 0 - (gc v : Int) by omega] at l
    exact call_ok (l := [tD v, .int (-1)]) (ac_ok (tup_3 rfl rfl rfl) (ac_ok ((vif_f hg).trans rfl) an_ok)) rfl l
/-! ### the point between -/
def btT (p q : T3) : T3 := (p.1 * q.2.2 + q.1 * p.2.2, p.2.1 * q.2.2 + q.2.1 * p.2.2, 2 * p.2.2 * q.2.2)
theorem bt_B {p q : T3} {n : Nat} (hp : Bt n p) (hq : Bt n q) : Bt (2 * n + 2) (btT p q) :=
  ⟨B_le (B_add (B_mul hp.1 hq.2.2) (B_mul hq.1 hp.2.2)) (by omega), B_le (B_add (B_mul hp.2.1 hq.2.2) (B_mul hq.2.1 hp.2.2)) (by omega), B_le (B_mul (B_mul B_two hp.2.2) hq.2.2) (by omega)⟩
theorem between_eq {p q : T3} {n : Nat} (h1 : IsPt p) (h2 : IsPt q) (hn : 2 * n + 2 ≤ 8000) (hp : Bt n p) (hq : Bt n q) : D__law_between [tD p, tD q] = .ok (tD (ptN (btT p q))) := by
  have le : n ≤ 400000 := by omega
  have m : ∀ {i j : Int}, B n i → B n j → mulOk i j = true := fun a b => mok (B_le a le) (B_le b le)
  have hw : (btT p q).2.2 ≠ 0 := Int.mul_ne_zero (Int.mul_ne_zero (by decide) (by have := h1.1; omega)) (by have := h2.1; omega)
  refine run_rt (ret_ok (call_ok (l := [.int (btT p q).1, .int (btT p q).2.1, .int (btT p q).2.2]) ?_ rfl (lpoint_eq hw (Bt_le (bt_B hp hq) hn))))
  exact ac_ok (add_i (mul_i (ix_0 (v := p) rfl) (ix_2 (v := q) rfl) (m hp.1 hq.2.2)) (mul_i (ix_0 (v := q) rfl) (ix_2 (v := p) rfl) (m hq.1 hp.2.2)))
    (ac_ok (add_i (mul_i (ix_1 (v := p) rfl) (ix_2 (v := q) rfl) (m hp.2.1 hq.2.2)) (mul_i (ix_1 (v := q) rfl) (ix_2 (v := p) rfl) (m hq.2.1 hp.2.2)))
    (ac_ok (mul_i (mul_i rfl (ix_2 (v := p) rfl) (mok (B_le B_two (by decide)) (B_le hp.2.2 le))) (ix_2 (v := q) rfl) (mok (B_le (B_mul B_two hp.2.2) (by omega)) (B_le hq.2.2 le))) an_ok))
theorem side_sm (k : Int) (p l : T3) : sdT (sm k p) l = k * sdT p l := by
  obtain ⟨x, y, w⟩ := p
  obtain ⟨a, b, c⟩ := l
  simp only [sdT, sm]
  grind
theorem side_smr (k : Int) (p l : T3) : sdT p (sm k l) = k * sdT p l := by
  obtain ⟨x, y, w⟩ := p
  obtain ⟨a, b, c⟩ := l
  simp only [sdT, sm]
  grind
theorem bt_sm (k : Int) (p q : T3) : btT p (sm k q) = sm k (btT p q) := by
  obtain ⟨x, y, w⟩ := p
  obtain ⟨a, b, c⟩ := q
  simp only [btT, sm, Prod.mk.injEq]
  refine ⟨?_, ?_, ?_⟩ <;> grind
theorem bt_mir (p l : T3) : sdT (btT p (mir p l)) l = 0 := by
  obtain ⟨x, y, w⟩ := p
  obtain ⟨a, b, c⟩ := l
  simp only [sdT, btT, mir, sqL]
  grind
theorem zero_of_mul {k a : Int} (hk : k ≠ 0) (h : k * a = 0) : a = 0 := (Int.mul_eq_zero.mp h).resolve_left hk
theorem bt_side {p l : T3} (hp : IsPt p) (hl : NzL l) : sdT (ptN (btT p (mirror p l))) l = 0 := by
  have q := mirror_is hp.1 hl
  have w1 : (mir p l).2.2 ≠ 0 := by have := mir_w hp.1 hl; omega
  have hw : (btT p (mirror p l)).2.2 ≠ 0 := Int.mul_ne_zero (Int.mul_ne_zero (by decide) (by have := hp.1; omega)) (by have := q.1; omega)
  have e1 : sm (byP (mir p l)) (mirror p l) = mir p l := ptN_sm _
  refine zero_of_mul (byP_ne hw) ?_
  rw [← side_sm, ptN_sm]
  refine zero_of_mul (byP_ne w1) ?_
  rw [← side_sm, ← bt_sm, e1, bt_mir]
def acT (p q : T3) : Int × Int := (q.1 * p.2.2 - p.1 * q.2.2, q.2.1 * p.2.2 - p.2.1 * q.2.2)
theorem ac_mir (x y w a b c : Int) : (acT (x, y, w) (mir (x, y, w) (a, b, c))).1 * b = (acT (x, y, w) (mir (x, y, w) (a, b, c))).2 * a := by
  simp only [acT, mir, sqL, sdT]
  grind
theorem ac_eq {p l : T3} (hp : IsPt p) (hl : NzL l) : (acT p (mirror p l)).1 * l.2.1 = (acT p (mirror p l)).2 * l.1 := by
  have w1 : (mir p l).2.2 ≠ 0 := by have := mir_w hp.1 hl; omega
  have e1 : sm (byP (mir p l)) (mirror p l) = mir p l := ptN_sm _
  have a := ac_mir p.1 p.2.1 p.2.2 l.1 l.2.1 l.2.2
  have a : (acT p (mir p l)).1 * l.2.1 = (acT p (mir p l)).2 * l.1 := a
  rw [← e1] at a
  have k := byP_ne w1
  generalize byP (mir p l) = g at *
  generalize mirror p l = q at *
  refine Int.eq_of_mul_eq_mul_left k ?_
  simp only [acT, sm] at a ⊢
  grind
end Lw
namespace Lw
open PySem PySem.Spec PyProof.Rows L2 Dl Pl
def pD (a b : Int) : Dat := .tup [.int a, .int b]
theorem ixp_0 {f : DEnv → Res Dat} {ρ : DEnv} {a b : Int} (h : f ρ = .ok (pD a b)) : vOp ixD f (vC (.int 0)) ρ = .ok (.int a) := op_ok (f2 := vC (.int 0)) h rfl rfl
theorem ixp_1 {f : DEnv → Res Dat} {ρ : DEnv} {a b : Int} (h : f ρ = .ok (pD a b)) : vOp ixD f (vC (.int 1)) ρ = .ok (.int b) := op_ok (f2 := vC (.int 1)) h rfl rfl
theorem ismir_eq {p l : T3} {n : Nat} (h1 : IsPt p) (h2 : IsLn l) (hn : 9 * n + 30 ≤ 8000) (hp : Bt n p) (hl : Bt n l) : D__law_is_mirrored [tD p, tD l, tD (mirror p l)] = .ok (.bl true) := by
  have hq := mirror_is h1.1 h2.nz
  have bq := mirror_B h1 h2 hp hl
  have hs := bt_side h1 h2.nz
  have hac := ac_eq h1 h2.nz
  have hpt := is_point_eq hq (Bt_le bq (by omega))
  have hbt := between_eq (n := 3 * n + 5) h1 hq (by omega) (Bt_le hp (by omega)) bq
  have hwb : (btT p (mirror p l)).2.2 ≠ 0 := Int.mul_ne_zero (Int.mul_ne_zero (by decide) (by have := h1.1; omega)) (by have := hq.1; omega)
  have bb : Bt (6 * n + 12) (ptN (btT p (mirror p l))) := ptN_B hwb (Bt_le (bt_B (Bt_le hp (show n ≤ 3 * n + 5 by omega)) bq) (by omega))
  have hsd := lside_eq (n := 6 * n + 12) (by omega) bb (Bt_le hl (by omega))
  rw [hs] at hsd
  generalize mirror p l = q at *
  have le : 3 * n + 5 ≤ 400000 := by omega
  have hp' := Bt_le hp (show n ≤ 3 * n + 5 by omega)
  have m : ∀ {i j : Int}, B (3 * n + 5) i → B (3 * n + 5) j → mulOk i j = true := fun a b => mok (B_le a le) (B_le b le)
  have bac : B (6 * n + 12) (acT p q).1 ∧ B (6 * n + 12) (acT p q).2 := ⟨B_le (B_sub (B_mul bq.1 hp'.2.2) (B_mul hp'.1 bq.2.2)) (by omega), B_le (B_sub (B_mul bq.2.1 hp'.2.2) (B_mul hp'.2.1 bq.2.2)) (by omega)⟩
  refine run_rt ?_
  refine (seq_nx (ρ' := [some (tD p), some (tD l), some (tD q), none]) ?_).trans ?_
  · refine (if_f ((or_f (not_ok (b := true) (tru_ok (d := .bl true) (call_ok (l := [tD q]) rfl rfl hpt) rfl))).trans ?_)).trans rfl
    exact ne_i (a := 0) (b := 0) (call_ok (l := [tD (ptN (btT p q)), tD l]) (ac_ok (call_ok (l := [tD p, tD q]) rfl rfl hbt) (ac_ok rfl an_ok)) rfl hsd) rfl
  refine (seq_nx (ρ' := [some (tD p), some (tD l), some (tD q), some (pD (acT p q).1 (acT p q).2)]) ((asg_ok (tup_ok (ac_ok (sub_i (mul_i (ix_0 (v := q) rfl) (ix_2 (v := p) rfl) (m bq.1 hp'.2.2)) (mul_i (ix_0 (v := p) rfl) (ix_2 (v := q) rfl) (m hp'.1 bq.2.2))) (ac_ok (sub_i (mul_i (ix_1 (v := q) rfl) (ix_2 (v := p) rfl) (m bq.2.1 hp'.2.2)) (mul_i (ix_1 (v := p) rfl) (ix_2 (v := q) rfl) (m hp'.2.1 bq.2.2))) an_ok)) (by show 2 ≤ 1000; decide))).trans rfl)).trans (ret_ok ?_)
  refine op_ok (mul_i (ixp_0 (a := (acT p q).1) (b := (acT p q).2) rfl) (ix_1 (v := l) rfl) (mok (B_le bac.1 (by omega)) (B_le hl.2.1 (by omega)))) (mul_i (ixp_1 (a := (acT p q).1) (b := (acT p q).2) rfl) (ix_0 (v := l) rfl) (mok (B_le bac.2 (by omega)) (B_le hl.1 (by omega)))) ?_
  rw [eq_ii, beq_t hac]
/-! ### what is drawn -/
theorem dget {ds : List Int} {j : Nat} {i : Int} (e : i = j) (h : j < ds.length) : ixD (.lst (ds.map .int)) (.int i) = some (.int ds[j]) := by
  show atI (ds.map Dat.int) i = _
  have : atI (ds.map Dat.int) i = (ds.map Dat.int)[j]? := by
    rw [e]
    unfold atI ixN
    rw [if_pos (by omega), if_pos (by rw [List.length_map]; omega), Int.toNat_natCast]
    rfl
  rw [this, List.getElem?_map, List.getElem?_eq_getElem h]
  rfl
theorem drw {ds : List Int} {f g : DEnv → Res Dat} {ρ : DEnv} {i : Int} {j : Nat} (h1 : f ρ = .ok (.lst (ds.map .int))) (h2 : g ρ = .ok (.int i)) (e : i = j) (h : j < ds.length) : vCB intD (aCons (vOp ixD f g) (aNil)) ρ = .ok (.int ds[j]) :=
  cb_ok (l := [.int ds[j]]) (ac_ok (op_ok h1 h2 (dget e h)) an_ok) rfl
theorem mod_i {f g : DEnv → Res Dat} {ρ : DEnv} {a b : Int} (h1 : f ρ = .ok (.int a)) (h2 : g ρ = .ok (.int b)) (hb : 0 < b) : vOp modD f g ρ = .ok (.int (a % b)) := op_ok h1 h2 (mod_c hb)
def wides : List Int := [3, 6, 40, 1000000]
theorem wide_eq (d : Int) : ∃ w : Int, 3 ≤ w ∧ w ≤ 1000000 ∧ ixD (.lst (wides.map .int)) (.int (d % 4)) = some (.int w) := by
  have : d % 4 = 0 ∨ d % 4 = 1 ∨ d % 4 = 2 ∨ d % 4 = 3 := by omega
  rcases this with h | h | h | h <;> rw [h]
  · exact ⟨3, by decide, by decide, rfl⟩
  · exact ⟨6, by decide, by decide, rfl⟩
  · exact ⟨40, by decide, by decide, rfl⟩
  · exact ⟨1000000, by decide, by decide, rfl⟩
theorem pow6 : powD (.int 10) (.int 6) = some (.int 1000000) := by
  show (powI 10 6).map _ = _
  have : powI 10 6 = some 1000000 := by decide +kernel
  rw [this]
  rfl
theorem B_22 {x : Int} (h1 : -2000000 ≤ x) (h2 : x ≤ 2000000) : B 22 x := by unfold B; omega
theorem B_20 {x : Int} (h1 : -1048575 ≤ x) (h2 : x ≤ 1048575) : B 20 x := by unfold B; omega
theorem mkBt {n : Nat} {x y z : Int} (h1 : B n x) (h2 : B n y) (h3 : B n z) : Bt n (x, y, z) := ⟨h1, h2, h3⟩
theorem some_head {ds : List Int} {at_ : Nat} (hat : at_ + 3 < ds.length) {kind : Str} : ∃ w x y z : Int, 3 ≤ w ∧ w ≤ 1000000 ∧ -w ≤ x ∧ x ≤ w ∧ -w ≤ y ∧ y ≤ w ∧ 1 ≤ z ∧ z ≤ w + 1 ∧
    ∀ F, sSeq (sAsg 3 (vOp ixD (vL (fLst (aCons (vC (.int 3)) (aCons (vC (.int 6)) (aCons (vC (.int 40)) (aCons (vOp powD (vC (.int 10)) (vC (.int 6))) (aNil))))))) (vOp modD (vCB intD (aCons (vOp ixD (vVar 0) (vVar 1)) (aNil))) (vC (.int 4))))) (sSeq (sPar3 4 5 6 (vOp subD (vOp modD (vCB intD (aCons (vOp ixD (vVar 0) (vOp addD (vVar 1) (vC (.int 1)))) (aNil))) (vOp addD (vOp mulD (vC (.int 2)) (vVar 3)) (vC (.int 1)))) (vVar 3)) (vOp subD (vOp modD (vCB intD (aCons (vOp ixD (vVar 0) (vOp addD (vVar 1) (vC (.int 2)))) (aNil))) (vOp addD (vOp mulD (vC (.int 2)) (vVar 3)) (vC (.int 1)))) (vVar 3)) (vOp addD (vC (.int 1)) (vOp modD (vCB intD (aCons (vOp ixD (vVar 0) (vOp addD (vVar 1) (vC (.int 3)))) (aNil))) (vOp addD (vVar 3) (vC (.int 1)))))) F) (startD 7 [.lst (ds.map .int), .int (at_ : Int), .str kind]) = F [some (.lst (ds.map .int)), some (.int (at_ : Int)), some (.str kind), some (.int w), some (.int x), some (.int y), some (.int z)] := by
  obtain ⟨w, w1, w2, e⟩ := wide_eq (ds[at_]'(by omega))
  have a1 := Int.emod_nonneg (ds[at_ + 1]'(by omega)) (show (2 * w + 1 : Int) ≠ 0 by omega)
  have a2 := Int.emod_lt_of_pos (ds[at_ + 1]'(by omega)) (show (0 : Int) < 2 * w + 1 by omega)
  have b1 := Int.emod_nonneg (ds[at_ + 2]'(by omega)) (show (2 * w + 1 : Int) ≠ 0 by omega)
  have b2 := Int.emod_lt_of_pos (ds[at_ + 2]'(by omega)) (show (0 : Int) < 2 * w + 1 by omega)
  have c1 := Int.emod_nonneg (ds[at_ + 3]'(by omega)) (show (w + 1 : Int) ≠ 0 by omega)
  have c2 := Int.emod_lt_of_pos (ds[at_ + 3]'(by omega)) (show (0 : Int) < w + 1 by omega)
  refine ⟨w, (ds[at_ + 1]'(by omega)) % (2 * w + 1) - w, (ds[at_ + 2]'(by omega)) % (2 * w + 1) - w, 1 + (ds[at_ + 3]'(by omega)) % (w + 1), w1, w2, by omega, by omega, by omega, by omega, by omega, by omega, fun F => ?_⟩
  refine (seq_nx (ρ' := [some (.lst (ds.map .int)), some (.int (at_ : Int)), some (.str kind), some (.int w), none, none, none]) ((asg_ok (op_ok (x := .lst (wides.map .int)) (vl_ok (lst_ok (l := wides.map .int) (ac_ok rfl (ac_ok rfl (ac_ok rfl (ac_ok (op_ok (x := .int 10) (y := .int 6) rfl rfl pow6) an_ok)))) (by decide))) (mod_i (drw (ds := ds) (j := at_) rfl rfl rfl (by omega)) rfl (by decide)) e)).trans rfl)).trans ?_
  refine seq_nx ?_
  have m2 : mulOk 2 w = true := mok (B_le B_two (by decide)) (B_le (B_22 (by omega) (by omega)) (by decide))
  unfold sPar3
  have h1 : vOp subD (vOp modD (vCB intD (aCons (vOp ixD (vVar 0) (vOp addD (vVar 1) (vC (.int 1)))) (aNil))) (vOp addD (vOp mulD (vC (.int 2)) (vVar 3)) (vC (.int 1)))) (vVar 3) [some (.lst (ds.map .int)), some (.int (at_ : Int)), some (.str kind), some (.int w), none, none, none] = .ok (.int ((ds[at_ + 1]'(by omega)) % (2 * w + 1) - w)) :=
    sub_i (mod_i (drw (ds := ds) (j := at_ + 1) rfl (add_i rfl rfl) (by omega) (by omega)) (add_i (mul_i rfl rfl m2) rfl) (by omega)) rfl
  have h2 : vOp subD (vOp modD (vCB intD (aCons (vOp ixD (vVar 0) (vOp addD (vVar 1) (vC (.int 2)))) (aNil))) (vOp addD (vOp mulD (vC (.int 2)) (vVar 3)) (vC (.int 1)))) (vVar 3) [some (.lst (ds.map .int)), some (.int (at_ : Int)), some (.str kind), some (.int w), none, none, none] = .ok (.int ((ds[at_ + 2]'(by omega)) % (2 * w + 1) - w)) :=
    sub_i (mod_i (drw (ds := ds) (j := at_ + 2) rfl (add_i rfl rfl) (by omega) (by omega)) (add_i (mul_i rfl rfl m2) rfl) (by omega)) rfl
  have h3 : vOp addD (vC (.int 1)) (vOp modD (vCB intD (aCons (vOp ixD (vVar 0) (vOp addD (vVar 1) (vC (.int 3)))) (aNil))) (vOp addD (vVar 3) (vC (.int 1)))) [some (.lst (ds.map .int)), some (.int (at_ : Int)), some (.str kind), some (.int w), none, none, none] = .ok (.int (1 + (ds[at_ + 3]'(by omega)) % (w + 1))) :=
    add_i rfl (mod_i (drw (ds := ds) (j := at_ + 3) rfl (add_i rfl rfl) (by omega) (by omega)) (add_i rfl rfl) (by omega))
  rw [h1]
  show rBind (vOp subD _ _ _) _ _ = _
  rw [h2]
  show rBind (vOp addD _ _ _) _ _ = _
  rw [h3]
  rfl
theorem some_pt {ds : List Int} {at_ : Nat} (hat : at_ + 3 < ds.length) : ∃ p : T3, IsPt p ∧ Bt 22 p ∧ D__law_some [.lst (ds.map .int), .int (at_ : Int), .str "point"] = .ok (tD p) := by
  obtain ⟨w, x, y, z, w1, w2, x1, x2, y1, y2, z1, z2, e⟩ := some_head hat (kind := "point")
  have hb : Bt 22 (x, y, z) := mkBt (B_22 (by omega) (by omega)) (B_22 (by omega) (by omega)) (B_22 (by omega) (by omega))
  have hz : ((x, y, z) : T3).2.2 ≠ 0 := by show z ≠ 0; omega
  refine ⟨ptN (x, y, z), ptN_is hz, ptN_B hz hb, ?_⟩
  refine run_rt ?_
  refine (e _).trans ?_
  refine seq_rt ?_
  have ht : vTest (vOp eqD (vVar 2) (vC (.str "point"))) [some (.lst (ds.map .int)), some (.int (at_ : Int)), some (.str "point"), some (.int w), some (.int x), some (.int y), some (.int z)] = .ok true := test_ok (op_ok (x := .str "point") (y := .str "point") rfl rfl (by kernel_rfl))
  refine (if_t ht).trans (ret_ok ?_)
  exact call_ok (l := [.int x, .int y, .int z]) rfl rfl (lpoint_eq (v := (x, y, z)) hz (Bt_le hb (by decide)))
theorem some_ln {ds : List Int} {at_ : Nat} (hat : at_ + 3 < ds.length) : ∃ l : T3, IsLn l ∧ Bt 20 l ∧ D__law_some [.lst (ds.map .int), .int (at_ : Int), .str "line"] = .ok (tD l) := by
  obtain ⟨w, x, y, z, w1, w2, x1, x2, y1, y2, z1, z2, e⟩ := some_head hat (kind := "line")
  obtain ⟨t, ht⟩ : ∃ t : Bool, t = ((x == 0) && (y == 0)) := ⟨_, rfl⟩
  have hnz : NzL (x, y + (if t then 1 else 0), z - 1 - w / 2) := fun q => by
    obtain ⟨q1, q2⟩ := q
    dsimp only at q1 q2
    by_cases hy : y = 0
    · rw [ht, beq_t q1, beq_t hy, hy] at q2
      exact absurd q2 (by decide)
    · rw [ht, beq_f hy, Bool.and_false] at q2
      exact hy (by simpa using q2)
  have ht2 : (if t then (1 : Int) else 0) = 0 ∨ (if t then (1 : Int) else 0) = 1 := by cases t <;> simp
  have hb : Bt 20 (x, y + (if t then 1 else 0), z - 1 - w / 2) := mkBt (B_20 (by omega) (by omega)) (B_20 (by omega) (by omega)) (B_20 (by omega) (by omega))
  refine ⟨lnN _, lnN_is hnz, lnN_B hnz hb, ?_⟩
  refine run_rt ?_
  refine (e _).trans ?_
  have ht2 : vTest (vOp eqD (vVar 2) (vC (.str "point"))) [some (.lst (ds.map .int)), some (.int (at_ : Int)), some (.str "line"), some (.int w), some (.int x), some (.int y), some (.int z)] = .ok false := test_ok (op_ok (x := .str "line") (y := .str "point") rfl rfl (by kernel_rfl))
  refine (seq_nx ((if_f ht2).trans rfl)).trans (ret_ok ?_)
  refine call_ok (l := [.int x, .int (y + (if t then 1 else 0)), .int (z - 1 - w / 2)]) ?_ rfl (lline_eq hnz (Bt_le hb (by decide)))
  refine ac_ok rfl (ac_ok (add_i rfl (cb_ok (ac_ok (x := .bl t) ?_ an_ok) rfl)) (ac_ok (sub_i (sub_i rfl rfl) (op_ok (x := .int w) (y := .int 2) rfl rfl (fdiv_c (by decide) (by decide)))) an_ok))
  have e1 : vOp eqD (vVar 4) (vC (.int 0)) [some (.lst (ds.map .int)), some (.int (at_ : Int)), some (.str "line"), some (.int w), some (.int x), some (.int y), some (.int z)] = .ok (.bl (x == 0)) := op_ok (x := .int x) (y := .int 0) rfl rfl (eq_ii _ _)
  have e2 : vOp eqD (vVar 5) (vC (.int 0)) [some (.lst (ds.map .int)), some (.int (at_ : Int)), some (.str "line"), some (.int w), some (.int x), some (.int y), some (.int z)] = .ok (.bl (y == 0)) := op_ok (x := .int y) (y := .int 0) rfl rfl (eq_ii _ _)
  rw [ht]
  cases q : (x == 0) with
  | true =>
    rw [q] at e1
    rw [vand_t e1, e2, Bool.true_and]
  | false =>
    rw [q] at e1
    rw [vand_f e1, Bool.false_and]
end Lw
namespace Lw
open PySem PySem.Spec PyProof.Rows L2 Dl Pl
theorem ne_bb (a b : Bool) : neD (.bl a) (.bl b) = some (.bl (!(a == b))) := by cases a <;> cases b <;> kernel_rfl
theorem ne_bs (a : Bool) : neD (.bl a) (.bl a) = some (.bl false) := by cases a <;> kernel_rfl
theorem ne_tD (v : T3) : neD (tD v) (tD v) = some (.bl false) := by
  obtain ⟨x, y, w⟩ := v
  show some (Dat.bl (!((x == x) && ((y == y) && ((w == w) && true))))) = _
  rw [beq_self_eq_true, beq_self_eq_true, beq_self_eq_true]
  rfl
theorem cr_side (f s : T3) : sdT (crT f s) f = 0 ∧ sdT (crT f s) s = 0 := by
  obtain ⟨x, y, w⟩ := f
  obtain ⟨a, b, c⟩ := s
  simp only [sdT, crT]
  constructor <;> grind
theorem crp_side {f s : T3} (h : (crT f s).2.2 ≠ 0) : sdT (ptN (crT f s)) f = 0 ∧ sdT (ptN (crT f s)) s = 0 := by
  have hk := byP_ne h
  have e := cr_side f s
  refine ⟨zero_of_mul hk ?_, zero_of_mul hk ?_⟩
  · rw [← side_sm, ptN_sm, e.1]
  · rw [← side_sm, ptN_sm, e.2]
/-- a point on the line s -/
def onT (k : Int) (s : T3) : T3 := (s.1 * s.2.2 - k * s.2.1, s.2.1 * s.2.2 + k * s.1, sqL s)
theorem on_side (k : Int) (s : T3) : sdT (onT k s) s = 0 := by
  obtain ⟨x, y, w⟩ := s
  simp only [sdT, onT, sqL]
  grind
theorem onp_side {k : Int} {s : T3} (h : NzL s) : sdT (ptN (onT k s)) s = 0 := by
  have w : (onT k s).2.2 ≠ 0 := by have := sq_pos h; show sqL s ≠ 0; omega
  refine zero_of_mul (byP_ne w) ?_
  rw [← side_sm, ptN_sm, on_side]
/-- a point on a line, both mirrored -/
theorem mir_side {p f t : T3} (hp : 0 < p.2.2) (hf : NzL f) (ht : NzL t) (h : sdT p f = 0) : sdT (mirror p t) (mirrorL f t) = 0 := by
  have w : (mir p t).2.2 ≠ 0 := by have := mir_w hp ht; omega
  obtain ⟨k, m, hk, hm, e⟩ := mirrorL_rl hf ht
  refine zero_of_mul (byP_ne w) (zero_of_mul hk ?_)
  rw [← side_sm]
  show k * sdT (sm (byP (mir p t)) (ptN (mir p t))) (mirrorL f t) = 0
  rw [ptN_sm, ← side_smr, e, side_smr, side_mir, h, Int.mul_zero, Int.mul_zero]
theorem on_B {k : Int} {s : T3} (hs : Bt 22 s) (hk : B 1 k) : Bt 46 (onT k s) :=
  ⟨B_le (B_sub (B_mul hs.1 hs.2.2) (B_mul hk hs.2.1)) (by decide), B_le (B_add (B_mul hs.2.1 hs.2.2) (B_mul hk hs.1)) (by decide), B_le (sqL_B hs) (by decide)⟩
def A1 : DEnv → DFlow := sIf (vOrT (vNotT (vTru (vCB allD (aCons (vL (vLc (gSeq (vTup (aCons (vCall 2 D_lies_on (aCons (vVar 0) (aCons (vVar 1) (aNil)))) (aCons (vCall 1 D_in_sheet (aCons (vVar 0) (aNil))) (aNil))))) (aName 5) [5] (tYesD) (v1 (isiD "bool") (vVar 5)))) (aNil))))) (vTest (vOp neD (vCall 2 D_lies_on (aCons (vVar 0) (aCons (vVar 1) (aNil)))) (vOp eqD (vCall 2 D__law_side (aCons (vVar 0) (aCons (vVar 1) (aNil)))) (vC (.int 0)))))) (sRet (vC (.bl false))) (sNop)
theorem a1_eq {p l s : T3} (h1 : IsPt p) (h2 : IsLn l) (hp : Bt 22 p) (hl : Bt 22 l) : A1 [some (tD p), some (tD l), some (tD s), none, none, none, none, none, none] = .nx [some (tD p), some (tD l), some (tD s), none, none, none, none, none, none] := by
  have a := lies_eq h1 h2 (by decide) hp hl
  have b := ins_eq h1 (Bt_le hp (by decide))
  have c := lside_eq (by decide) hp hl
  refine (if_f ((or_f (not_ok (b := true) (tru_ok (d := .bl true) (cb_ok (ac_ok (vl_ok (l := [.bl true, .bl true]) ?_) an_ok) rfl) rfl))).trans ?_)).trans rfl
  · refine lc_ok (l := [.bl (sdT p l == 0), .bl (insT p)]) (gs_ok (tup_ok (ac_ok (call_ok (l := [tD p, tD l]) rfl rfl a) (ac_ok (call_ok (l := [tD p]) rfl rfl b) an_ok)) (by show 2 ≤ 1000; decide)) rfl) (by show 2 ≤ _; decide) ?_
    exact lcL_of (e := fun b : Bool => Dat.bl b) (g := fun _ => Dat.bl true) (l := [sdT p l == 0, insT p]) fun b _ => ⟨_, rfl, v1_ok (x := .bl b) rfl rfl⟩
  · exact test_ok (op_ok (call_ok (l := [tD p, tD l]) rfl rfl a) (op_ok (call_ok (l := [tD p, tD l]) rfl rfl c) rfl (eq_ii _ _)) (ne_bs _))
def A4 : DEnv → DFlow := sIf (vOrT (vTest (vOp neD (vOp isND (vVar 3) (vC .non)) (vOp eqD (vVar 4) (vC (.int 0))))) (vAndT (vTest (vOp notND (vVar 3) (vC .non))) (vOrT (vNotT (vTru (vCall 1 D_is_point (aCons (vVar 3) (aNil))))) (vOrT (vTest (vOp neD (vCall 2 D__law_side (aCons (vVar 3) (aCons (vVar 1) (aNil)))) (vC (.int 0)))) (vTest (vOp neD (vCall 2 D__law_side (aCons (vVar 3) (aCons (vVar 2) (aNil)))) (vC (.int 0)))))))) (sRet (vC (.bl false))) (sNop)
theorem a4_eq {p l s : T3} (h2 : IsLn l) (h3 : IsLn s) (hl : Bt 22 l) (hs : Bt 22 s) : A4 [some (tD p), some (tD l), some (tD s), some (if (crT l s).2.2 = 0 then .non else tD (ptN (crT l s))), some (.int (crT l s).2.2), none, none, none, none] = .nx [some (tD p), some (tD l), some (tD s), some (if (crT l s).2.2 = 0 then .non else tD (ptN (crT l s))), some (.int (crT l s).2.2), none, none, none, none] := by
  by_cases z : (crT l s).2.2 = 0
  · rw [if_pos z, z]
    exact (if_f ((or_f (test_ok (op_ok (x := .bl true) (y := .bl true) rfl (by kernel_rfl) (ne_bs _)))).trans (and_f rfl))).trans rfl
  · rw [if_neg z]
    have hq := ptN_is z
    have bq := ptN_B z (cr_B hl hs)
    obtain ⟨s1, s2⟩ := crp_side z
    have e1 := lside_eq (n := 45) (by decide) (Bt_le bq (by decide)) (Bt_le hl (by decide))
    have e2 := lside_eq (n := 45) (by decide) (Bt_le bq (by decide)) (Bt_le hs (by decide))
    rw [s1] at e1
    rw [s2] at e2
    have ip := is_point_eq hq (Bt_le bq (by decide))
    generalize ptN (crT l s) = q at *
    refine (if_f ((or_f (test_ok (op_ok (x := .bl false) (y := .bl false) rfl (op_ok (x := .int (crT l s).2.2) (y := .int 0) rfl rfl (by rw [eq_ii, beq_f z])) (ne_bs _)))).trans ((and_t rfl).trans ((or_f (not_ok (b := true) (tru_ok (d := .bl true) (call_ok (l := [tD q]) rfl rfl ip) rfl))).trans ((or_f ?_).trans ?_))))).trans rfl
    · exact ne_i (a := 0) (b := 0) (call_ok (l := [tD q, tD l]) rfl rfl e1) rfl
    · exact ne_i (a := 0) (b := 0) (call_ok (l := [tD q, tD s]) rfl rfl e2) rfl
def A7 : DEnv → DFlow := sSeq (sAsg 8 (vCall 3 D__law_point (aCons (vOp subD (vOp mulD (vOp ixD (vVar 2) (vC (.int 0))) (vOp ixD (vVar 2) (vC (.int 2)))) (vOp mulD (vVar 7) (vOp ixD (vVar 2) (vC (.int 1))))) (aCons (vOp addD (vOp mulD (vOp ixD (vVar 2) (vC (.int 1))) (vOp ixD (vVar 2) (vC (.int 2)))) (vOp mulD (vVar 7) (vOp ixD (vVar 2) (vC (.int 0))))) (aCons (vOp addD (vOp mulD (vOp ixD (vVar 2) (vC (.int 0))) (vOp ixD (vVar 2) (vC (.int 0)))) (vOp mulD (vOp ixD (vVar 2) (vC (.int 1))) (vOp ixD (vVar 2) (vC (.int 1))))) (aNil)))))) (sIf (vOrT (vTest (vOp neD (vCall 2 D__law_side (aCons (vVar 8) (aCons (vVar 2) (aNil)))) (vC (.int 0)))) (vTest (vOp neD (vCall 2 D__law_side (aCons (vCall 2 D_mirrored (aCons (vVar 8) (aCons (vVar 1) (aNil)))) (aCons (vVar 6) (aNil)))) (vC (.int 0))))) (sRet (vC (.bl false))) (sNop))
theorem a7_eq {p l s : T3} {x y u w : Option Dat} {k : Int} (h2 : IsLn l) (h3 : IsLn s) (hl : Bt 22 l) (hs : Bt 22 s) (hk : B 1 k) : ∃ w', A7 [some (tD p), some (tD l), some (tD s), x, y, u, some (tD (mirrorL s l)), some (.int k), w] = .nx [some (tD p), some (tD l), some (tD s), x, y, u, some (tD (mirrorL s l)), some (.int k), w'] := by
  have wz : (onT k s).2.2 ≠ 0 := by have := sq_pos h3.nz; show sqL s ≠ 0; omega
  have hq := ptN_is wz
  have bq := ptN_B wz (on_B hs hk)
  have m : ∀ {i j : Int}, B 22 i → B 22 j → mulOk i j = true := fun a b => mok (B_le a (by decide)) (B_le b (by decide))
  have hk' := B_le hk (show 1 ≤ 22 by decide)
  have lp := lpoint_eq wz (Bt_le (on_B hs hk) (by decide))
  have e1 := lside_eq (n := 46) (by decide) bq (Bt_le hs (by decide))
  have z1 := onp_side (k := k) h3.nz
  rw [z1] at e1
  have em := mirrored_eq (n := 46) hq h2 (by decide) bq (Bt_le hl (by decide))
  have e2 := lside_eq (n := 419) (by decide) (Bt_le (mirror_B (n := 46) hq h2 bq (Bt_le hl (by decide))) (by decide)) (Bt_le (mirrorL_B h3 h2 hs hl) (by decide))
  rw [mir_side hq.1 h3.nz h2.nz z1] at e2
  generalize mirrorL s l = o at *
  refine ⟨some (tD (ptN (onT k s))), ?_⟩
  refine (seq_nx (ρ' := [some (tD p), some (tD l), some (tD s), x, y, u, some (tD o), some (.int k), some (tD (ptN (onT k s)))]) ((asg_ok (call_ok (l := [.int (onT k s).1, .int (onT k s).2.1, .int (onT k s).2.2]) (ac_ok (sub_i (mul_i (ix_0 (v := s) rfl) (ix_2 (v := s) rfl) (m hs.1 hs.2.2)) (mul_i rfl (ix_1 (v := s) rfl) (m hk' hs.2.1))) (ac_ok (add_i (mul_i (ix_1 (v := s) rfl) (ix_2 (v := s) rfl) (m hs.2.1 hs.2.2)) (mul_i rfl (ix_0 (v := s) rfl) (m hk' hs.1))) (ac_ok (add_i (mul_i (ix_0 (v := s) rfl) (ix_0 (v := s) rfl) (m hs.1 hs.1)) (mul_i (ix_1 (v := s) rfl) (ix_1 (v := s) rfl) (m hs.2.1 hs.2.1))) an_ok))) rfl lp)).trans rfl)).trans ?_
  generalize ptN (onT k s) = q at *
  refine (if_f ((or_f ?_).trans ?_)).trans rfl
  · exact ne_i (a := 0) (b := 0) (call_ok (l := [tD q, tD s]) rfl rfl e1) rfl
  · exact ne_i (a := 0) (b := 0) (call_ok (l := [tD (mirror q l), tD o]) (ac_ok (call_ok (l := [tD q, tD l]) rfl rfl em) (ac_ok rfl an_ok)) rfl e2) rfl
theorem right_eq {p l s : T3} (h1 : IsPt p) (h2 : IsLn l) (h3 : IsLn s) (hp : Bt 22 p) (hl : Bt 22 l) (hs : Bt 22 s) : D__law_are_right [tD p, tD l, tD s] = .ok (.bl true) := by
  have m : ∀ {i j : Int}, B 22 i → B 22 j → mulOk i j = true := fun a b => mok (B_le a (by decide)) (B_le b (by decide))
  have cr := cross_eq (n := 22) h2 h3 (by decide) hl hs
  have mq := mirrored_eq (n := 22) h1 h2 (by decide) hp hl
  have ml := mirline_eq (n := 22) h3 h2 (by decide) hs hl
  have hq := mirror_is h1.1 h2.nz
  have bq := mirror_B (n := 22) h1 h2 hp hl
  have ho := mirrorL_is h3.nz h2.nz
  have bo := mirrorL_B (n := 22) h3 h2 hs hl
  have im := ismir_eq (n := 22) h1 h2 (by decide) hp hl
  have mq2 := mirrored_eq (n := 71) hq h2 (by decide) bq (Bt_le hl (by decide))
  rw [mirror_twice h1 h2.nz] at mq2
  have ml2 := mirline_eq (n := 419) ho h2 (by decide) bo (Bt_le hl (by decide))
  rw [mirrorL_twice h3 h2.nz] at ml2
  have il := is_line_eq ho (Bt_le bo (by decide))
  have iv := ins_eq h1 (Bt_le hp (by decide))
  refine run_rt ?_
  refine (seq_nx (a1_eq h1 h2 hp hl)).trans ?_
  refine (seq_nx (ρ' := [some (tD p), some (tD l), some (tD s), none, none, none, none, none, none]) ((if_f (test_ok (op_ok (x := .bl (insT p)) (y := .bl (insT p)) (call_ok (l := [tD p]) rfl rfl iv) (ins_val rfl) (ne_bs _)))).trans rfl)).trans ?_
  refine (seq_nx (ρ' := [some (tD p), some (tD l), some (tD s), some (if (crT l s).2.2 = 0 then .non else tD (ptN (crT l s))), some (.int (crT l s).2.2), none, none, none, none]) ?_).trans ?_
  · unfold sPar
    rw [call_ok (l := [tD l, tD s]) (fs := aCons (vVar 1) (aCons (vVar 2) aNil)) (n := 2) (ρ := [some (tD p), some (tD l), some (tD s), none, none, none, none, none, none]) rfl rfl cr]
    show rBind (vOp subD _ _ _) _ _ = _
    rw [sub_i (mul_i (ix_0 (f := vVar 1) (ρ := [some (tD p), some (tD l), some (tD s), none, none, none, none, none, none]) (v := l) rfl) (ix_1 (v := s) rfl) (m hl.1 hs.2.1)) (mul_i (ix_1 (v := l) rfl) (ix_0 (v := s) rfl) (m hl.2.1 hs.1))]
    rfl
  refine (seq_nx (a4_eq h2 h3 hl hs)).trans ?_
  generalize (if (crT l s).2.2 = 0 then Dat.non else tD (ptN (crT l s))) = fo
  generalize (crT l s).2.2 = un
  refine (seq_nx (ρ' := [some (tD p), some (tD l), some (tD s), some fo, some (.int un), some (tD (mirror p l)), some (tD (mirrorL s l)), none, none]) ?_).trans ?_
  · unfold sPar
    rw [call_ok (l := [tD p, tD l]) (fs := aCons (vVar 0) (aCons (vVar 1) aNil)) (n := 2) (ρ := [some (tD p), some (tD l), some (tD s), some fo, some (.int un), none, none, none, none]) rfl rfl mq]
    show rBind (vCall 2 D_mirrored_line _ _) _ _ = _
    rw [call_ok (l := [tD s, tD l]) (n := 2) rfl rfl ml]
    rfl
  refine (seq_nx (ρ' := [some (tD p), some (tD l), some (tD s), some fo, some (.int un), some (tD (mirror p l)), some (tD (mirrorL s l)), none, none]) ?_).trans ?_
  · refine (if_f ((or_f ?_).trans ((or_f ?_).trans ((or_f ?_).trans ?_)))).trans rfl
    · exact not_ok (b := true) (tru_ok (d := .bl true) (call_ok (l := [tD p, tD l, tD (mirror p l)]) rfl rfl im) rfl)
    · exact test_ok (op_ok (call_ok (l := [tD (mirror p l), tD l]) rfl rfl mq2) rfl (ne_tD _))
    · exact test_ok (op_ok (call_ok (l := [tD (mirrorL s l), tD l]) rfl rfl ml2) rfl (ne_tD _))
    · exact not_ok (b := true) (tru_ok (d := .bl true) (call_ok (l := [tD (mirrorL s l)]) rfl rfl il) rfl)
  obtain ⟨ρ', e, x, y, rfl⟩ := forL_inv (asg := aName 7) (F := A7) (l := rng 0 2) (ρ := [some (tD p), some (tD l), some (tD s), some fo, some (.int un), some (tD (mirror p l)), some (tD (mirrorL s l)), none, none]) (fun _ ρ => ∃ x y, ρ = [some (tD p), some (tD l), some (tD s), some fo, some (.int un), some (tD (mirror p l)), some (tD (mirrorL s l)), x, y]) ⟨none, none, rfl⟩ fun k d ρ hk hp' => by
    obtain ⟨x, y, rfl⟩ := hp'
    obtain ⟨hk', rfl⟩ := rng_get hk
    obtain ⟨w', e⟩ := a7_eq (p := p) (x := some fo) (y := some (.int un)) (u := some (tD (mirror p l))) (w := y) (k := 0 + (k : Nat)) h2 h3 hl hs (by unfold B; omega)
    exact ⟨_, _, rfl, .inl e, _, _, rfl⟩
  exact (seq_nx ((for_ok (l := rng 0 2) rfl).trans e)).trans rfl
end Lw
namespace Lw
open PySem PySem.Spec PyProof.Rows L2 Dl Pl
theorem mulN {a b : Nat} (ha : a < 2 ^ 100) (hb : b < 2 ^ 100) : mulD (.int a) (.int b) = some (.int ((a * b : Nat) : Int)) := by
  have h : mulOk (a : Int) (b : Int) = true := mok (B_le (m := 100) (by unfold B; rw [Int.natAbs_natCast]; exact ha) (by decide)) (B_le (m := 100) (by unfold B; rw [Int.natAbs_natCast]; exact hb) (by decide))
  show (if mulOk (a : Int) (b : Int) = true then _ else _) = _
  rw [if_pos h]
  rfl
theorem le_nat {f g : DEnv → Res Dat} {ρ : DEnv} {a b : Nat} (h1 : f ρ = .ok (.int a)) (h2 : g ρ = .ok (.int b)) : vTest (vOp leD f g) ρ = .ok (decide (a ≤ b)) := by
  refine (test_ok (op_ok h1 h2 rfl)).trans ?_
  congr 1
  exact decide_eq_decide.mpr ⟨fun h => by omega, fun h => by omega⟩
def R1t : DEnv → Res Bool := vTest (vOp leD (vOp mulD (vVar 2) (vVar 2)) (vVar 0))
def R1 : DEnv → DFlow := sAug 2 (intOp imulI) (vC (.int 2))
theorem r1_loop {n : Nat} (hn : n < 2 ^ 142) : ∀ (d j m : Nat), d + j = 71 → d < m → ∃ J, J ≤ 71 ∧ n < 2 ^ J * 2 ^ J ∧ whileL R1t R1 m [some (.int n), some (.int ((0 : Nat) : Int)), some (.int ((2 ^ j : Nat) : Int)), none] = .nx [some (.int n), some (.int ((0 : Nat) : Int)), some (.int ((2 ^ J : Nat) : Int)), none]
  | d, j, m + 1, hd, hm => by
    have hj : 2 ^ j < 2 ^ 100 := (Nat.pow_lt_pow_iff_right (by decide)).mpr (by omega)
    have ht : R1t [some (.int n), some (.int ((0 : Nat) : Int)), some (.int ((2 ^ j : Nat) : Int)), none] = .ok (decide (2 ^ j * 2 ^ j ≤ n)) := le_nat (op_ok (x := .int ((2 ^ j : Nat) : Int)) (y := .int ((2 ^ j : Nat) : Int)) rfl rfl (mulN hj hj)) rfl
    by_cases z : 2 ^ j * 2 ^ j ≤ n
    · rw [decide_eq_true z] at ht
      have hd1 : 1 ≤ d := by
        rcases Nat.eq_zero_or_pos d with q | q
        · have e : j = 71 := by omega
          rw [e] at z
          have : (2 : Nat) ^ 71 * 2 ^ 71 = 2 ^ 142 := by rw [← Nat.pow_add]
          omega
        · exact q
      obtain ⟨J, h1, h2, h3⟩ := r1_loop hn (d - 1) (j + 1) m (by omega) (by omega)
      refine ⟨J, h1, h2, (whileL_t ht (aug_ok (d := .int ((2 ^ j : Nat) : Int)) (e := .int 2) (z := .int ((2 ^ (j + 1) : Nat) : Int)) rfl rfl ?_)).trans h3⟩
      show (imulI _ 2).map Dat.int = _
      unfold imulI
      rw [if_pos (.inr (by decide))]
      show some (Dat.int (((2 ^ j : Nat) : Int) * 2)) = _
      congr 2
    · rw [decide_eq_false z] at ht
      exact ⟨j, by omega, by omega, whileL_f ht⟩
def R2t : DEnv → Res Bool := vTest (vOp gtD (vOp subD (vVar 2) (vVar 1)) (vC (.int 1)))
def R2 : DEnv → DFlow := sSeq (sAsg 3 (vOp fdivD (vOp addD (vVar 1) (vVar 2)) (vC (.int 2)))) (sIf (vTest (vOp leD (vOp mulD (vVar 3) (vVar 3)) (vVar 0))) (sAsg 1 (vVar 3)) (sAsg 2 (vVar 3)))
theorem r2_loop {n : Nat} : ∀ (i l h m : Nat) (x : Option Dat), l * l ≤ n → n < h * h → l < h → h ≤ l + 2 ^ i → h < 2 ^ 100 → i < m → ∃ r y, r * r ≤ n ∧ n < (r + 1) * (r + 1) ∧ r < 2 ^ 100 ∧ whileL R2t R2 m [some (.int n), some (.int l), some (.int h), x] = .nx [some (.int n), some (.int r), some (.int ((r + 1 : Nat) : Int)), y]
  | i, l, h, m + 1, x, h1, h2, h3, h4, h5, hm => by
    have ht : R2t [some (.int n), some (.int l), some (.int h), x] = .ok (decide (1 < h - l)) := by
      refine (gt_i (a := (h : Int) - (l : Int)) (b := 1) (sub_i rfl rfl) rfl).trans ?_
      congr 1
      exact decide_eq_decide.mpr ⟨fun q => by omega, fun q => by omega⟩
    by_cases z : 1 < h - l
    · rw [decide_eq_true z] at ht
      obtain ⟨i', rfl⟩ : ∃ i', i = i' + 1 := ⟨i - 1, by
        rcases Nat.eq_zero_or_pos i with q | q
        · rw [q, Nat.pow_zero] at h4; omega
        · omega⟩
      rw [Nat.pow_succ] at h4
      have hmid : (l + h) / 2 < 2 ^ 100 := by omega
      have s1 : sAsg 3 (vOp fdivD (vOp addD (vVar 1) (vVar 2)) (vC (.int 2))) [some (.int n), some (.int l), some (.int h), x] = .nx [some (.int n), some (.int l), some (.int h), some (.int (((l + h) / 2 : Nat) : Int))] :=
        (asg_ok (op_ok (x := .int ((l : Int) + (h : Int))) (y := .int 2) (z := .int (((l + h) / 2 : Nat) : Int)) (add_i rfl rfl) rfl (by rw [fdiv_c (by decide) (by decide)]; congr 2))).trans rfl
      have ht2 : vTest (vOp leD (vOp mulD (vVar 3) (vVar 3)) (vVar 0)) [some (.int n), some (.int l), some (.int h), some (.int (((l + h) / 2 : Nat) : Int))] = .ok (decide ((l + h) / 2 * ((l + h) / 2) ≤ n)) := le_nat (op_ok (x := .int (((l + h) / 2 : Nat) : Int)) (y := .int (((l + h) / 2 : Nat) : Int)) rfl rfl (mulN hmid hmid)) rfl
      by_cases y : (l + h) / 2 * ((l + h) / 2) ≤ n
      · rw [decide_eq_true y] at ht2
        obtain ⟨r, y', a1, a2, a3, a4⟩ := r2_loop i' ((l + h) / 2) h m (some (.int (((l + h) / 2 : Nat) : Int))) y h2 (by omega) (by omega) h5 (by omega)
        have hb : R2 [some (.int n), some (.int l), some (.int h), x] = .nx [some (.int n), some (.int (((l + h) / 2 : Nat) : Int)), some (.int h), some (.int (((l + h) / 2 : Nat) : Int))] := (seq_nx s1).trans ((if_t ht2).trans rfl)
        exact ⟨r, y', a1, a2, a3, (whileL_t ht hb).trans a4⟩
      · rw [decide_eq_false y] at ht2
        obtain ⟨r, y', a1, a2, a3, a4⟩ := r2_loop i' l ((l + h) / 2) m (some (.int (((l + h) / 2 : Nat) : Int))) h1 (by omega) (by omega) (by omega) (by omega) (by omega)
        have hb : R2 [some (.int n), some (.int l), some (.int h), x] = .nx [some (.int n), some (.int l), some (.int (((l + h) / 2 : Nat) : Int)), some (.int (((l + h) / 2 : Nat) : Int))] := (seq_nx s1).trans ((if_f ht2).trans rfl)
        exact ⟨r, y', a1, a2, a3, (whileL_t ht hb).trans a4⟩
    · rw [decide_eq_false z] at ht
      have e : h = l + 1 := by omega
      subst e
      exact ⟨l, x, h1, h2, by omega, whileL_f ht⟩
theorem root_eq {n : Nat} (hn : n < 2 ^ 142) : ∃ r, r * r ≤ n ∧ n < (r + 1) * (r + 1) ∧ D_root [.int n] = .ok (if r * r = n then .int r else .non) := by
  obtain ⟨J, j1, j2, j3⟩ := r1_loop hn 71 0 1000000 rfl (by decide)
  have hJ : 2 ^ J < 2 ^ 100 := (Nat.pow_lt_pow_iff_right (by decide)).mpr (by omega)
  obtain ⟨r, y, a1, a2, a3, a4⟩ := r2_loop (n := n) J 0 (2 ^ J) 1000000 none (Nat.zero_le _) j2 (Nat.pow_pos (by decide)) (by omega) hJ (by omega)
  refine ⟨r, a1, a2, run_rt ?_⟩
  refine (seq_nx (ρ' := [some (.int n), none, none, none]) ?_).trans ?_
  · refine (if_f ((or_f (not_ok (b := true) (tru_ok (d := .bl true) (call_ok (l := [.int n]) rfl rfl (by kernel_rfl)) rfl))).trans ?_)).trans rfl
    refine (test_ok (op_ok (x := .int n) (y := .int 0) rfl rfl (z := .bl (decide ((n : Int) < 0))) rfl)).trans ?_
    rw [decide_eq_false (by omega)]
  refine (seq_nx (ρ' := [some (.int n), some (.int ((0 : Nat) : Int)), some (.int ((2 ^ 0 : Nat) : Int)), none]) rfl).trans ?_
  refine (seq_nx j3).trans ((seq_nx a4).trans (ret_ok ?_))
  have ht := eq_i (f := vOp mulD (vVar 1) (vVar 1)) (g := vVar 0) (ρ := [some (.int n), some (.int r), some (.int ((r + 1 : Nat) : Int)), y]) (op_ok (x := .int r) (y := .int r) rfl rfl (mulN a3 a3)) (b := (n : Int)) rfl
  by_cases z : r * r = n
  · rw [beq_t (by omega)] at ht
    rw [if_pos z]
    exact (vif_t ht).trans rfl
  · rw [beq_f (by omega)] at ht
    rw [if_neg z]
    exact (vif_f ht).trans rfl
theorem sq_lt {a b : Nat} (h : a * a < b * b) : a < b := by
  rcases Nat.lt_or_ge a b with q | q
  · exact q
  · exact absurd (Nat.mul_le_mul q q) (by omega)
theorem root_sq {m : Nat} (hm : m < 2 ^ 70) : D_root [.int ((m * m : Nat) : Int)] = .ok (.int m) := by
  have hb : m * m < 2 ^ 142 := by
    have := Nat.mul_lt_mul'' hm hm
    rw [← Nat.pow_add] at this
    exact Nat.lt_of_lt_of_le this (Nat.pow_le_pow_right (by decide) (by decide))
  obtain ⟨r, r1, r2, e⟩ := root_eq hb
  have h1 : m < r + 1 := sq_lt r2
  have h2 : r = m := by
    rcases Nat.lt_or_ge m r with q | q
    · have := Nat.mul_lt_mul'' q q; omega
    · omega
  rw [e, h2, if_pos rfl]
theorem root_non {k m : Nat} (hk : k < 2 ^ 142) (h1 : m * m < k) (h2 : k < (m + 1) * (m + 1)) : D_root [.int (k : Int)] = .ok .non := by
  obtain ⟨r, r1, r2, e⟩ := root_eq hk
  rw [e, if_neg]
  intro q
  have a := sq_lt (show m * m < r * r by omega)
  have b := sq_lt (show r * r < (m + 1) * (m + 1) by omega)
  omega
end Lw
namespace Lw
open PySem PySem.Spec PyProof.Rows L2 Dl Pl
def P0 : DEnv → DFlow := sAsg 1 (vCall 2 D__law_draws (aCons (vVar 0) (aCons (vC (.int 40)) (aNil))))
def P1 : DEnv → DFlow := sAsgT (aTup (asCons (aName 2) (asCons (aName 3) (asCons (aName 4) (asNil))))) (vTup (aCons (vCall 3 D__law_some (aCons (vVar 1) (aCons (vC (.int 0)) (aCons (vC (.str "point")) (aNil))))) (aCons (vCall 3 D__law_some (aCons (vVar 1) (aCons (vC (.int 4)) (aCons (vC (.str "line")) (aNil))))) (aCons (vCall 3 D__law_some (aCons (vVar 1) (aCons (vC (.int 8)) (aCons (vC (.str "line")) (aNil))))) (aNil)))))
def P2 : DEnv → DFlow := sIf (vTest (vOp eqD (vOp modD (vCB intD (aCons (vOp ixD (vVar 1) (vC (.int 12))) (aNil))) (vC (.int 4))) (vC (.int 0)))) (sAsg 4 (vCall 3 D__law_line (aCons (vOp mulD (vC (.int 3)) (vOp ixD (vVar 3) (vC (.int 0)))) (aCons (vOp mulD (vC (.int 3)) (vOp ixD (vVar 3) (vC (.int 1)))) (aCons (vOp subD (vOp modD (vCB intD (aCons (vOp ixD (vVar 1) (vC (.int 13))) (aNil))) (vC (.int 50))) (vC (.int 25))) (aNil)))))) (sNop)
def P3 : DEnv → DFlow := sIf (vTest (vOp eqD (vOp modD (vCB intD (aCons (vOp ixD (vVar 1) (vC (.int 12))) (aNil))) (vC (.int 8))) (vC (.int 1)))) (sAsg 4 (vVar 3)) (sNop)
def P4 : DEnv → DFlow := sAsg 5 (vOp addD (vC (.int 1)) (vOp modD (vCB intD (aCons (vOp ixD (vVar 1) (vC (.int 14))) (aNil))) (vC (.int 50))))
def P5 : DEnv → DFlow := sIf (vOrT (vTest (vOp neD (vCall 3 D_point (aCons (vOp mulD (vOp ixD (vVar 2) (vC (.int 0))) (vVar 5)) (aCons (vOp mulD (vOp ixD (vVar 2) (vC (.int 1))) (vVar 5)) (aCons (vOp mulD (vOp ixD (vVar 2) (vC (.int 2))) (vVar 5)) (aNil))))) (vVar 2))) (vTest (vOp neD (vCall 3 D_point (aCons (vOp subD (vC (.int 0)) (vOp ixD (vVar 2) (vC (.int 0)))) (aCons (vOp subD (vC (.int 0)) (vOp ixD (vVar 2) (vC (.int 1)))) (aCons (vOp subD (vC (.int 0)) (vOp ixD (vVar 2) (vC (.int 2)))) (aNil))))) (vVar 2)))) (sRet (vC (.bl false))) (sNop)
def P6 : DEnv → DFlow := sIf (vOrT (vTest (vOp neD (vCall 3 D_line (aCons (vOp mulD (vOp ixD (vVar 3) (vC (.int 0))) (vVar 5)) (aCons (vOp mulD (vOp ixD (vVar 3) (vC (.int 1))) (vVar 5)) (aCons (vOp mulD (vOp ixD (vVar 3) (vC (.int 2))) (vVar 5)) (aNil))))) (vVar 3))) (vTest (vOp neD (vCall 3 D_line (aCons (vOp subD (vC (.int 0)) (vOp ixD (vVar 3) (vC (.int 0)))) (aCons (vOp subD (vC (.int 0)) (vOp ixD (vVar 3) (vC (.int 1)))) (aCons (vOp subD (vC (.int 0)) (vOp ixD (vVar 3) (vC (.int 2)))) (aNil))))) (vVar 3)))) (sRet (vC (.bl false))) (sNop)
def P7 : DEnv → DFlow := sIf (vOrT (vTest (vOp isnotBD (vCall 1 D_is_point (aCons (vVar 2) (aNil))) (vC (.bl true)))) (vOrT (vTest (vOp isnotBD (vCall 1 D_is_line (aCons (vVar 3) (aNil))) (vC (.bl true)))) (vNotT (vTru (vCall 3 D__law_are_right (aCons (vVar 2) (aCons (vVar 3) (aCons (vVar 4) (aNil))))))))) (sRet (vC (.bl false))) (sNop)
def P8 : DEnv → DFlow := sAsg 6 (vOp addD (vOp mulD (vCB intD (aCons (vOp ixD (vVar 1) (vC (.int 15))) (aNil))) (vOp ixD (vL (fLst (aCons (vC (.int 1)) (aCons (vC (.int 65521)) (aCons (vOp mulD (vOp mulD (vC (.int 65521)) (vC (.int 65521))) (vC (.int 65521))) (aNil)))))) (vOp modD (vCB intD (aCons (vOp ixD (vVar 1) (vC (.int 16))) (aNil))) (vC (.int 3))))) (vOp modD (vCB intD (aCons (vOp ixD (vVar 1) (vC (.int 17))) (aNil))) (vC (.int 3))))
def P9 : DEnv → DFlow := sAsg 7 (vOp mulD (vVar 6) (vVar 6))
def P10 : DEnv → DFlow := sIf (vOrT (vTest (vOp neD (vCall 1 D_root (aCons (vVar 7) (aNil))) (vVar 6))) (vAndT (vTest (vOp gtD (vVar 6) (vC (.int 0)))) (vOrT (vTest (vOp notND (vCall 1 D_root (aCons (vOp addD (vVar 7) (vC (.int 1))) (aNil))) (vC .non))) (vAndT (vTest (vOp gtD (vVar 6) (vC (.int 1)))) (vTest (vOp notND (vCall 1 D_root (aCons (vOp subD (vVar 7) (vC (.int 1))) (aNil))) (vC .non))))))) (sRet (vC (.bl false))) (sNop)
def P11 : DEnv → DFlow := sAsg 8 (vL (fLst (aCons (vC .non) (aCons (vC (.int 5)) (aCons (vTup (aCons (vC (.int 1)) (aCons (vC (.int 2)) (aNil)))) (aCons (vL (fLst (aCons (vC (.int 0)) (aCons (vC (.int 0)) (aCons (vC (.int 1)) (aNil)))))) (aCons (vTup (aCons (vC (.int 0)) (aCons (vC (.int 0)) (aCons (vC (.int 0)) (aNil))))) (aCons (vTup (aCons (vC (.int 2)) (aCons (vC (.int 2)) (aCons (vC (.int 2)) (aNil))))) (aCons (vTup (aCons (vC (.int 1)) (aCons (vC (.int 1)) (aCons (v1 negD (vC (.int 1))) (aNil))))) (aCons (vTup (aCons (vC (.bl true)) (aCons (vC (.int 0)) (aCons (vC (.int 1)) (aNil))))) (aCons (vTup (aCons (vC (.str "0")) (aCons (vC (.int 0)) (aCons (vC (.int 1)) (aNil))))) (aCons (vTup (aCons (vC (.int 0)) (aCons (vC (.int 0)) (aCons (vC (.int 1)) (aCons (vC (.int 1)) (aNil)))))) (aNil)))))))))))))
def P12 : DEnv → DFlow := sIf (vOrT (vTru (vCB anyD (aCons (vL (vLc (gSeq (vVar 8)) (aName 9) [9] (tYesD) (vCall 1 D_is_point (aCons (vVar 9) (aNil))))) (aNil)))) (vOrT (vTru (vCB anyD (aCons (vL (vLc (gSeq (vVar 8)) (aName 9) [9] (vTest (vOp neD (vVar 9) (vTup (aCons (vC (.int 1)) (aCons (vC (.int 1)) (aCons (v1 negD (vC (.int 1))) (aNil))))))) (vCall 1 D_is_line (aCons (vVar 9) (aNil))))) (aNil)))) (vOrT (vTru (vCall 1 D_is_line (aCons (vTup (aCons (vC (.int 0)) (aCons (vC (.int 0)) (aCons (vC (.int 1)) (aNil))))) (aNil)))) (vOrT (vTru (vCall 1 D_is_line (aCons (vTup (aCons (v1 negD (vC (.int 1))) (aCons (vC (.int 0)) (aCons (vC (.int 1)) (aNil))))) (aNil)))) (vTru (vCall 1 D_is_line (aCons (vTup (aCons (vC (.int 0)) (aCons (v1 negD (vC (.int 1))) (aCons (vC (.int 1)) (aNil))))) (aNil)))))))) (sRet (vC (.bl false))) (sNop)
def P13 : DEnv → DFlow := sIf (vTest (vOp neD (vL (vLc (gSeq (vL (fLst (aCons (vTup (aCons (vC (.int 1)) (aCons (vC (.int 1)) (aCons (vC (.int 0)) (aNil))))) (aCons (vTup (aCons (vC (.bl true)) (aCons (vC (.int 0)) (aCons (vC (.int 1)) (aNil))))) (aCons (vTup (aCons (vC .non) (aCons (vC (.int 1)) (aCons (vC (.int 1)) (aNil))))) (aCons (vTup (aCons (vC (.int 0)) (aCons (vC (.str "0")) (aCons (vC (.int 1)) (aNil))))) (aNil)))))))) (aName 9) [9] (tYesD) (vCall 3 D__law_error (aCons (vC (.int 0)) (aCons (vVar 9) (aCons (vC (.int 0)) (aNil))))))) (vOp mulD (vL (fLst (aCons (vC (.str "point")) (aNil)))) (vC (.int 4))))) (sRet (vC (.bl false))) (sNop)
def P14 : DEnv → DFlow := sIf (vTest (vOp neD (vL (vLc (gSeq (vL (fLst (aCons (vTup (aCons (vC (.int 0)) (aCons (vC (.int 0)) (aCons (vC (.int 1)) (aNil))))) (aCons (vTup (aCons (vC (.bl true)) (aCons (vC (.int 0)) (aCons (vC (.int 1)) (aNil))))) (aCons (vTup (aCons (vC .non) (aCons (vC (.int 1)) (aCons (vC (.int 1)) (aNil))))) (aCons (vTup (aCons (vC (.int 0)) (aCons (vC (.int 1)) (aCons (vC (.str "0")) (aNil))))) (aNil)))))))) (aName 9) [9] (tYesD) (vCall 3 D__law_error (aCons (vC (.int 1)) (aCons (vVar 9) (aCons (vC (.int 0)) (aNil))))))) (vOp mulD (vL (fLst (aCons (vC (.str "line")) (aNil)))) (vC (.int 4))))) (sRet (vC (.bl false))) (sNop)
def P15 : DEnv → DFlow := sFor (gSeq (vL (fLst (aCons (vC .non) (aCons (vTup (aCons (vC (.int 2)) (aCons (vC (.int 2)) (aCons (vC (.int 2)) (aNil))))) (aCons (vL (fLst (aCons (vC (.int 1)) (aCons (vC (.int 0)) (aCons (vC (.int 1)) (aNil)))))) (aCons (vTup (aCons (vC (.bl true)) (aCons (vC (.int 1)) (aCons (vC (.int 0)) (aNil))))) (aNil)))))))) (aName 9) (sSeq (sIf (vTest (vOp neD (vL (vLc (gSeq (vTup (aCons (vC (.int 2)) (aCons (vC (.int 3)) (aCons (vC (.int 4)) (aCons (vC (.int 5)) (aCons (vC (.int 6)) (aNil)))))))) (aName 10) [10] (tYesD) (vCall 3 D__law_error (aCons (vVar 10) (aCons (vVar 9) (aCons (vVar 9) (aNil))))))) (vL (fLst (aCons (vC (.str "point")) (aCons (vC (.str "line")) (aCons (vC (.str "point")) (aCons (vC (.str "line")) (aCons (vC (.str "point")) (aNil)))))))))) (sRet (vC (.bl false))) (sNop)) (sIf (vOrT (vTest (vOp neD (vL (vLc (gSeq (vTup (aCons (vC (.int 2)) (aCons (vC (.int 4)) (aNil))))) (aName 10) [10] (tYesD) (vCall 3 D__law_error (aCons (vVar 10) (aCons (vVar 2) (aCons (vVar 9) (aNil))))))) (vOp mulD (vL (fLst (aCons (vC (.str "line")) (aNil)))) (vC (.int 2))))) (vTest (vOp neD (vL (vLc (gSeq (vTup (aCons (vC (.int 3)) (aCons (vC (.int 5)) (aNil))))) (aName 10) [10] (tYesD) (vCall 3 D__law_error (aCons (vVar 10) (aCons (vVar 3) (aCons (vVar 9) (aNil))))))) (vOp mulD (vL (fLst (aCons (vC (.str "line")) (aNil)))) (vC (.int 2)))))) (sRet (vC (.bl false))) (sNop)))
def P16 : DEnv → DFlow := sRet (vAnd (vOp eqD (vL (vLc (gSeq (vTup (aCons (v1 negD (vC (.int 1))) (aCons (vC .non) (aCons (vC (.bl true)) (aCons (vC (.str "4")) (aNil))))))) (aName 9) [9] (tYesD) (vCall 3 D__law_error (aCons (vC (.int 7)) (aCons (vVar 9) (aCons (vC (.int 0)) (aNil))))))) (vOp mulD (vL (fLst (aCons (vC (.str "point")) (aNil)))) (vC (.int 4)))) (vAnd (vOp eqD (vCall 1 D_root (aCons (vC (.int 0)) (aNil))) (vC (.int 0))) (vOp eqD (vCall 1 D_root (aCons (vC (.int 1)) (aNil))) (vC (.int 1)))))
def bads : Dat := .lst [.non, .int 5, .tup [.int 1, .int 2], .lst [.int 0, .int 0, .int 1], .tup [.int 0, .int 0, .int 0], .tup [.int 2, .int 2, .int 2], .tup [.int 1, .int 1, .int (-1)], .tup [.bl true, .int 0, .int 1], .tup [.str "0", .int 0, .int 1], .tup [.int 0, .int 0, .int 1, .int 1]]
section
variable {a b c d e f g h i j k : Option Dat}
theorem p11_eq : P11 [a, b, c, d, e, f, g, h, i, j, k] = .nx [a, b, c, d, e, f, g, h, some bads, j, k] := by kernel_rfl
theorem p12_eq : P12 [a, b, c, d, e, f, g, h, some bads, j, k] = .nx [a, b, c, d, e, f, g, h, some bads, j, k] := by kernel_rfl
theorem p13_eq : P13 [a, b, c, d, e, f, g, h, i, j, k] = .nx [a, b, c, d, e, f, g, h, i, j, k] := by kernel_rfl
theorem p14_eq : P14 [a, b, c, d, e, f, g, h, i, j, k] = .nx [a, b, c, d, e, f, g, h, i, j, k] := by kernel_rfl
theorem p16_eq : P16 [a, b, c, d, e, f, g, h, i, j, k] = .rt (.bl true) := by kernel_rfl
end
end Lw
namespace Lw
open PySem PySem.Spec PyProof.Rows L2 Dl Pl
/-! ### a wrong line behind a right thing -/
theorem drop_exc {f : DEnv → Res Dat} {ρ : DEnv} {c : Nat} (h : f ρ = .exc c) : sDrop f ρ = .ex c ρ := by unfold sDrop; rw [h]; rfl
def ErB : DEnv → DFlow := sIf (vTest (vOp eqD (vVar 0) (vC (.int 0)))) (sDrop (vCall 3 D_point (aCons (vOp ixD (vVar 1) (vC (.int 0))) (aCons (vOp ixD (vVar 1) (vC (.int 1))) (aCons (vOp ixD (vVar 1) (vC (.int 2))) (aNil)))))) (sIf (vTest (vOp eqD (vVar 0) (vC (.int 1)))) (sDrop (vCall 3 D_line (aCons (vOp ixD (vVar 1) (vC (.int 0))) (aCons (vOp ixD (vVar 1) (vC (.int 1))) (aCons (vOp ixD (vVar 1) (vC (.int 2))) (aNil)))))) (sIf (vTest (vOp eqD (vVar 0) (vC (.int 2)))) (sDrop (vCall 2 D_lies_on (aCons (vVar 1) (aCons (vVar 2) (aNil))))) (sIf (vTest (vOp eqD (vVar 0) (vC (.int 3)))) (sDrop (vCall 2 D_cross (aCons (vVar 1) (aCons (vVar 2) (aNil))))) (sIf (vTest (vOp eqD (vVar 0) (vC (.int 4)))) (sDrop (vCall 2 D_mirrored (aCons (vVar 1) (aCons (vVar 2) (aNil))))) (sIf (vTest (vOp eqD (vVar 0) (vC (.int 5)))) (sDrop (vCall 2 D_mirrored_line (aCons (vVar 1) (aCons (vVar 2) (aNil))))) (sIf (vTest (vOp eqD (vVar 0) (vC (.int 6)))) (sDrop (vCall 1 D_in_sheet (aCons (vVar 1) (aNil)))) (sDrop (vCall 1 D_root (aCons (vVar 1) (aNil))))))))))
theorem err_line {c : Int} {a b : Dat} (h : ErB [some (.int c), some a, some b] = .ex 2 [some (.int c), some a, some b]) : D__law_error [.int c, a, b] = .ok (.str "line") := by
  refine run_rt (seq_rt ?_)
  show (match ErB [some (.int c), some a, some b] with | .ex c ρ' => handM [(m_BadPoint, sRet (vC (.str "point"))), (m_BadLine, sRet (vC (.str "line")))] c ρ' | f => f) = _
  rw [h]
  rfl
theorem tst {a b : Option Dat} {i j : Int} {t : Bool} (h : (i == j) = t) : vTest (vOp eqD (vVar 0) (vC (.int j))) [some (.int i), a, b] = .ok t := (eq_i (a := i) (b := j) rfl rfl).trans (by rw [h])
theorem er2 {a b : Dat} (h : D_lies_on [a, b] = .exc 2) : D__law_error [.int 2, a, b] = .ok (.str "line") :=
  err_line ((if_f (tst (by decide))).trans ((if_f (tst (by decide))).trans ((if_t (tst (by decide))).trans (drop_exc (call_ok (l := [a, b]) rfl rfl h)))))
theorem er3 {a b : Dat} (h : D_cross [a, b] = .exc 2) : D__law_error [.int 3, a, b] = .ok (.str "line") :=
  err_line ((if_f (tst (by decide))).trans ((if_f (tst (by decide))).trans ((if_f (tst (by decide))).trans ((if_t (tst (by decide))).trans (drop_exc (call_ok (l := [a, b]) rfl rfl h))))))
theorem er4 {a b : Dat} (h : D_mirrored [a, b] = .exc 2) : D__law_error [.int 4, a, b] = .ok (.str "line") :=
  err_line ((if_f (tst (by decide))).trans ((if_f (tst (by decide))).trans ((if_f (tst (by decide))).trans ((if_f (tst (by decide))).trans ((if_t (tst (by decide))).trans (drop_exc (call_ok (l := [a, b]) rfl rfl h)))))))
theorem er5 {a b : Dat} (h : D_mirrored_line [a, b] = .exc 2) : D__law_error [.int 5, a, b] = .ok (.str "line") :=
  err_line ((if_f (tst (by decide))).trans ((if_f (tst (by decide))).trans ((if_f (tst (by decide))).trans ((if_f (tst (by decide))).trans ((if_f (tst (by decide))).trans ((if_t (tst (by decide))).trans (drop_exc (call_ok (l := [a, b]) rfl rfl h))))))))
theorem run_ex {m c : Nat} {F : DEnv → DFlow} {ds : List Dat} {ρ : DEnv} (h : F (startD m ds) = .ex c ρ) : runD m F ds = .exc c := by unfold runD; rw [h]; rfl
theorem chl_one {v : Dat} (h : D_is_line [v] = .ok (.bl false)) : D_check_lines [.lst [v]] = .exc 2 := by
  refine run_ex (ρ := [some (.lst [v]), none]) ((if_t (not_ok (b := false) (tru_ok (d := .bl false) (cb_ok (ac_ok (vl_ok (l := [.bl false]) ?_) an_ok) rfl) rfl))).trans rfl)
  exact lc_ok (l := [v]) rfl (by show 1 ≤ _; decide) (lcL_map (g := fun _ => Dat.bl false) fun d hd => ⟨_, rfl, by
    rw [List.mem_singleton] at hd
    rw [hd]
    exact call_ok (l := [v]) rfl rfl h⟩)
theorem chl_two {l : T3} {v : Dat} (hl : IsLn l) (hb : Bt 8000 l) (h : D_is_line [v] = .ok (.bl false)) : D_check_lines [.lst [tD l, v]] = .exc 2 := by
  refine run_ex (ρ := [some (.lst [tD l, v]), none]) ((if_t (not_ok (b := false) (tru_ok (d := .bl false) (cb_ok (ac_ok (vl_ok (l := [.bl true, .bl false]) ?_) an_ok) rfl) rfl))).trans rfl)
  refine lc_ok (l := [(tD l, true), (v, false)].map Prod.fst) rfl (by show 2 ≤ _; decide) ?_
  refine lcL_of (e := Prod.fst) (g := fun a => Dat.bl a.2) (l := [(tD l, true), (v, false)]) fun a ha => ⟨[some (.lst [tD l, v]), some a.1], rfl, ?_⟩
  simp only [List.mem_cons, List.not_mem_nil, or_false] at ha
  rcases ha with rfl | rfl
  · exact call_ok (l := [tD l]) rfl rfl (is_line_eq hl hb)
  · exact call_ok (l := [v]) rfl rfl h
theorem lies_bad {p : T3} {v : Dat} (hp : IsPt p) (hb : Bt 8000 p) (h : D_is_line [v] = .ok (.bl false)) : D_lies_on [tD p, v] = .exc 2 :=
  run_ex ((seq_nx (ρ' := [some (tD p), some v]) (drop_ok (call_ok (l := [.lst [tD p]]) rfl rfl (chp_eq hp hb)))).trans (seq_ex (drop_exc (call_ok (l := [.lst [v]]) rfl rfl (chl_one h)))))
theorem mir_bad {p : T3} {v : Dat} (hp : IsPt p) (hb : Bt 8000 p) (h : D_is_line [v] = .ok (.bl false)) : D_mirrored [tD p, v] = .exc 2 :=
  run_ex ((seq_nx (ρ' := [some (tD p), some v, none, none]) (drop_ok (call_ok (l := [.lst [tD p]]) rfl rfl (chp_eq hp hb)))).trans (seq_ex (drop_exc (call_ok (l := [.lst [v]]) rfl rfl (chl_one h)))))
theorem cross_bad {l : T3} {v : Dat} (hl : IsLn l) (hb : Bt 8000 l) (h : D_is_line [v] = .ok (.bl false)) : D_cross [tD l, v] = .exc 2 :=
  run_ex (seq_ex (drop_exc (call_ok (l := [.lst [tD l, v]]) rfl rfl (chl_two hl hb h))))
theorem mirl_bad {l : T3} {v : Dat} (hl : IsLn l) (hb : Bt 8000 l) (h : D_is_line [v] = .ok (.bl false)) : D_mirrored_line [tD l, v] = .exc 2 :=
  run_ex (seq_ex (drop_exc (call_ok (l := [.lst [tD l, v]]) rfl rfl (chl_two hl hb h))))
def wrongs : List Dat := [.non, .tup [.int 2, .int 2, .int 2], .lst [.int 1, .int 0, .int 1], .tup [.bl true, .int 1, .int 0]]
def Q1 : DEnv → DFlow := sIf (vTest (vOp neD (vL (vLc (gSeq (vTup (aCons (vC (.int 2)) (aCons (vC (.int 3)) (aCons (vC (.int 4)) (aCons (vC (.int 5)) (aCons (vC (.int 6)) (aNil)))))))) (aName 10) [10] (tYesD) (vCall 3 D__law_error (aCons (vVar 10) (aCons (vVar 9) (aCons (vVar 9) (aNil))))))) (vL (fLst (aCons (vC (.str "point")) (aCons (vC (.str "line")) (aCons (vC (.str "point")) (aCons (vC (.str "line")) (aCons (vC (.str "point")) (aNil)))))))))) (sRet (vC (.bl false))) (sNop)
def Q2 : DEnv → DFlow := sIf (vOrT (vTest (vOp neD (vL (vLc (gSeq (vTup (aCons (vC (.int 2)) (aCons (vC (.int 4)) (aNil))))) (aName 10) [10] (tYesD) (vCall 3 D__law_error (aCons (vVar 10) (aCons (vVar 2) (aCons (vVar 9) (aNil))))))) (vOp mulD (vL (fLst (aCons (vC (.str "line")) (aNil)))) (vC (.int 2))))) (vTest (vOp neD (vL (vLc (gSeq (vTup (aCons (vC (.int 3)) (aCons (vC (.int 5)) (aNil))))) (aName 10) [10] (tYesD) (vCall 3 D__law_error (aCons (vVar 10) (aCons (vVar 3) (aCons (vVar 9) (aNil))))))) (vOp mulD (vL (fLst (aCons (vC (.str "line")) (aNil)))) (vC (.int 2)))))) (sRet (vC (.bl false))) (sNop)
section
variable {a b c d e f g h i j k : Option Dat}
theorem q1_eq {v : Dat} (hv : v ∈ wrongs) : Q1 [a, b, c, d, e, f, g, h, i, some v, k] = .nx [a, b, c, d, e, f, g, h, i, some v, k] := by
  unfold wrongs at hv
  simp only [List.mem_cons, List.not_mem_nil, or_false] at hv
  rcases hv with rfl | rfl | rfl | rfl <;> kernel_rfl
theorem wrong_line {v : Dat} (hv : v ∈ wrongs) : D_is_line [v] = .ok (.bl false) := by
  unfold wrongs at hv
  simp only [List.mem_cons, List.not_mem_nil, or_false] at hv
  rcases hv with rfl | rfl | rfl | rfl <;> kernel_rfl
theorem two_lines {n : Nat} {s x y : Int} {ρ : DEnv} (h1 : ∀ z : Int, (z = x ∨ z = y) → ∃ ρ1, aName 10 (.int z) (wipeD ρ [10]) = some ρ1 ∧ vCall 3 D__law_error (aCons (vVar 10) (aCons (vVar n) (aCons (vVar 9) (aNil)))) ρ1 = .ok (.str "line")) :
    vTest (vOp neD (vL (vLc (gSeq (vTup (aCons (vC (.int x)) (aCons (vC (.int y)) (aNil))))) (aName 10) [10] (tYesD) (vCall 3 D__law_error (aCons (vVar 10) (aCons (vVar n) (aCons (vVar 9) (aNil))))))) (vOp mulD (vL (fLst (aCons (vC (.str "line")) (aNil)))) (vC (.int 2)))) ρ = .ok false := by
  refine test_ok (op_ok (x := .lst [.str "line", .str "line"]) (y := .lst [.str "line", .str "line"]) (vl_ok ?_) (by kernel_rfl) (by kernel_rfl))
  refine lc_ok (l := [x, y].map Dat.int) rfl (by show 2 ≤ _; decide) ?_
  refine lcL_of (g := fun _ => Dat.str "line") (l := [x, y]) fun z hz => h1 z ?_
  simpa using hz
theorem q2_eq {p l : T3} {v : Dat} (hp : IsPt p) (hl : IsLn l) (bp : Bt 8000 p) (bl : Bt 8000 l) (hv : v ∈ wrongs) : Q2 [a, b, some (tD p), some (tD l), e, f, g, h, i, some v, k] = .nx [a, b, some (tD p), some (tD l), e, f, g, h, i, some v, k] := by
  have hw := wrong_line hv
  refine (if_f ((or_f (two_lines (s := 0) fun z hz => ⟨[a, b, some (tD p), some (tD l), e, f, g, h, i, some v, some (.int z)], rfl, ?_⟩)).trans (two_lines (s := 0) fun z hz => ⟨[a, b, some (tD p), some (tD l), e, f, g, h, i, some v, some (.int z)], rfl, ?_⟩))).trans rfl
  · rcases hz with rfl | rfl
    · exact call_ok (l := [.int 2, tD p, v]) rfl rfl (er2 (lies_bad hp bp hw))
    · exact call_ok (l := [.int 4, tD p, v]) rfl rfl (er4 (mir_bad hp bp hw))
  · rcases hz with rfl | rfl
    · exact call_ok (l := [.int 3, tD l, v]) rfl rfl (er3 (cross_bad hl bl hw))
    · exact call_ok (l := [.int 5, tD l, v]) rfl rfl (er5 (mirl_bad hl bl hw))
theorem p15_eq {p l : T3} (hp : IsPt p) (hl : IsLn l) (bp : Bt 8000 p) (bl : Bt 8000 l) : ∃ j', P15 [a, b, some (tD p), some (tD l), e, f, g, h, i, j, k] = .nx [a, b, some (tD p), some (tD l), e, f, g, h, i, j', k] := by
  obtain ⟨ρ', eq, j', rfl⟩ := forL_inv (asg := aName 9) (F := sSeq Q1 Q2) (l := wrongs) (ρ := [a, b, some (tD p), some (tD l), e, f, g, h, i, j, k]) (fun _ ρ => ∃ j', ρ = [a, b, some (tD p), some (tD l), e, f, g, h, i, j', k]) ⟨j, rfl⟩ fun r d ρ hr hp' => by
    obtain ⟨j', rfl⟩ := hp'
    have hv := List.mem_of_getElem? hr
    exact ⟨_, _, rfl, .inl ((seq_nx (q1_eq hv)).trans (q2_eq hp hl bp bl hv)), _, rfl⟩
  exact ⟨j', (for_ok (l := wrongs) (by kernel_rfl)).trans eq⟩
end
/-! ### the first parts -/
theorem B_3 {x : Int} (h : B 20 x) : B 22 (3 * x) := by unfold B at *; omega
theorem B_50 {x : Int} (h1 : -100 ≤ x) (h2 : x ≤ 100) : B 22 x := by unfold B; omega
section
variable {S : Dat} {ds : List Int} {p l s : T3} {f g h i j k : Option Dat}
theorem p2_eq (hd : ds.length = 40) (hl : IsLn l) (bl : Bt 20 l) (hs : IsLn s) (bs : Bt 22 s) : ∃ s', IsLn s' ∧ Bt 22 s' ∧ P2 [some S, some (.lst (ds.map .int)), some (tD p), some (tD l), some (tD s), f, g, h, i, j, k] = .nx [some S, some (.lst (ds.map .int)), some (tD p), some (tD l), some (tD s'), f, g, h, i, j, k] := by
  have ht := eq_i (f := vOp modD (vCB intD (aCons (vOp ixD (vVar 1) (vC (.int 12))) (aNil))) (vC (.int 4))) (g := vC (.int 0)) (ρ := [some S, some (.lst (ds.map .int)), some (tD p), some (tD l), some (tD s), f, g, h, i, j, k]) (b := 0) (mod_i (drw (ds := ds) (j := 12) rfl rfl rfl (by omega)) rfl (by decide)) rfl
  by_cases z : (ds[12]'(by omega)) % 4 = 0
  · rw [beq_t z] at ht
    have hc1 := Int.emod_nonneg (ds[13]'(by omega)) (show (50 : Int) ≠ 0 by decide)
    have hc2 := Int.emod_lt_of_pos (ds[13]'(by omega)) (show (0 : Int) < 50 by decide)
    have hn : NzL (3 * l.1, 3 * l.2.1, (ds[13]'(by omega)) % 50 - 25) := fun q => hl.nz ⟨by have := q.1; dsimp only at this; omega, by have := q.2; dsimp only at this; omega⟩
    have hb : Bt 22 (3 * l.1, 3 * l.2.1, (ds[13]'(by omega)) % 50 - 25) := mkBt (B_3 bl.1) (B_3 bl.2.1) (B_50 (by omega) (by omega))
    refine ⟨lnN _, lnN_is hn, lnN_B hn hb, (if_t ht).trans ((asg_ok (call_ok (l := [.int (3 * l.1), .int (3 * l.2.1), .int ((ds[13]'(by omega)) % 50 - 25)]) ?_ rfl (lline_eq hn (Bt_le hb (by decide))))).trans rfl)⟩
    have m : ∀ {x : Int}, B 20 x → mulOk 3 x = true := fun hx => mok (B_le (m := 2) (by unfold B; decide) (by decide)) (B_le hx (by decide))
    exact ac_ok (mul_i rfl (ix_0 (v := l) rfl) (m bl.1)) (ac_ok (mul_i rfl (ix_1 (v := l) rfl) (m bl.2.1)) (ac_ok (sub_i (mod_i (drw (ds := ds) (j := 13) rfl rfl rfl (by omega)) rfl (by decide)) rfl) an_ok))
  · rw [beq_f z] at ht
    exact ⟨s, hs, bs, (if_f ht).trans rfl⟩
theorem p3_eq (hd : ds.length = 40) (hl : IsLn l) (bl : Bt 20 l) (hs : IsLn s) (bs : Bt 22 s) : ∃ s', IsLn s' ∧ Bt 22 s' ∧ P3 [some S, some (.lst (ds.map .int)), some (tD p), some (tD l), some (tD s), f, g, h, i, j, k] = .nx [some S, some (.lst (ds.map .int)), some (tD p), some (tD l), some (tD s'), f, g, h, i, j, k] := by
  have ht := eq_i (f := vOp modD (vCB intD (aCons (vOp ixD (vVar 1) (vC (.int 12))) (aNil))) (vC (.int 8))) (g := vC (.int 1)) (ρ := [some S, some (.lst (ds.map .int)), some (tD p), some (tD l), some (tD s), f, g, h, i, j, k]) (b := 1) (mod_i (drw (ds := ds) (j := 12) rfl rfl rfl (by omega)) rfl (by decide)) rfl
  by_cases z : (ds[12]'(by omega)) % 8 = 1
  · rw [beq_t z] at ht
    exact ⟨l, hl, Bt_le bl (by decide), (if_t ht).trans rfl⟩
  · rw [beq_f z] at ht
    exact ⟨s, hs, bs, (if_f ht).trans rfl⟩
theorem sm_swap (t : Int) (v : T3) : (v.1 * t, v.2.1 * t, v.2.2 * t) = sm t v := by
  show _ = (t * v.1, t * v.2.1, t * v.2.2)
  rw [Int.mul_comm v.1, Int.mul_comm v.2.1, Int.mul_comm v.2.2]
theorem p5_eq {t : Int} (h1 : IsPt p) (bp : Bt 22 p) (ht : 1 ≤ t) (ht2 : t ≤ 50) : P5 [some S, some (.lst (ds.map .int)), some (tD p), some (tD l), some (tD s), some (.int t), g, h, i, j, k] = .nx [some S, some (.lst (ds.map .int)), some (tD p), some (tD l), some (tD s), some (.int t), g, h, i, j, k] := by
  have bt : B 6 t := by unfold B; omega
  have m : ∀ {x : Int}, B 22 x → mulOk x t = true := fun hx => mok (B_le hx (by decide)) (B_le bt (by decide))
  have e1 := point_eq (v := (p.1 * t, p.2.1 * t, p.2.2 * t)) (Int.mul_ne_zero (by have := h1.1; omega) (by omega)) (mkBt (B_le (B_mul bp.1 bt) (by decide)) (B_le (B_mul bp.2.1 bt) (by decide)) (B_le (B_mul bp.2.2 bt) (by decide)))
  rw [ptN_of h1 (k := t) (by omega) (sm_swap t p)] at e1
  have b0 : B 1 0 := by unfold B; decide
  have e2 := point_eq (v := (0 - p.1, 0 - p.2.1, 0 - p.2.2)) (show 0 - p.2.2 ≠ 0 by have := h1.1; omega) (mkBt (B_le (B_sub b0 bp.1) (by decide)) (B_le (B_sub b0 bp.2.1) (by decide)) (B_le (B_sub b0 bp.2.2) (by decide)))
  rw [ptN_of h1 (k := -1) (by decide) (show (0 - p.1, 0 - p.2.1, 0 - p.2.2) = sm (-1) p by show _ = (-1 * p.1, -1 * p.2.1, -1 * p.2.2); rw [show 0 - p.1 = -1 * p.1 by omega, show 0 - p.2.1 = -1 * p.2.1 by omega, show 0 - p.2.2 = -1 * p.2.2 by omega])] at e2
  refine (if_f ((or_f (test_ok (op_ok (call_ok (l := [.int (p.1 * t), .int (p.2.1 * t), .int (p.2.2 * t)]) (ac_ok (mul_i (ix_0 (v := p) rfl) rfl (m bp.1)) (ac_ok (mul_i (ix_1 (v := p) rfl) rfl (m bp.2.1)) (ac_ok (mul_i (ix_2 (v := p) rfl) rfl (m bp.2.2)) an_ok))) rfl e1) rfl (ne_tD p)))).trans ?_)).trans rfl
  exact test_ok (op_ok (call_ok (l := [.int (0 - p.1), .int (0 - p.2.1), .int (0 - p.2.2)]) (ac_ok (sub_i rfl (ix_0 (v := p) rfl)) (ac_ok (sub_i rfl (ix_1 (v := p) rfl)) (ac_ok (sub_i rfl (ix_2 (v := p) rfl)) an_ok))) rfl e2) rfl (ne_tD p))
theorem p6_eq {t : Int} (h1 : IsLn l) (bp : Bt 22 l) (ht : 1 ≤ t) (ht2 : t ≤ 50) : P6 [some S, some (.lst (ds.map .int)), some (tD p), some (tD l), some (tD s), some (.int t), g, h, i, j, k] = .nx [some S, some (.lst (ds.map .int)), some (tD p), some (tD l), some (tD s), some (.int t), g, h, i, j, k] := by
  have bt : B 6 t := by unfold B; omega
  have m : ∀ {x : Int}, B 22 x → mulOk x t = true := fun hx => mok (B_le hx (by decide)) (B_le bt (by decide))
  have nz1 : NzL (l.1 * t, l.2.1 * t, l.2.2 * t) := fun q => h1.nz ⟨(Int.mul_eq_zero.mp q.1).resolve_right (by omega), (Int.mul_eq_zero.mp q.2).resolve_right (by omega)⟩
  have e1 := line_eq nz1 (mkBt (B_le (B_mul bp.1 bt) (by decide)) (B_le (B_mul bp.2.1 bt) (by decide)) (B_le (B_mul bp.2.2 bt) (by decide)))
  rw [lnN_of h1 (k := t) (by omega) (sm_swap t l)] at e1
  have b0 : B 1 0 := by unfold B; decide
  have nz2 : NzL (0 - l.1, 0 - l.2.1, 0 - l.2.2) := fun q => h1.nz ⟨by have := q.1; dsimp only at this; omega, by have := q.2; dsimp only at this; omega⟩
  have e2 := line_eq nz2 (mkBt (B_le (B_sub b0 bp.1) (by decide)) (B_le (B_sub b0 bp.2.1) (by decide)) (B_le (B_sub b0 bp.2.2) (by decide)))
  rw [lnN_of h1 (k := -1) (by decide) (show (0 - l.1, 0 - l.2.1, 0 - l.2.2) = sm (-1) l by show _ = (-1 * l.1, -1 * l.2.1, -1 * l.2.2); rw [show 0 - l.1 = -1 * l.1 by omega, show 0 - l.2.1 = -1 * l.2.1 by omega, show 0 - l.2.2 = -1 * l.2.2 by omega])] at e2
  refine (if_f ((or_f (test_ok (op_ok (call_ok (l := [.int (l.1 * t), .int (l.2.1 * t), .int (l.2.2 * t)]) (ac_ok (mul_i (ix_0 (v := l) rfl) rfl (m bp.1)) (ac_ok (mul_i (ix_1 (v := l) rfl) rfl (m bp.2.1)) (ac_ok (mul_i (ix_2 (v := l) rfl) rfl (m bp.2.2)) an_ok))) rfl e1) rfl (ne_tD l)))).trans ?_)).trans rfl
  exact test_ok (op_ok (call_ok (l := [.int (0 - l.1), .int (0 - l.2.1), .int (0 - l.2.2)]) (ac_ok (sub_i rfl (ix_0 (v := l) rfl)) (ac_ok (sub_i rfl (ix_1 (v := l) rfl)) (ac_ok (sub_i rfl (ix_2 (v := l) rfl)) an_ok))) rfl e2) rfl (ne_tD l))
theorem p7_eq (h1 : IsPt p) (h2 : IsLn l) (h3 : IsLn s) (bp : Bt 22 p) (bl : Bt 22 l) (bs : Bt 22 s) : P7 [some S, some (.lst (ds.map .int)), some (tD p), some (tD l), some (tD s), f, g, h, i, j, k] = .nx [some S, some (.lst (ds.map .int)), some (tD p), some (tD l), some (tD s), f, g, h, i, j, k] := by
  refine (if_f ((or_f (test_ok (op_ok (call_ok (l := [tD p]) rfl rfl (is_point_eq h1 (Bt_le bp (by decide)))) rfl rfl))).trans ((or_f (test_ok (op_ok (call_ok (l := [tD l]) rfl rfl (is_line_eq h2 (Bt_le bl (by decide)))) rfl rfl))).trans ?_))).trans rfl
  exact not_ok (b := true) (tru_ok (d := .bl true) (call_ok (l := [tD p, tD l, tD s]) rfl rfl (right_eq h1 h2 h3 bp bl bs)) rfl)
theorem p8_eq (hd : ds.length = 40) (hr : Drawn ds) {a c e : Option Dat} : ∃ m : Nat, m < 2 ^ 66 ∧ P8 [a, some (.lst (ds.map .int)), c, e, f, g, none, h, i, j, k] = .nx [a, some (.lst (ds.map .int)), c, e, f, g, some (.int m), h, i, j, k] := by
  have r1 := hr _ (List.getElem_mem (show 15 < ds.length by omega))
  have q1 := Int.emod_nonneg (ds[17]'(by omega)) (show (3 : Int) ≠ 0 by decide)
  have q2 := Int.emod_lt_of_pos (ds[17]'(by omega)) (show (0 : Int) < 3 by decide)
  obtain ⟨w, w1, w2, e1⟩ : ∃ w : Int, 1 ≤ w ∧ w ≤ 300000000000000 ∧ ixD (.lst [.int 1, .int 65521, .int (65521 * 65521 * 65521)]) (.int ((ds[16]'(by omega)) % 3)) = some (.int w) := by
    have : (ds[16]'(by omega)) % 3 = 0 ∨ (ds[16]'(by omega)) % 3 = 1 ∨ (ds[16]'(by omega)) % 3 = 2 := by omega
    rcases this with z | z | z <;> rw [z]
    · exact ⟨1, by decide, by decide, rfl⟩
    · exact ⟨65521, by decide, by decide, rfl⟩
    · exact ⟨65521 * 65521 * 65521, by decide, by decide, rfl⟩
  generalize hx : ds[15] = x at *
  have hxw : 0 ≤ x * w := Int.mul_nonneg r1.1 (by omega)
  have hxw2 : x * w ≤ 65521 * 300000000000000 := Int.mul_le_mul (by omega) w2 (by omega) (by decide)
  refine ⟨(x * w + (ds[17]'(by omega)) % 3).toNat, by omega, (asg_ok (d := .int (((x * w + (ds[17]'(by omega)) % 3).toNat : Nat) : Int)) ?_).trans rfl⟩
  rw [Int.toNat_of_nonneg (by omega)]
  have hm1 : mulOk 65521 65521 = true := by decide +kernel
  have hm2 : mulOk (65521 * 65521) 65521 = true := by decide +kernel
  refine add_i (mul_i ?_ (op_ok (x := .lst [.int 1, .int 65521, .int (65521 * 65521 * 65521)]) (vl_ok (lst_ok (ac_ok rfl (ac_ok rfl (ac_ok (mul_i (mul_i rfl rfl hm1) rfl hm2) an_ok))) (by decide))) (mod_i (drw (ds := ds) (j := 16) rfl rfl rfl (by omega)) rfl (by decide)) e1) ?_) (mod_i (drw (ds := ds) (j := 17) rfl rfl rfl (by omega)) rfl (by decide))
  · rw [← hx]
    exact drw (ds := ds) (j := 15) rfl rfl rfl (by omega)
  · have e : x.natAbs < 2 ^ 64 := by omega
    unfold mulOk
    rw [decide_eq_true e]
    rfl
theorem p10_eq {m : Nat} (hm : m < 2 ^ 66) {a b c d e f : Option Dat} : P10 [a, b, c, d, e, f, some (.int m), some (.int ((m * m : Nat) : Int)), i, j, k] = .nx [a, b, c, d, e, f, some (.int m), some (.int ((m * m : Nat) : Int)), i, j, k] := by
  have hm70 : m < 2 ^ 70 := by omega
  have hb : m * m < 2 ^ 132 := by
    have := Nat.mul_lt_mul'' hm hm
    rw [← Nat.pow_add] at this
    exact this
  have h0 := root_sq hm70
  have ne : neD (.int m) (.int m) = some (.bl false) := by rw [ne_ii, beq_self_eq_true]; rfl
  refine (if_f ((or_f (test_ok (op_ok (call_ok (l := [.int ((m * m : Nat) : Int)]) rfl rfl h0) rfl ne))).trans ?_)).trans rfl
  have g1 := gt_i (f := vVar 6) (g := vC (.int 0)) (ρ := [a, b, c, d, e, f, some (.int m), some (.int ((m * m : Nat) : Int)), i, j, k]) (a := m) (b := 0) rfl rfl
  have g2 := gt_i (f := vVar 6) (g := vC (.int 1)) (ρ := [a, b, c, d, e, f, some (.int m), some (.int ((m * m : Nat) : Int)), i, j, k]) (a := m) (b := 1) rfl rfl
  by_cases z : (0 : Int) < m
  · rw [decide_eq_true z] at g1
    have hs : (m + 1) * (m + 1) = m * m + m + m + 1 := by grind
    have n1 := root_non (k := m * m + 1) (m := m) (by omega) (by omega) (by omega)
    refine (and_t g1).trans ((or_f (test_ok (op_ok (x := .non) (y := .non) (call_ok (l := [.int ((m * m + 1 : Nat) : Int)]) (ac_ok (op_ok (x := .int ((m * m : Nat) : Int)) (y := .int 1) rfl rfl rfl) an_ok) rfl n1) rfl rfl))).trans ?_)
    by_cases y : (1 : Int) < m
    · rw [decide_eq_true y] at g2
      obtain ⟨q, rfl⟩ : ∃ q, m = q + 1 := ⟨m - 1, by omega⟩
      have hs2 : (q + 1) * (q + 1) = q * q + q + q + 1 := by grind
      have n2 := root_non (k := (q + 1) * (q + 1) - 1) (m := q) (by omega) (by omega) (by omega)
      refine (and_t g2).trans (test_ok (op_ok (x := .non) (y := .non) (call_ok (l := [.int (((q + 1) * (q + 1) - 1 : Nat) : Int)]) (ac_ok (op_ok (x := .int (((q + 1) * (q + 1) : Nat) : Int)) (y := .int 1) rfl rfl ?_) an_ok) rfl n2) rfl rfl))
      show some (Dat.int ((((q + 1) * (q + 1) : Nat) : Int) - 1)) = _
      congr 2
      omega
    · rw [decide_eq_false y] at g2
      exact and_f g2
  · rw [decide_eq_false z] at g1
    exact and_f g1
end
theorem law_true : ∀ ns : List Int, ns.length ≤ 63 → D_law [.frz (ns.map .int)] = .ok (.bl true) := fun ns _ => by
  obtain ⟨ds, hds, hdl, hdr⟩ := draws_eq (m := 40) (by decide) ns
  obtain ⟨S, hS⟩ : ∃ S, S = Dat.frz (ns.map .int) := ⟨_, rfl⟩
  rw [← hS] at hds ⊢
  obtain ⟨p, hp, bp, ep⟩ := some_pt (ds := ds) (at_ := 0) (by omega)
  obtain ⟨l, hl, bl, el⟩ := some_ln (ds := ds) (at_ := 4) (by omega)
  obtain ⟨s, hs, bs, es⟩ := some_ln (ds := ds) (at_ := 8) (by omega)
  have bl' := Bt_le bl (show 20 ≤ 22 by decide)
  refine run_rt ?_
  refine (seq_nx (ρ' := [some S, some (.lst (ds.map .int)), none, none, none, none, none, none, none, none, none]) ((asg_ok (call_ok (l := [S, .int ((40 : Nat) : Int)]) rfl rfl hds)).trans rfl)).trans ?_
  refine (seq_nx (ρ' := [some S, some (.lst (ds.map .int)), some (tD p), some (tD l), some (tD s), none, none, none, none, none, none]) ?_).trans ?_
  · exact asgT_ok (d := .tup [tD p, tD l, tD s]) (tup_ok (ac_ok (call_ok (l := [.lst (ds.map .int), .int ((0 : Nat) : Int), .str "point"]) rfl rfl ep) (ac_ok (call_ok (l := [.lst (ds.map .int), .int ((4 : Nat) : Int), .str "line"]) rfl rfl el) (ac_ok (call_ok (l := [.lst (ds.map .int), .int ((8 : Nat) : Int), .str "line"]) rfl rfl es) an_ok))) (by show 3 ≤ 1000; decide)) rfl
  obtain ⟨s2, hs2, bs2, e2⟩ := p2_eq (S := S) (p := p) (f := none) (g := none) (h := none) (i := none) (j := none) (k := none) hdl hl bl hs (Bt_le bs (by decide))
  refine (seq_nx e2).trans ?_
  obtain ⟨s3, hs3, bs3, e3⟩ := p3_eq (S := S) (p := p) (f := none) (g := none) (h := none) (i := none) (j := none) (k := none) hdl hl bl hs2 bs2
  refine (seq_nx e3).trans ?_
  have t1 := Int.emod_nonneg (ds[14]'(by omega)) (show (50 : Int) ≠ 0 by decide)
  have t2 := Int.emod_lt_of_pos (ds[14]'(by omega)) (show (0 : Int) < 50 by decide)
  refine (seq_nx (ρ' := [some S, some (.lst (ds.map .int)), some (tD p), some (tD l), some (tD s3), some (.int (1 + (ds[14]'(by omega)) % 50)), none, none, none, none, none]) ((asg_ok (add_i rfl (mod_i (drw (ds := ds) (j := 14) rfl rfl rfl (by omega)) rfl (by decide)))).trans rfl)).trans ?_
  refine (seq_nx (p5_eq hp bp (by omega) (by omega))).trans ?_
  refine (seq_nx (p6_eq hl bl' (by omega) (by omega))).trans ?_
  refine (seq_nx (p7_eq hp hl hs3 bp bl' bs3)).trans ?_
  obtain ⟨m, hm, e8⟩ := p8_eq (a := some S) (c := some (tD p)) (e := some (tD l)) (f := some (tD s3)) (g := some (.int (1 + (ds[14]'(by omega)) % 50))) (h := none) (i := none) (j := none) (k := none) hdl hdr
  refine (seq_nx e8).trans ?_
  refine (seq_nx (ρ' := [some S, some (.lst (ds.map .int)), some (tD p), some (tD l), some (tD s3), some (.int (1 + (ds[14]'(by omega)) % 50)), some (.int m), some (.int ((m * m : Nat) : Int)), none, none, none]) ((asg_ok (op_ok (x := .int m) (y := .int m) rfl rfl (mulN (by omega) (by omega)))).trans rfl)).trans ?_
  refine (seq_nx (p10_eq hm)).trans ?_
  refine (seq_nx p11_eq).trans ((seq_nx p12_eq).trans ((seq_nx p13_eq).trans ((seq_nx p14_eq).trans ?_)))
  obtain ⟨j', e15⟩ := p15_eq (a := some S) (b := some (.lst (ds.map .int))) (e := some (tD s3)) (f := some (.int (1 + (ds[14]'(by omega)) % 50))) (g := some (.int m)) (h := some (.int ((m * m : Nat) : Int))) (i := some bads) (j := none) (k := none) hp hl (Bt_le bp (by decide)) (Bt_le bl' (by decide))
  exact (seq_nx e15).trans p16_eq
end Lw
namespace Lw
open PySem PySem.Spec PyProof.Rows L2 Dl
theorem all_mk {l : PySem.W.OpenLaw} {w : World} {K : PySem.W.Frag} {h : Heap} {mg : Str → Option Value} {fa : Addr} (law_true : ∀ ns : List Int, ns.length ≤ 63 → D_law [.frz (ns.map .int)] = .ok (.bl true)) (X : K.In h) (G : h.Ns mainGlobals mg) (hfa : mg "law" = some (.ref fa))
    {f0 f1 f2 f3 f4 f5 f6 f7 f8 f9 f10 f11 f12 f13 f14 f15 f16 f17 f18 f19 f20 f21 f22 f23 f24 f25 f26 f27 C_BadPoint C_BadLine : Addr} {od0 an0 od1 an1 od2 an2 od3 an3 od4 an4 od5 an5 od6 an6 od7 an7 od8 an8 od9 an9 od10 an10 od11 an11 od12 an12 od13 an13 od14 an14 od15 an15 od16 an16 od17 an17 od18 an18 od19 an19 od20 an20 od21 an21 od22 an22 od23 an23 od24 an24 od25 an25 od26 an26 od27 an27 : Option Addr} {sl0 sl1 sl2 sl3 sl4 sl5 sl6 sl7 sl8 sl9 sl10 sl11 sl12 sl13 sl14 sl15 sl16 sl17 sl18 sl19 sl20 sl21 sl22 sl23 sl24 sl25 sl26 sl27 : Array (Option Value)} {oc0 kV0 dc0 pm0 cd0 ct0 oc1 kV1 dc1 pm1 cd1 ct1 oc2 kV2 dc2 pm2 cd2 ct2 oc3 kV3 dc3 pm3 cd3 ct3 oc4 kV4 dc4 pm4 cd4 ct4 oc5 kV5 dc5 pm5 cd5 ct5 oc6 kV6 dc6 pm6 cd6 ct6 oc7 kV7 dc7 pm7 cd7 ct7 oc8 kV8 dc8 pm8 cd8 ct8 oc9 kV9 dc9 pm9 cd9 ct9 oc10 kV10 dc10 pm10 cd10 ct10 oc11 kV11 dc11 pm11 cd11 ct11 oc12 kV12 dc12 pm12 cd12 ct12 oc13 kV13 dc13 pm13 cd13 ct13 oc14 kV14 dc14 pm14 cd14 ct14 oc15 kV15 dc15 pm15 cd15 ct15 oc16 kV16 dc16 pm16 cd16 ct16 oc17 kV17 dc17 pm17 cd17 ct17 oc18 kV18 dc18 pm18 cd18 ct18 oc19 kV19 dc19 pm19 cd19 ct19 oc20 kV20 dc20 pm20 cd20 ct20 oc21 kV21 dc21 pm21 cd21 ct21 oc22 kV22 dc22 pm22 cd22 ct22 oc23 kV23 dc23 pm23 cd23 ct23 oc24 kV24 dc24 pm24 cd24 ct24 oc25 kV25 dc25 pm25 cd25 ct25 oc26 kV26 dc26 pm26 cd26 ct26 oc27 kV27 dc27 pm27 cd27 ct27 : Value}
    (a0 : PySem.W.nsIn K mainGlobals "is_integer" = some (some (.ref f0)))
    (l0 : K.lookup f0 = some ⟨oc0, od0, .func (PySem.W.fnOf "is_integer" "is_integer" (defArgs s_is_integer) (defBody s_is_integer) (defScope s_is_integer) .none kV0 dc0 pm0 an0 cd0 ct0), sl0⟩)
    (c0 : PySem.W.codeIn K cd0 "is_integer" = true)
    (k0 : PySem.W.keepIn K (.ref f0) = true)
    (a1 : PySem.W.nsIn K mainGlobals "divisor" = some (some (.ref f1)))
    (l1 : K.lookup f1 = some ⟨oc1, od1, .func (PySem.W.fnOf "divisor" "divisor" (defArgs s_divisor) (defBody s_divisor) (defScope s_divisor) .none kV1 dc1 pm1 an1 cd1 ct1), sl1⟩)
    (c1 : PySem.W.codeIn K cd1 "divisor" = true)
    (k1 : PySem.W.keepIn K (.ref f1) = true)
    (a2 : PySem.W.nsIn K mainGlobals "_are_integers" = some (some (.ref f2)))
    (l2 : K.lookup f2 = some ⟨oc2, od2, .func (PySem.W.fnOf "_are_integers" "_are_integers" (defArgs s__are_integers) (defBody s__are_integers) (defScope s__are_integers) .none kV2 dc2 pm2 an2 cd2 ct2), sl2⟩)
    (c2 : PySem.W.codeIn K cd2 "_are_integers" = true)
    (k2 : PySem.W.keepIn K (.ref f2) = true)
    (a3 : PySem.W.nsIn K mainGlobals "is_point" = some (some (.ref f3)))
    (l3 : K.lookup f3 = some ⟨oc3, od3, .func (PySem.W.fnOf "is_point" "is_point" (defArgs s_is_point) (defBody s_is_point) (defScope s_is_point) .none kV3 dc3 pm3 an3 cd3 ct3), sl3⟩)
    (c3 : PySem.W.codeIn K cd3 "is_point" = true)
    (k3 : PySem.W.keepIn K (.ref f3) = true)
    (a4 : PySem.W.nsIn K mainGlobals "is_line" = some (some (.ref f4)))
    (l4 : K.lookup f4 = some ⟨oc4, od4, .func (PySem.W.fnOf "is_line" "is_line" (defArgs s_is_line) (defBody s_is_line) (defScope s_is_line) .none kV4 dc4 pm4 an4 cd4 ct4), sl4⟩)
    (c4 : PySem.W.codeIn K cd4 "is_line" = true)
    (k4 : PySem.W.keepIn K (.ref f4) = true)
    (a5 : PySem.W.nsIn K mainGlobals "point" = some (some (.ref f5)))
    (l5 : K.lookup f5 = some ⟨oc5, od5, .func (PySem.W.fnOf "point" "point" (defArgs s_point) (defBody s_point) (defScope s_point) .none kV5 dc5 pm5 an5 cd5 ct5), sl5⟩)
    (c5 : PySem.W.codeIn K cd5 "point" = true)
    (k5 : PySem.W.keepIn K (.ref f5) = true)
    (a6 : PySem.W.nsIn K mainGlobals "line" = some (some (.ref f6)))
    (l6 : K.lookup f6 = some ⟨oc6, od6, .func (PySem.W.fnOf "line" "line" (defArgs s_line) (defBody s_line) (defScope s_line) .none kV6 dc6 pm6 an6 cd6 ct6), sl6⟩)
    (c6 : PySem.W.codeIn K cd6 "line" = true)
    (k6 : PySem.W.keepIn K (.ref f6) = true)
    (a7 : PySem.W.nsIn K mainGlobals "check_points" = some (some (.ref f7)))
    (l7 : K.lookup f7 = some ⟨oc7, od7, .func (PySem.W.fnOf "check_points" "check_points" (defArgs s_check_points) (defBody s_check_points) (defScope s_check_points) .none kV7 dc7 pm7 an7 cd7 ct7), sl7⟩)
    (c7 : PySem.W.codeIn K cd7 "check_points" = true)
    (k7 : PySem.W.keepIn K (.ref f7) = true)
    (a8 : PySem.W.nsIn K mainGlobals "check_lines" = some (some (.ref f8)))
    (l8 : K.lookup f8 = some ⟨oc8, od8, .func (PySem.W.fnOf "check_lines" "check_lines" (defArgs s_check_lines) (defBody s_check_lines) (defScope s_check_lines) .none kV8 dc8 pm8 an8 cd8 ct8), sl8⟩)
    (c8 : PySem.W.codeIn K cd8 "check_lines" = true)
    (k8 : PySem.W.keepIn K (.ref f8) = true)
    (a9 : PySem.W.nsIn K mainGlobals "side_of" = some (some (.ref f9)))
    (l9 : K.lookup f9 = some ⟨oc9, od9, .func (PySem.W.fnOf "side_of" "side_of" (defArgs s_side_of) (defBody s_side_of) (defScope s_side_of) .none kV9 dc9 pm9 an9 cd9 ct9), sl9⟩)
    (c9 : PySem.W.codeIn K cd9 "side_of" = true)
    (k9 : PySem.W.keepIn K (.ref f9) = true)
    (a10 : PySem.W.nsIn K mainGlobals "lies_on" = some (some (.ref f10)))
    (l10 : K.lookup f10 = some ⟨oc10, od10, .func (PySem.W.fnOf "lies_on" "lies_on" (defArgs s_lies_on) (defBody s_lies_on) (defScope s_lies_on) .none kV10 dc10 pm10 an10 cd10 ct10), sl10⟩)
    (c10 : PySem.W.codeIn K cd10 "lies_on" = true)
    (k10 : PySem.W.keepIn K (.ref f10) = true)
    (a11 : PySem.W.nsIn K mainGlobals "cross" = some (some (.ref f11)))
    (l11 : K.lookup f11 = some ⟨oc11, od11, .func (PySem.W.fnOf "cross" "cross" (defArgs s_cross) (defBody s_cross) (defScope s_cross) .none kV11 dc11 pm11 an11 cd11 ct11), sl11⟩)
    (c11 : PySem.W.codeIn K cd11 "cross" = true)
    (k11 : PySem.W.keepIn K (.ref f11) = true)
    (a12 : PySem.W.nsIn K mainGlobals "mirrored" = some (some (.ref f12)))
    (l12 : K.lookup f12 = some ⟨oc12, od12, .func (PySem.W.fnOf "mirrored" "mirrored" (defArgs s_mirrored) (defBody s_mirrored) (defScope s_mirrored) .none kV12 dc12 pm12 an12 cd12 ct12), sl12⟩)
    (c12 : PySem.W.codeIn K cd12 "mirrored" = true)
    (k12 : PySem.W.keepIn K (.ref f12) = true)
    (a13 : PySem.W.nsIn K mainGlobals "joined" = some (some (.ref f13)))
    (l13 : K.lookup f13 = some ⟨oc13, od13, .func (PySem.W.fnOf "joined" "joined" (defArgs s_joined) (defBody s_joined) (defScope s_joined) .none kV13 dc13 pm13 an13 cd13 ct13), sl13⟩)
    (c13 : PySem.W.codeIn K cd13 "joined" = true)
    (k13 : PySem.W.keepIn K (.ref f13) = true)
    (a14 : PySem.W.nsIn K mainGlobals "mirrored_line" = some (some (.ref f14)))
    (l14 : K.lookup f14 = some ⟨oc14, od14, .func (PySem.W.fnOf "mirrored_line" "mirrored_line" (defArgs s_mirrored_line) (defBody s_mirrored_line) (defScope s_mirrored_line) .none kV14 dc14 pm14 an14 cd14 ct14), sl14⟩)
    (c14 : PySem.W.codeIn K cd14 "mirrored_line" = true)
    (k14 : PySem.W.keepIn K (.ref f14) = true)
    (a15 : PySem.W.nsIn K mainGlobals "in_sheet" = some (some (.ref f15)))
    (l15 : K.lookup f15 = some ⟨oc15, od15, .func (PySem.W.fnOf "in_sheet" "in_sheet" (defArgs s_in_sheet) (defBody s_in_sheet) (defScope s_in_sheet) .none kV15 dc15 pm15 an15 cd15 ct15), sl15⟩)
    (c15 : PySem.W.codeIn K cd15 "in_sheet" = true)
    (k15 : PySem.W.keepIn K (.ref f15) = true)
    (a16 : PySem.W.nsIn K mainGlobals "root" = some (some (.ref f16)))
    (l16 : K.lookup f16 = some ⟨oc16, od16, .func (PySem.W.fnOf "root" "root" (defArgs s_root) (defBody s_root) (defScope s_root) .none kV16 dc16 pm16 an16 cd16 ct16), sl16⟩)
    (c16 : PySem.W.codeIn K cd16 "root" = true)
    (k16 : PySem.W.keepIn K (.ref f16) = true)
    (a17 : PySem.W.nsIn K mainGlobals "_law_draws" = some (some (.ref f17)))
    (l17 : K.lookup f17 = some ⟨oc17, od17, .func (PySem.W.fnOf "_law_draws" "_law_draws" (defArgs s__law_draws) (defBody s__law_draws) (defScope s__law_draws) .none kV17 dc17 pm17 an17 cd17 ct17), sl17⟩)
    (c17 : PySem.W.codeIn K cd17 "_law_draws" = true)
    (k17 : PySem.W.keepIn K (.ref f17) = true)
    (a18 : PySem.W.nsIn K mainGlobals "_law_lowest" = some (some (.ref f18)))
    (l18 : K.lookup f18 = some ⟨oc18, od18, .func (PySem.W.fnOf "_law_lowest" "_law_lowest" (defArgs s__law_lowest) (defBody s__law_lowest) (defScope s__law_lowest) .none kV18 dc18 pm18 an18 cd18 ct18), sl18⟩)
    (c18 : PySem.W.codeIn K cd18 "_law_lowest" = true)
    (k18 : PySem.W.keepIn K (.ref f18) = true)
    (a19 : PySem.W.nsIn K mainGlobals "_law_point" = some (some (.ref f19)))
    (l19 : K.lookup f19 = some ⟨oc19, od19, .func (PySem.W.fnOf "_law_point" "_law_point" (defArgs s__law_point) (defBody s__law_point) (defScope s__law_point) .none kV19 dc19 pm19 an19 cd19 ct19), sl19⟩)
    (c19 : PySem.W.codeIn K cd19 "_law_point" = true)
    (k19 : PySem.W.keepIn K (.ref f19) = true)
    (a20 : PySem.W.nsIn K mainGlobals "_law_line" = some (some (.ref f20)))
    (l20 : K.lookup f20 = some ⟨oc20, od20, .func (PySem.W.fnOf "_law_line" "_law_line" (defArgs s__law_line) (defBody s__law_line) (defScope s__law_line) .none kV20 dc20 pm20 an20 cd20 ct20), sl20⟩)
    (c20 : PySem.W.codeIn K cd20 "_law_line" = true)
    (k20 : PySem.W.keepIn K (.ref f20) = true)
    (a21 : PySem.W.nsIn K mainGlobals "_law_side" = some (some (.ref f21)))
    (l21 : K.lookup f21 = some ⟨oc21, od21, .func (PySem.W.fnOf "_law_side" "_law_side" (defArgs s__law_side) (defBody s__law_side) (defScope s__law_side) .none kV21 dc21 pm21 an21 cd21 ct21), sl21⟩)
    (c21 : PySem.W.codeIn K cd21 "_law_side" = true)
    (k21 : PySem.W.keepIn K (.ref f21) = true)
    (a22 : PySem.W.nsIn K mainGlobals "_law_some" = some (some (.ref f22)))
    (l22 : K.lookup f22 = some ⟨oc22, od22, .func (PySem.W.fnOf "_law_some" "_law_some" (defArgs s__law_some) (defBody s__law_some) (defScope s__law_some) .none kV22 dc22 pm22 an22 cd22 ct22), sl22⟩)
    (c22 : PySem.W.codeIn K cd22 "_law_some" = true)
    (k22 : PySem.W.keepIn K (.ref f22) = true)
    (a23 : PySem.W.nsIn K mainGlobals "_law_between" = some (some (.ref f23)))
    (l23 : K.lookup f23 = some ⟨oc23, od23, .func (PySem.W.fnOf "_law_between" "_law_between" (defArgs s__law_between) (defBody s__law_between) (defScope s__law_between) .none kV23 dc23 pm23 an23 cd23 ct23), sl23⟩)
    (c23 : PySem.W.codeIn K cd23 "_law_between" = true)
    (k23 : PySem.W.keepIn K (.ref f23) = true)
    (a24 : PySem.W.nsIn K mainGlobals "_law_is_mirrored" = some (some (.ref f24)))
    (l24 : K.lookup f24 = some ⟨oc24, od24, .func (PySem.W.fnOf "_law_is_mirrored" "_law_is_mirrored" (defArgs s__law_is_mirrored) (defBody s__law_is_mirrored) (defScope s__law_is_mirrored) .none kV24 dc24 pm24 an24 cd24 ct24), sl24⟩)
    (c24 : PySem.W.codeIn K cd24 "_law_is_mirrored" = true)
    (k24 : PySem.W.keepIn K (.ref f24) = true)
    (a25 : PySem.W.nsIn K mainGlobals "_law_are_right" = some (some (.ref f25)))
    (l25 : K.lookup f25 = some ⟨oc25, od25, .func (PySem.W.fnOf "_law_are_right" "_law_are_right" (defArgs s__law_are_right) (defBody s__law_are_right) (defScope s__law_are_right) .none kV25 dc25 pm25 an25 cd25 ct25), sl25⟩)
    (c25 : PySem.W.codeIn K cd25 "_law_are_right" = true)
    (k25 : PySem.W.keepIn K (.ref f25) = true)
    (a26 : PySem.W.nsIn K mainGlobals "_law_error" = some (some (.ref f26)))
    (l26 : K.lookup f26 = some ⟨oc26, od26, .func (PySem.W.fnOf "_law_error" "_law_error" (defArgs s__law_error) (defBody s__law_error) (defScope s__law_error) .none kV26 dc26 pm26 an26 cd26 ct26), sl26⟩)
    (c26 : PySem.W.codeIn K cd26 "_law_error" = true)
    (k26 : PySem.W.keepIn K (.ref f26) = true)
    (a27 : PySem.W.nsIn K mainGlobals "law" = some (some (.ref f27)))
    (l27 : K.lookup f27 = some ⟨oc27, od27, .func (PySem.W.fnOf "law" "law" (defArgs s_law) (defBody s_law) (defScope s_law) .none kV27 dc27 pm27 an27 cd27 ct27), sl27⟩)
    (c27 : PySem.W.codeIn K cd27 "law" = true)
    (k27 : PySem.W.keepIn K (.ref f27) = true)
    (ea_BadPoint : PySem.W.nsIn K mainGlobals "BadPoint" = some (some (.ref C_BadPoint)))
    (ek_BadPoint : PySem.W.keepIn K (.ref C_BadPoint) = true)
    (ex_BadPoint : PySem.W.excIn K C_BadPoint [.type "ValueError", .type "Exception", .type "BaseException", .type "object"] "ValueError.__new__" = true)
    (eb_BadPoint : PySem.W.subIn K (.ref C_BadPoint) (.type "BaseException") = some true)
    (et_BadPoint : PySem.W.typeIn K (.ref C_BadPoint) = some (.type "type"))
    (ea_BadLine : PySem.W.nsIn K mainGlobals "BadLine" = some (some (.ref C_BadLine)))
    (ek_BadLine : PySem.W.keepIn K (.ref C_BadLine) = true)
    (ex_BadLine : PySem.W.excIn K C_BadLine [.type "ValueError", .type "Exception", .type "BaseException", .type "object"] "ValueError.__new__" = true)
    (eb_BadLine : PySem.W.subIn K (.ref C_BadLine) (.type "BaseException") = some true)
    (et_BadLine : PySem.W.typeIn K (.ref C_BadLine) = some (.type "type"))
    (ed_BadLine : PySem.W.hasDictIn K C_BadLine = true)
    (es_BadPoint_BadLine : PySem.W.subIn K (.ref C_BadPoint) (.ref C_BadLine) = some false)
    (es_BadLine_BadLine : PySem.W.subIn K (.ref C_BadLine) (.ref C_BadLine) = some true)
    (ed_BadPoint : PySem.W.hasDictIn K C_BadPoint = true)
    (es_BadPoint_BadPoint : PySem.W.subIn K (.ref C_BadPoint) (.ref C_BadPoint) = some true)
    (es_BadLine_BadPoint : PySem.W.subIn K (.ref C_BadLine) (.ref C_BadPoint) = some false)
    (z_abs : PySem.W.nsIn K mainGlobals "abs" = some none)
    (z_all : PySem.W.nsIn K mainGlobals "all" = some none)
    (z_any : PySem.W.nsIn K mainGlobals "any" = some none)
    (z_bool : PySem.W.nsIn K mainGlobals "bool" = some none)
    (z_int : PySem.W.nsIn K mainGlobals "int" = some none)
    (z_isinstance : PySem.W.nsIn K mainGlobals "isinstance" = some none)
    (z_len : PySem.W.nsIn K mainGlobals "len" = some none)
    (z_range : PySem.W.nsIn K mainGlobals "range" = some none)
    (z_tuple : PySem.W.nsIn K mainGlobals "tuple" = some none)
    : ∃ fd : FuncData, (∀ (s : Shared) (u : Value), BindsTo s fd ⟨[u], []⟩ [("script", u)]) ∧ ∀ base : Heap, K.In base → base.Ns mainGlobals mg → FnOk l.prog w K mg base (L2.CX l.prog w) 8 fa fd ["script"] (spLaw K) := by
  have e := hfa.symm.trans (PySem.W.mg_of X G a27)
  cases e
  let T : CT := ⟨fun c => 0, fun c => [], fun c => [Value.ref C_BadPoint, Value.ref C_BadPoint, Value.ref C_BadLine].getD c (.ref C_BadPoint)⟩
  have tx : Txt K mg T w :=
    { b_abs := PySem.W.mg_none_of X G z_abs,
      b_all := PySem.W.mg_none_of X G z_all,
      b_any := PySem.W.mg_none_of X G z_any,
      b_bool := PySem.W.mg_none_of X G z_bool,
      b_int := PySem.W.mg_none_of X G z_int,
      b_isinstance := PySem.W.mg_none_of X G z_isinstance,
      b_len := PySem.W.mg_none_of X G z_len,
      b_range := PySem.W.mg_none_of X G z_range,
      b_tuple := PySem.W.mg_none_of X G z_tuple,
      e_BadPoint := ⟨C_BadPoint, rfl, PySem.W.mg_of X G ea_BadPoint, ek_BadPoint, ex_BadPoint, eb_BadPoint, et_BadPoint⟩,
      e_BadLine := ⟨C_BadLine, rfl, PySem.W.mg_of X G ea_BadLine, ek_BadLine, ex_BadLine, eb_BadLine, et_BadLine⟩,
      n_BadLine := PySem.W.mg_of X G ea_BadLine,
      x_BadLine := fun c => match c with
        | 0 => PySem.W.exm_ref eb_BadLine ed_BadLine et_BadLine es_BadPoint_BadLine
        | 1 => PySem.W.exm_ref eb_BadLine ed_BadLine et_BadLine es_BadPoint_BadLine
        | 2 => PySem.W.exm_ref eb_BadLine ed_BadLine et_BadLine es_BadLine_BadLine
        | _ + 3 => PySem.W.exm_ref eb_BadLine ed_BadLine et_BadLine es_BadPoint_BadLine,
      n_BadPoint := PySem.W.mg_of X G ea_BadPoint,
      x_BadPoint := fun c => match c with
        | 0 => PySem.W.exm_ref eb_BadPoint ed_BadPoint et_BadPoint es_BadPoint_BadPoint
        | 1 => PySem.W.exm_ref eb_BadPoint ed_BadPoint et_BadPoint es_BadPoint_BadPoint
        | 2 => PySem.W.exm_ref eb_BadPoint ed_BadPoint et_BadPoint es_BadLine_BadPoint
        | _ + 3 => PySem.W.exm_ref eb_BadPoint ed_BadPoint et_BadPoint es_BadPoint_BadPoint }
  have F0 := fun_mk (st := s_is_integer) l0 c0 k0
  have F1 := fun_mk (st := s_divisor) l1 c1 k1
  have F2 := fun_mk (st := s__are_integers) l2 c2 k2
  have F3 := fun_mk (st := s_is_point) l3 c3 k3
  have F4 := fun_mk (st := s_is_line) l4 c4 k4
  have F5 := fun_mk (st := s_point) l5 c5 k5
  have F6 := fun_mk (st := s_line) l6 c6 k6
  have F7 := fun_mk (st := s_check_points) l7 c7 k7
  have F8 := fun_mk (st := s_check_lines) l8 c8 k8
  have F9 := fun_mk (st := s_side_of) l9 c9 k9
  have F10 := fun_mk (st := s_lies_on) l10 c10 k10
  have F11 := fun_mk (st := s_cross) l11 c11 k11
  have F12 := fun_mk (st := s_mirrored) l12 c12 k12
  have F13 := fun_mk (st := s_joined) l13 c13 k13
  have F14 := fun_mk (st := s_mirrored_line) l14 c14 k14
  have F15 := fun_mk (st := s_in_sheet) l15 c15 k15
  have F16 := fun_mk (st := s_root) l16 c16 k16
  have F17 := fun_mk (st := s__law_draws) l17 c17 k17
  have F18 := fun_mk (st := s__law_lowest) l18 c18 k18
  have F19 := fun_mk (st := s__law_point) l19 c19 k19
  have F20 := fun_mk (st := s__law_line) l20 c20 k20
  have F21 := fun_mk (st := s__law_side) l21 c21 k21
  have F22 := fun_mk (st := s__law_some) l22 c22 k22
  have F23 := fun_mk (st := s__law_between) l23 c23 k23
  have F24 := fun_mk (st := s__law_is_mirrored) l24 c24 k24
  have F25 := fun_mk (st := s__law_are_right) l25 c25 k25
  have F26 := fun_mk (st := s__law_error) l26 c26 k26
  have F27 := fun_mk (st := s_law) l27 c27 k27
  have b0 := F0.binds (ps := ["value"]) fun _ _ _ _ _ _ us hl => match us, hl with | [_], _ => rfl
  have b1 := F1.binds (ps := ["numbers"]) fun _ _ _ _ _ _ us hl => match us, hl with | [_], _ => rfl
  have b2 := F2.binds (ps := ["value"]) fun _ _ _ _ _ _ us hl => match us, hl with | [_], _ => rfl
  have b3 := F3.binds (ps := ["value"]) fun _ _ _ _ _ _ us hl => match us, hl with | [_], _ => rfl
  have b4 := F4.binds (ps := ["value"]) fun _ _ _ _ _ _ us hl => match us, hl with | [_], _ => rfl
  have b5 := F5.binds (ps := ["x", "y", "w"]) fun _ _ _ _ _ _ us hl => match us, hl with | [_, _, _], _ => rfl
  have b6 := F6.binds (ps := ["a", "b", "c"]) fun _ _ _ _ _ _ us hl => match us, hl with | [_, _, _], _ => rfl
  have b7 := F7.binds (ps := ["values"]) fun _ _ _ _ _ _ us hl => match us, hl with | [_], _ => rfl
  have b8 := F8.binds (ps := ["values"]) fun _ _ _ _ _ _ us hl => match us, hl with | [_], _ => rfl
  have b9 := F9.binds (ps := ["here", "there"]) fun _ _ _ _ _ _ us hl => match us, hl with | [_, _], _ => rfl
  have b10 := F10.binds (ps := ["here", "there"]) fun _ _ _ _ _ _ us hl => match us, hl with | [_, _], _ => rfl
  have b11 := F11.binds (ps := ["first", "second"]) fun _ _ _ _ _ _ us hl => match us, hl with | [_, _], _ => rfl
  have b12 := F12.binds (ps := ["here", "there"]) fun _ _ _ _ _ _ us hl => match us, hl with | [_, _], _ => rfl
  have b13 := F13.binds (ps := ["first", "second"]) fun _ _ _ _ _ _ us hl => match us, hl with | [_, _], _ => rfl
  have b14 := F14.binds (ps := ["first", "there"]) fun _ _ _ _ _ _ us hl => match us, hl with | [_, _], _ => rfl
  have b15 := F15.binds (ps := ["here"]) fun _ _ _ _ _ _ us hl => match us, hl with | [_], _ => rfl
  have b16 := F16.binds (ps := ["number"]) fun _ _ _ _ _ _ us hl => match us, hl with | [_], _ => rfl
  have b17 := F17.binds (ps := ["script", "many"]) fun _ _ _ _ _ _ us hl => match us, hl with | [_, _], _ => rfl
  have b18 := F18.binds (ps := ["numbers", "sign"]) fun _ _ _ _ _ _ us hl => match us, hl with | [_, _], _ => rfl
  have b19 := F19.binds (ps := ["x", "y", "w"]) fun _ _ _ _ _ _ us hl => match us, hl with | [_, _, _], _ => rfl
  have b20 := F20.binds (ps := ["a", "b", "c"]) fun _ _ _ _ _ _ us hl => match us, hl with | [_, _, _], _ => rfl
  have b21 := F21.binds (ps := ["here", "there"]) fun _ _ _ _ _ _ us hl => match us, hl with | [_, _], _ => rfl
  have b22 := F22.binds (ps := ["draws", "at", "kind"]) fun _ _ _ _ _ _ us hl => match us, hl with | [_, _, _], _ => rfl
  have b23 := F23.binds (ps := ["one", "two"]) fun _ _ _ _ _ _ us hl => match us, hl with | [_, _], _ => rfl
  have b24 := F24.binds (ps := ["here", "there", "told"]) fun _ _ _ _ _ _ us hl => match us, hl with | [_, _, _], _ => rfl
  have b25 := F25.binds (ps := ["here", "one", "two"]) fun _ _ _ _ _ _ us hl => match us, hl with | [_, _, _], _ => rfl
  have b26 := F26.binds (ps := ["call", "one", "two"]) fun _ _ _ _ _ _ us hl => match us, hl with | [_, _, _], _ => rfl
  have b27 := F27.binds (ps := ["script"]) fun _ _ _ _ _ _ us hl => match us, hl with | [_], _ => rfl
  refine ⟨PySem.W.fnOf "law" "law" (defArgs s_law) (defBody s_law) (defScope s_law) .none kV27 dc27 pm27 an27 cd27 ct27, fun s v => .of_eq rfl, fun base _ _ => ?_⟩
  have h_is_integer : FnD l.prog w K mg base T 1 "is_integer" 1 D_is_integer := FnD.mk' (PySem.W.mg_of X G a0) F0 b0 (ok_is_integer tx F0)
  have h_divisor : FnD l.prog w K mg base T 1 "divisor" 1 D_divisor := FnD.mk' (PySem.W.mg_of X G a1) F1 b1 (ok_divisor tx F1)
  have h__are_integers : FnD l.prog w K mg base T 2 "_are_integers" 1 D__are_integers := FnD.mk' (PySem.W.mg_of X G a2) F2 b2 (ok__are_integers tx h_is_integer F2)
  have h_is_point : FnD l.prog w K mg base T 3 "is_point" 1 D_is_point := FnD.mk' (PySem.W.mg_of X G a3) F3 b3 (ok_is_point tx h__are_integers h_divisor F3)
  have h_is_line : FnD l.prog w K mg base T 3 "is_line" 1 D_is_line := FnD.mk' (PySem.W.mg_of X G a4) F4 b4 (ok_is_line tx h__are_integers h_divisor F4)
  have h_point : FnD l.prog w K mg base T 3 "point" 3 D_point := FnD.mk' (PySem.W.mg_of X G a5) F5 b5 (ok_point tx h__are_integers h_divisor F5)
  have h_line : FnD l.prog w K mg base T 3 "line" 3 D_line := FnD.mk' (PySem.W.mg_of X G a6) F6 b6 (ok_line tx h__are_integers h_divisor F6)
  have h_check_points : FnD l.prog w K mg base T 4 "check_points" 1 D_check_points := FnD.mk' (PySem.W.mg_of X G a7) F7 b7 (ok_check_points tx h_is_point F7)
  have h_check_lines : FnD l.prog w K mg base T 4 "check_lines" 1 D_check_lines := FnD.mk' (PySem.W.mg_of X G a8) F8 b8 (ok_check_lines tx h_is_line F8)
  have h_side_of : FnD l.prog w K mg base T 1 "side_of" 2 D_side_of := FnD.mk' (PySem.W.mg_of X G a9) F9 b9 (ok_side_of tx F9)
  have h_lies_on : FnD l.prog w K mg base T 5 "lies_on" 2 D_lies_on := FnD.mk' (PySem.W.mg_of X G a10) F10 b10 (ok_lies_on tx h_check_lines h_check_points h_side_of F10)
  have h_cross : FnD l.prog w K mg base T 5 "cross" 2 D_cross := FnD.mk' (PySem.W.mg_of X G a11) F11 b11 (ok_cross tx h_check_lines h_point F11)
  have h_mirrored : FnD l.prog w K mg base T 5 "mirrored" 2 D_mirrored := FnD.mk' (PySem.W.mg_of X G a12) F12 b12 (ok_mirrored tx h_check_lines h_check_points h_point h_side_of F12)
  have h_joined : FnD l.prog w K mg base T 4 "joined" 2 D_joined := FnD.mk' (PySem.W.mg_of X G a13) F13 b13 (ok_joined tx h_line F13)
  have h_mirrored_line : FnD l.prog w K mg base T 6 "mirrored_line" 2 D_mirrored_line := FnD.mk' (PySem.W.mg_of X G a14) F14 b14 (ok_mirrored_line tx h_check_lines h_joined h_mirrored h_point F14)
  have h_in_sheet : FnD l.prog w K mg base T 5 "in_sheet" 1 D_in_sheet := FnD.mk' (PySem.W.mg_of X G a15) F15 b15 (ok_in_sheet tx h_check_points F15)
  have h_root : FnD l.prog w K mg base T 2 "root" 1 D_root := FnD.mk' (PySem.W.mg_of X G a16) F16 b16 (ok_root tx h_is_integer F16)
  have h__law_draws : FnD l.prog w K mg base T 1 "_law_draws" 2 D__law_draws := FnD.mk' (PySem.W.mg_of X G a17) F17 b17 (ok__law_draws tx F17)
  have h__law_lowest : FnD l.prog w K mg base T 1 "_law_lowest" 2 D__law_lowest := FnD.mk' (PySem.W.mg_of X G a18) F18 b18 (ok__law_lowest tx F18)
  have h__law_point : FnD l.prog w K mg base T 2 "_law_point" 3 D__law_point := FnD.mk' (PySem.W.mg_of X G a19) F19 b19 (ok__law_point tx h__law_lowest F19)
  have h__law_line : FnD l.prog w K mg base T 2 "_law_line" 3 D__law_line := FnD.mk' (PySem.W.mg_of X G a20) F20 b20 (ok__law_line tx h__law_lowest F20)
  have h__law_side : FnD l.prog w K mg base T 1 "_law_side" 2 D__law_side := FnD.mk' (PySem.W.mg_of X G a21) F21 b21 (ok__law_side tx F21)
  have h__law_some : FnD l.prog w K mg base T 3 "_law_some" 3 D__law_some := FnD.mk' (PySem.W.mg_of X G a22) F22 b22 (ok__law_some tx h__law_line h__law_point F22)
  have h__law_between : FnD l.prog w K mg base T 3 "_law_between" 2 D__law_between := FnD.mk' (PySem.W.mg_of X G a23) F23 b23 (ok__law_between tx h__law_point F23)
  have h__law_is_mirrored : FnD l.prog w K mg base T 4 "_law_is_mirrored" 3 D__law_is_mirrored := FnD.mk' (PySem.W.mg_of X G a24) F24 b24 (ok__law_is_mirrored tx h__law_between h__law_side h_is_point F24)
  have h__law_are_right : FnD l.prog w K mg base T 7 "_law_are_right" 3 D__law_are_right := FnD.mk' (PySem.W.mg_of X G a25) F25 b25 (ok__law_are_right tx h__law_is_mirrored h__law_point h__law_side h_cross h_in_sheet h_is_line h_is_point h_lies_on h_mirrored h_mirrored_line F25)
  have h__law_error : FnD l.prog w K mg base T 7 "_law_error" 3 D__law_error := FnD.mk' (PySem.W.mg_of X G a26) F26 b26 (ok__law_error tx h_cross h_in_sheet h_lies_on h_line h_mirrored h_mirrored_line h_point h_root F26)
  exact law_imp (ok_law tx h__law_are_right h__law_draws h__law_error h__law_line h__law_some h_is_line h_is_point h_line h_point h_root F27) law_true
end Lw
open PySem PySem.W PyProof.Rows
set_option maxRecDepth 100000 in
set_option maxHeartbeats 0 in
theorem PySem.Challenge.cw_creasewrit_k60_points_and_lines_holds : PySem.Challenge.rw_creasewrit_k60_points_and_lines.Holds := by
  w_on; o_law; k_head; (case hw => w_witness2)
  k_fill
  refine Dl.walk_law (l := PySem.Challenge.rw_creasewrit_k60_points_and_lines) (k := 8) rfl rfl ⟨rfl, by decide, by decide⟩ (fun w h Y => PySem.W.kIn_of Y) ?F
  case F =>
    intro w mg fa h KX G hmg
    refine' Lw.all_mk Lw.law_true KX G hmg ?a0 ?l0 ?c0 ?k0 ?a1 ?l1 ?c1 ?k1 ?a2 ?l2 ?c2 ?k2 ?a3 ?l3 ?c3 ?k3 ?a4 ?l4 ?c4 ?k4 ?a5 ?l5 ?c5 ?k5 ?a6 ?l6 ?c6 ?k6 ?a7 ?l7 ?c7 ?k7 ?a8 ?l8 ?c8 ?k8 ?a9 ?l9 ?c9 ?k9 ?a10 ?l10 ?c10 ?k10 ?a11 ?l11 ?c11 ?k11 ?a12 ?l12 ?c12 ?k12 ?a13 ?l13 ?c13 ?k13 ?a14 ?l14 ?c14 ?k14 ?a15 ?l15 ?c15 ?k15 ?a16 ?l16 ?c16 ?k16 ?a17 ?l17 ?c17 ?k17 ?a18 ?l18 ?c18 ?k18 ?a19 ?l19 ?c19 ?k19 ?a20 ?l20 ?c20 ?k20 ?a21 ?l21 ?c21 ?k21 ?a22 ?l22 ?c22 ?k22 ?a23 ?l23 ?c23 ?k23 ?a24 ?l24 ?c24 ?k24 ?a25 ?l25 ?c25 ?k25 ?a26 ?l26 ?c26 ?k26 ?a27 ?l27 ?c27 ?k27 ?ea_BadPoint ?ek_BadPoint ?ex_BadPoint ?eb_BadPoint ?et_BadPoint ?ea_BadLine ?ek_BadLine ?ex_BadLine ?eb_BadLine ?et_BadLine ?ed_BadLine ?es_BadPoint_BadLine ?es_BadLine_BadLine ?ed_BadPoint ?es_BadPoint_BadPoint ?es_BadLine_BadPoint ?z_abs ?z_all ?z_any ?z_bool ?z_int ?z_isinstance ?z_len ?z_range ?z_tuple
    (case a0 => k_is)
    (case l0 => k_is)
    (case c0 => k_is)
    (case k0 => k_is)
    (case a1 => k_is)
    (case l1 => k_is)
    (case c1 => k_is)
    (case k1 => k_is)
    (case a2 => k_is)
    (case l2 => k_is)
    (case c2 => k_is)
    (case k2 => k_is)
    (case a3 => k_is)
    (case l3 => k_is)
    (case c3 => k_is)
    (case k3 => k_is)
    (case a4 => k_is)
    (case l4 => k_is)
    (case c4 => k_is)
    (case k4 => k_is)
    (case a5 => k_is)
    (case l5 => k_is)
    (case c5 => k_is)
    (case k5 => k_is)
    (case a6 => k_is)
    (case l6 => k_is)
    (case c6 => k_is)
    (case k6 => k_is)
    (case a7 => k_is)
    (case l7 => k_is)
    (case c7 => k_is)
    (case k7 => k_is)
    (case a8 => k_is)
    (case l8 => k_is)
    (case c8 => k_is)
    (case k8 => k_is)
    (case a9 => k_is)
    (case l9 => k_is)
    (case c9 => k_is)
    (case k9 => k_is)
    (case a10 => k_is)
    (case l10 => k_is)
    (case c10 => k_is)
    (case k10 => k_is)
    (case a11 => k_is)
    (case l11 => k_is)
    (case c11 => k_is)
    (case k11 => k_is)
    (case a12 => k_is)
    (case l12 => k_is)
    (case c12 => k_is)
    (case k12 => k_is)
    (case a13 => k_is)
    (case l13 => k_is)
    (case c13 => k_is)
    (case k13 => k_is)
    (case a14 => k_is)
    (case l14 => k_is)
    (case c14 => k_is)
    (case k14 => k_is)
    (case a15 => k_is)
    (case l15 => k_is)
    (case c15 => k_is)
    (case k15 => k_is)
    (case a16 => k_is)
    (case l16 => k_is)
    (case c16 => k_is)
    (case k16 => k_is)
    (case a17 => k_is)
    (case l17 => k_is)
    (case c17 => k_is)
    (case k17 => k_is)
    (case a18 => k_is)
    (case l18 => k_is)
    (case c18 => k_is)
    (case k18 => k_is)
    (case a19 => k_is)
    (case l19 => k_is)
    (case c19 => k_is)
    (case k19 => k_is)
    (case a20 => k_is)
    (case l20 => k_is)
    (case c20 => k_is)
    (case k20 => k_is)
    (case a21 => k_is)
    (case l21 => k_is)
    (case c21 => k_is)
    (case k21 => k_is)
    (case a22 => k_is)
    (case l22 => k_is)
    (case c22 => k_is)
    (case k22 => k_is)
    (case a23 => k_is)
    (case l23 => k_is)
    (case c23 => k_is)
    (case k23 => k_is)
    (case a24 => k_is)
    (case l24 => k_is)
    (case c24 => k_is)
    (case k24 => k_is)
    (case a25 => k_is)
    (case l25 => k_is)
    (case c25 => k_is)
    (case k25 => k_is)
    (case a26 => k_is)
    (case l26 => k_is)
    (case c26 => k_is)
    (case k26 => k_is)
    (case a27 => k_is)
    (case l27 => k_is)
    (case c27 => k_is)
    (case k27 => k_is)
    (case ea_BadPoint => k_is)
    (case ek_BadPoint => k_is)
    (case ex_BadPoint => k_exc)
    (case eb_BadPoint => k_is)
    (case et_BadPoint => k_is)
    (case ea_BadLine => k_is)
    (case ek_BadLine => k_is)
    (case ex_BadLine => k_exc)
    (case eb_BadLine => k_is)
    (case et_BadLine => k_is)
    (case ed_BadLine => k_is)
    (case es_BadPoint_BadLine => first | rfl | k_is)
    (case es_BadLine_BadLine => first | rfl | k_is)
    (case ed_BadPoint => k_is)
    (case es_BadPoint_BadPoint => first | rfl | k_is)
    (case es_BadLine_BadPoint => first | rfl | k_is)
    (case z_abs => k_is)
    (case z_all => k_is)
    (case z_any => k_is)
    (case z_bool => k_is)
    (case z_int => k_is)
    (case z_isinstance => k_is)
    (case z_len => k_is)
    (case z_range => k_is)
    (case z_tuple => k_is)
#print axioms PySem.Challenge.cw_creasewrit_k60_points_and_lines_holds
