import PyProof.Rows.All
import Wide.All
import OpenK.AllK
import Wide.FinOn
import HandS.ForMost
import HandS.Wide
import HandS.TupAny
import HandS.IsInst
import HandS.Conv
import HandS.Deep
import HandS.Exc
import HandS.WordsExc
import HandS.Walk
import KE.GoesEnum
import HandS.TryOnly
import PySem.Challenge.RW_howeverheard_k03_changes_of_settings
set_option Elab.async false
set_option linter.all false
set_option maxRecDepth 100000
set_option maxHeartbeats 4000000
set_option autoImplicit false
/-! A pure layer over HandS: values as data D, mutable lists as numbered cells; every def becomes a plain Lean function. -/
namespace L2.Pz
open PySem PySem.Spec PyProof.Rows

/-! ### data -/
inductive D where
  | non | bl (b : Bool) | int (i : Int) | str (x : Str) | tup (xs : List D) | lst (xs : List D)
/-- what an expression hands on: data, the k-th cell, a fresh list -/
inductive HV where
  | val (d : D) | jar (k : Nat) | new (ds : List D)
abbrev En := List (Option HV)
abbrev Jr := List (List D)
inductive R (α : Type) where
  | ok (a : α) (J : Jr) | err (c : Str) (fs : List (Str × D)) (J : Jr) | stuck
def R.bind {α β : Type} (r : R α) (f : α → Jr → R β) : R β := match r with
  | .ok a J => f a J
  | .err c fs J => .err c fs J
  | .stuck => .stuck
abbrev EF := En → Jr → R HV
abbrev big : Nat := 16777216
theorem big_eq : sizeLine = big := sizeLine_eq

section
variable (K : PySem.W.Frag)
/-- a list that is read: of the heap and not locked, or of the written part -/
def LsY (H : Hp) (Y : Addr → Prop) (a : Addr) (vs : List V) : Prop := (Rd H a (.lst vs) ∧ ¬ Y a) ∨ SqL K (fun _ => none) a vs
mutual
def Rep (H : Hp) (Y : Addr → Prop) : D → V → Prop
  | .non, v => v = .non
  | .bl b, v => v = .bl b
  | .int i, v => v = .int i
  | .str x, v => v = .str x
  | .tup ds, v => ∃ a vs, v = .ref a ∧ SqT K H a vs ∧ Reps H Y ds vs
  | .lst ds, v => ∃ a vs, v = .ref a ∧ LsY K H Y a vs ∧ Reps H Y ds vs
def Reps (H : Hp) (Y : Addr → Prop) : List D → List V → Prop
  | [], vs => vs = []
  | d :: ds, vs => ∃ v r, vs = v :: r ∧ Rep H Y d v ∧ Reps H Y ds r
end
end
section
variable {K : PySem.W.Frag} {H H' : Hp} {Y Y' : Addr → Prop}
theorem sqL_none {a : Addr} {vs : List V} (h : SqL K (fun _ => none) a vs) : SqL K H a vs := by
  rcases h with (h | ⟨o, h⟩) | h
  · cases h
  · cases h
  · exact .inr h
theorem LsY.sq {a : Addr} {vs : List V} (h : LsY K H Y a vs) : SqL K H a vs := by
  rcases h with ⟨h, _⟩ | h
  · exact .inl h
  · exact sqL_none h
/-- Y holds lists alone -/
abbrev Lists (H : Hp) (Y : Addr → Prop) : Prop := ∀ a, Y a → ∃ xs, H a = some (.lst xs)
theorem sqT_move (hE : ∀ a o, H a = some o → ¬ Y a → H' a = some o) (hl : Lists H Y) {a : Addr} {vs : List V} (h : SqT K H a vs) : SqT K H' a vs := by
  rcases h with (h | ⟨o, h⟩) | h
  · refine .inl (.inl (hE _ _ h fun y => ?_))
    obtain ⟨xs, e⟩ := hl _ y
    rw [h] at e; cases e
  · refine .inl (.inr ⟨o, hE _ _ h fun y => ?_⟩)
    obtain ⟨xs, e⟩ := hl _ y
    rw [h] at e; cases e
  · exact .inr h
theorem lsY_move (hE : ∀ a o, H a = some o → ¬ Y a → H' a = some o) (hY : ∀ a, Y' a → Y a ∨ H a = none) {a : Addr} {vs : List V} (h : LsY K H Y a vs) : LsY K H' Y' a vs := by
  rcases h with ⟨h, n⟩ | h
  · refine .inl ?_
    rcases h with h | ⟨o, h⟩
    · exact ⟨.inl (hE _ _ h n), fun y => (hY _ y).elim n fun e => by rw [h] at e; cases e⟩
    · exact ⟨.inr ⟨o, hE _ _ h n⟩, fun y => (hY _ y).elim n fun e => by rw [h] at e; cases e⟩
  · exact .inr h
mutual
theorem rep_move (hE : ∀ a o, H a = some o → ¬ Y a → H' a = some o) (hY : ∀ a, Y' a → Y a ∨ H a = none) (hl : Lists H Y) : ∀ (d : D) (v : V), Rep K H Y d v → Rep K H' Y' d v
  | .non, v, h => by unfold Rep at h ⊢; exact h
  | .bl b, v, h => by unfold Rep at h ⊢; exact h
  | .int i, v, h => by unfold Rep at h ⊢; exact h
  | .str x, v, h => by unfold Rep at h ⊢; exact h
  | .tup ds, v, h => by
    unfold Rep at h ⊢
    obtain ⟨a, vs, e, s, r⟩ := h
    exact ⟨a, vs, e, sqT_move hE hl s, reps_move hE hY hl ds vs r⟩
  | .lst ds, v, h => by
    unfold Rep at h ⊢
    obtain ⟨a, vs, e, s, r⟩ := h
    exact ⟨a, vs, e, lsY_move hE hY s, reps_move hE hY hl ds vs r⟩
theorem reps_move (hE : ∀ a o, H a = some o → ¬ Y a → H' a = some o) (hY : ∀ a, Y' a → Y a ∨ H a = none) (hl : Lists H Y) : ∀ (ds : List D) (vs : List V), Reps K H Y ds vs → Reps K H' Y' ds vs
  | [], vs, h => by unfold Reps at h ⊢; exact h
  | d :: ds, vs, h => by
    unfold Reps at h ⊢
    obtain ⟨v, r, e, h1, h2⟩ := h
    exact ⟨v, r, e, rep_move hE hY hl d v h1, reps_move hE hY hl ds r h2⟩
end
theorem reps_nil {vs : List V} : Reps K H Y [] vs ↔ vs = [] := by unfold Reps; exact Iff.rfl
theorem reps_cons {d : D} {ds : List D} {vs : List V} : Reps K H Y (d :: ds) vs ↔ ∃ v r, vs = v :: r ∧ Rep K H Y d v ∧ Reps K H Y ds r := by
  constructor
  · intro h; unfold Reps at h; exact h
  · intro h; unfold Reps; exact h
theorem reps_len : ∀ {ds : List D} {vs : List V}, Reps K H Y ds vs → vs.length = ds.length
  | [], vs, h => by rw [reps_nil.mp h]; rfl
  | d :: ds, vs, h => by
    obtain ⟨v, r, e, _, h2⟩ := reps_cons.mp h
    rw [e, List.length_cons, List.length_cons, reps_len h2]
theorem reps_append : ∀ {ds es : List D} {vs us : List V}, Reps K H Y ds vs → Reps K H Y es us → Reps K H Y (ds ++ es) (vs ++ us)
  | [], es, vs, us, h, g => by rw [reps_nil.mp h]; exact g
  | d :: ds, es, vs, us, h, g => by
    obtain ⟨v, r, e, h1, h2⟩ := reps_cons.mp h
    subst e
    exact reps_cons.mpr ⟨v, r ++ us, rfl, h1, reps_append h2 g⟩
theorem reps_take : ∀ {ds : List D} {vs : List V} (n : Nat), Reps K H Y ds vs → Reps K H Y (ds.take n) (vs.take n)
  | _, _, 0, _ => by rw [List.take_zero, List.take_zero]; exact reps_nil.mpr rfl
  | [], vs, n + 1, h => by rw [reps_nil.mp h]; exact reps_nil.mpr rfl
  | d :: ds, vs, n + 1, h => by
    obtain ⟨v, r, e, h1, h2⟩ := reps_cons.mp h
    subst e
    exact reps_cons.mpr ⟨v, r.take n, rfl, h1, reps_take n h2⟩
theorem reps_drop : ∀ {ds : List D} {vs : List V} (n : Nat), Reps K H Y ds vs → Reps K H Y (ds.drop n) (vs.drop n)
  | _, _, 0, h => h
  | [], vs, n + 1, h => by rw [reps_nil.mp h]; exact reps_nil.mpr rfl
  | d :: ds, vs, n + 1, h => by
    obtain ⟨v, r, e, h1, h2⟩ := reps_cons.mp h
    subst e
    exact reps_drop n h2
theorem reps_get : ∀ {ds : List D} {vs : List V} {i : Nat} {d : D}, Reps K H Y ds vs → ds[i]? = some d → ∃ v, vs[i]? = some v ∧ Rep K H Y d v
  | [], vs, i, d, h, e => by simp at e
  | c :: ds, vs, 0, d, h, e => by
    obtain ⟨v, r, e2, h1, _⟩ := reps_cons.mp h
    subst e2
    simp at e; subst e
    exact ⟨v, rfl, h1⟩
  | c :: ds, vs, i + 1, d, h, e => by
    obtain ⟨v, r, e2, _, h2⟩ := reps_cons.mp h
    subst e2
    obtain ⟨u, e3, h3⟩ := reps_get (i := i) h2 (by simpa using e)
    exact ⟨u, by simpa using e3, h3⟩
theorem reps_at : ∀ {ds : List D} {vs : List V} {i : Nat} {v : V}, Reps K H Y ds vs → vs[i]? = some v → ∃ d, ds[i]? = some d ∧ Rep K H Y d v
  | [], vs, i, v, h, e => by rw [reps_nil.mp h] at e; simp at e
  | c :: ds, vs, 0, v, h, e => by
    obtain ⟨u, r, e2, h1, _⟩ := reps_cons.mp h
    subst e2
    simp at e; subst e
    exact ⟨c, rfl, h1⟩
  | c :: ds, vs, i + 1, v, h, e => by
    obtain ⟨u, r, e2, _, h2⟩ := reps_cons.mp h
    subst e2
    obtain ⟨d, e3, h3⟩ := reps_at (i := i) h2 (by simpa using e)
    exact ⟨d, by simpa using e3, h3⟩
theorem reps_set : ∀ {ds : List D} {vs : List V} {i : Nat} {d : D} {v : V}, Reps K H Y ds vs → Rep K H Y d v → Reps K H Y (ds.set i d) (vs.set i v)
  | [], vs, i, d, v, h, g => by rw [reps_nil.mp h]; exact reps_nil.mpr rfl
  | c :: ds, vs, 0, d, v, h, g => by
    obtain ⟨u, r, e2, h1, h2⟩ := reps_cons.mp h
    subst e2
    exact reps_cons.mpr ⟨v, r, rfl, g, h2⟩
  | c :: ds, vs, i + 1, d, v, h, g => by
    obtain ⟨u, r, e2, h1, h2⟩ := reps_cons.mp h
    subst e2
    exact reps_cons.mpr ⟨u, r.set i v, rfl, h1, reps_set h2 g⟩
theorem reps_ints : ∀ {ns : List Int} {vs : List V}, Reps K H Y (ns.map D.int) vs → vs = ns.map V.int
  | [], vs, h => reps_nil.mp h
  | n :: ns, vs, h => by
    obtain ⟨v, r, e, h1, h2⟩ := reps_cons.mp h
    unfold Rep at h1
    rw [e, h1, reps_ints h2]; rfl
theorem reps_of_ints : ∀ {ns : List Int}, Reps K H Y (ns.map D.int) (ns.map V.int)
  | [] => reps_nil.mpr rfl
  | n :: ns => reps_cons.mpr ⟨_, _, rfl, by unfold Rep; rfl, reps_of_ints⟩
theorem rep_int {i : Int} {v : V} (h : Rep K H Y (.int i) v) : v = .int i := by unfold Rep at h; exact h
theorem rep_bl {i : Bool} {v : V} (h : Rep K H Y (.bl i) v) : v = .bl i := by unfold Rep at h; exact h
theorem rep_str {i : Str} {v : V} (h : Rep K H Y (.str i) v) : v = .str i := by unfold Rep at h; exact h
theorem rep_non {v : V} (h : Rep K H Y .non v) : v = .non := by unfold Rep at h; exact h
theorem mk_int {i : Int} : Rep K H Y (.int i) (.int i) := by unfold Rep; rfl
theorem mk_bl {i : Bool} : Rep K H Y (.bl i) (.bl i) := by unfold Rep; rfl
theorem mk_str {i : Str} : Rep K H Y (.str i) (.str i) := by unfold Rep; rfl
theorem mk_non : Rep K H Y .non .non := by unfold Rep; rfl
theorem rep_tup {ds : List D} {v : V} : Rep K H Y (.tup ds) v ↔ ∃ a vs, v = .ref a ∧ SqT K H a vs ∧ Reps K H Y ds vs := by
  constructor
  · intro h; unfold Rep at h; exact h
  · intro h; unfold Rep; exact h
theorem rep_lst {ds : List D} {v : V} : Rep K H Y (.lst ds) v ↔ ∃ a vs, v = .ref a ∧ LsY K H Y a vs ∧ Reps K H Y ds vs := by
  constructor
  · intro h; unfold Rep at h; exact h
  · intro h; unfold Rep; exact h
end

/-! ### the state -/
abbrev Yf (Xo : Addr → Prop) (js : List Addr) : Addr → Prop := fun a => Xo a ∨ a ∈ js
abbrev With (Xo : Addr → Prop) (p : Addr) : Addr → Prop := fun a => Xo a ∨ a = p
def HRep (K : PySem.W.Frag) (H : Hp) (Y : Addr → Prop) (js : List Addr) : HV → V → Prop
  | .val d, v => Rep K H Y d v
  | .jar k, v => ∃ a, js[k]? = some a ∧ v = .ref a
  | .new _, _ => False
def norm : HV → HV
  | .new ds => .val (.lst ds)
  | h => h
structure Fit (K : PySem.W.Frag) (Xo : Addr → Prop) (js : List Addr) (H : Hp) (σ : St) (env : En) (J : Jr) : Prop where
  out : Lists H Xo
  nd : js.Nodup
  jx : ∀ a ∈ js, ¬ Xo a
  len : js.length = J.length
  slen : σ.length = env.length
  jar : ∀ (k : Nat) (a : Addr) (ds : List D), js[k]? = some a → J[k]? = some ds → ∃ vs, H a = some (.lst vs) ∧ Reps K H (Yf Xo js) ds vs
  slot : ∀ (i : Nat) (h : HV), env[i]? = some (some h) → ∃ v, σ[i]? = some (some v) ∧ HRep K H (Yf Xo js) js h v
section
variable {K : PySem.W.Frag} {Xo Xo' : Addr → Prop} {js : List Addr} {H H' : Hp} {σ : St} {env : En} {J : Jr}
theorem Fit.at (F : Fit K Xo js H σ env J) {k : Nat} {a : Addr} (e : js[k]? = some a) : ∃ ds vs, J[k]? = some ds ∧ H a = some (.lst vs) ∧ Reps K H (Yf Xo js) ds vs := by
  have hk : k < js.length := (List.getElem?_eq_some_iff.mp e).1
  obtain ⟨ds, h⟩ : ∃ ds, J[k]? = some ds := ⟨J[k]'(by rw [← F.len]; exact hk), List.getElem?_eq_getElem _⟩
  obtain ⟨vs, h1, h2⟩ := F.jar k a ds e h
  exact ⟨ds, vs, h, h1, h2⟩
theorem Fit.lists (F : Fit K Xo js H σ env J) : Lists H (Yf Xo js) := fun a h => by
  rcases h with h | h
  · exact F.out a h
  · obtain ⟨k, hk, e⟩ := List.getElem_of_mem h
    obtain ⟨ds, vs, _, h1, _⟩ := F.at (k := k) (a := a) (by rw [List.getElem?_eq_getElem hk, e])
    exact ⟨vs, h1⟩
theorem HRep.move {Y Y' : Addr → Prop} (hE : ∀ a o, H a = some o → ¬ Y a → H' a = some o) (hY : ∀ a, Y' a → Y a ∨ H a = none) (hl : Lists H Y) {h : HV} {v : V} (x : HRep K H Y js h v) : HRep K H' Y' js h v := by
  cases h with
  | val d => exact rep_move hE hY hl d v x
  | jar k => exact x
  | new ds => exact x
/-- another heap, other locks -/
theorem Fit.move (F : Fit K Xo js H σ env J) (hE : ∀ a o, H a = some o → H' a = some o) (hX : ∀ a, Xo' a → Xo a ∨ H a = none) (ho : Lists H' Xo') : Fit K Xo' js H' σ env J := by
  have hl := F.lists
  have hY : ∀ a, Yf Xo' js a → Yf Xo js a ∨ H a = none := fun a h => by
    rcases h with h | h
    · rcases hX a h with z | z
      · exact .inl (.inl z)
      · exact .inr z
    · exact .inl (.inr h)
  refine ⟨ho, F.nd, fun a ha z => ?_, F.len, F.slen, fun k a ds e1 e2 => ?_, fun i h e => ?_⟩
  · rcases hX a z with z | z
    · exact F.jx a ha z
    · obtain ⟨xs, q⟩ := hl a (.inr ha)
      rw [q] at z; cases z
  · obtain ⟨vs, h1, h2⟩ := F.jar k a ds e1 e2
    exact ⟨vs, hE _ _ h1, reps_move (fun a o q _ => hE a o q) hY hl _ _ h2⟩
  · obtain ⟨v, h1, h2⟩ := F.slot i h e
    exact ⟨v, h1, h2.move (fun a o q _ => hE a o q) hY hl⟩
theorem Fit.same (F : Fit K Xo js H σ env J) (hE : Same H H') : Fit K Xo js H' σ env J :=
  F.move hE (fun _ h => .inl h) fun a h => let ⟨xs, e⟩ := F.out a h; ⟨xs, hE _ _ e⟩
theorem Fit.lock (F : Fit K Xo js H σ env J) (hE : Same H H') {p : Addr} {vs : List V} (hp : H p = none) (e : H' p = some (.lst vs)) : Fit K (With Xo p) js H' σ env J :=
  F.move hE (fun a h => h.elim .inl fun z => .inr (z ▸ hp)) fun a h => h.elim (fun h => let ⟨xs, e⟩ := F.out a h; ⟨xs, hE _ _ e⟩) fun z => ⟨vs, z ▸ e⟩
theorem Fit.unlock {p : Addr} (F : Fit K (With Xo p) js H σ env J) : Fit K Xo js H σ env J :=
  F.move (fun _ _ e => e) (fun _ h => .inl (.inl h)) fun a h => F.out a (.inl h)
theorem same_upd {H : Hp} {p : Addr} {o : HO} (h : H p = none) : Same H (upd H p o) := fun b x e => by
  rw [upd_ne (ne_of_none e h)]
  exact e
end

/-! ### readings of expressions -/
abbrev Ext (js : List Addr) (H H' : Hp) : Prop := ∀ a o, H a = some o → a ∉ js → H' a = some o
theorem Ext.of {js : List Addr} {H H' : Hp} (s : Same H H') : Ext js H H' := fun a o e _ => s a o e
theorem Ext.trans {js : List Addr} {H H1 H2 : Hp} (a : Ext js H H1) (b : Ext js H1 H2) : Ext js H H2 := fun c o e n => b c o (a c o e n) n
theorem Ext.refl {js : List Addr} {H : Hp} : Ext js H H := fun _ _ e _ => e
/-- how an exception lies: its class, its fields -/
def ExcAt (K : PySem.W.Frag) (Xo : Addr → Prop) (js : List Addr) (c : Str) (fs : List (Str × D)) (cls : Value) (od : Option Addr) (H : Hp) : Prop :=
  ∃ C, PySem.W.nsIn K mainGlobals c = some (some (.ref C)) ∧ cls = .ref C ∧ ∃ d us, od = some d ∧ H d = some (.xd us) ∧ us.map (·.1) = fs.map (·.1) ∧ Reps K H (Yf Xo js) (fs.map (·.2)) (us.map (·.2))
def OutN (K : PySem.W.Frag) (Xo : Addr → Prop) (js : List Addr) (H H' : Hp) (σ : St) (env : En) (J : Jr) (h : HV) (v : V) : Prop := match h with
  | .new ds => ∃ p vs, v = .ref p ∧ H p = none ∧ H' p = some (.lst vs) ∧ Fit K (With Xo p) js H' σ env J ∧ Reps K H' (Yf (With Xo p) js) ds vs
  | h => Fit K Xo js H' σ env J ∧ HRep K H' (Yf Xo js) js h v
def Flies (K : PySem.W.Frag) (W : WX) (Xo : Addr → Prop) (js : List Addr) (H : Hp) (σ : St) (env : En) (c : Str) (fs : List (Str × D)) (J : Jr) : Prop :=
  ∀ cls od H', ExcAt K Xo js c fs cls od H' → Ext js H H' → Fit K Xo js H' σ env J → W cls od σ H'
/-- raw: fresh lists are told -/
def PostN (K : PySem.W.Frag) (W : WX) (Xo : Addr → Prop) (js : List Addr) (H : Hp) (σ : St) (env : En) (Q : VK) : R HV → Prop
  | .ok h J => ∀ v H', Ext js H H' → OutN K Xo js H H' σ env J h v → Q v H'
  | .err c fs J => Flies K W Xo js H σ env c fs J
  | .stuck => False
def PostD (K : PySem.W.Frag) (W : WX) (Xo : Addr → Prop) (js : List Addr) (H : Hp) (σ : St) (env : En) (Q : VK) : R HV → Prop
  | .ok h J => ∀ v H', Ext js H H' → Fit K Xo js H' σ env J → HRep K H' (Yf Xo js) js (norm h) v → Q v H'
  | .err c fs J => Flies K W Xo js H σ env c fs J
  | .stuck => False
def PostB (K : PySem.W.Frag) (W : WX) (Xo : Addr → Prop) (js : List Addr) (H : Hp) (σ : St) (env : En) (Q : Bool → Hp → Prop) : R Bool → Prop
  | .ok b J => ∀ H', Ext js H H' → Fit K Xo js H' σ env J → Q b H'
  | .err c fs J => Flies K W Xo js H σ env c fs J
  | .stuck => False
def tN (K : PySem.W.Frag) (W : WX) (f : EF) : TE := fun σ H Q => ∃ Xo js env J, Fit K Xo js H σ env J ∧ PostN K W Xo js H σ env Q (f env J)
def tD (K : PySem.W.Frag) (W : WX) (f : EF) : TE := fun σ H Q => ∃ Xo js env J, Fit K Xo js H σ env J ∧ PostD K W Xo js H σ env Q (f env J)
abbrev BF := En → Jr → R Bool
def tT (K : PySem.W.Frag) (W : WX) (f : BF) : TT := fun σ H Q => ∃ Xo js env J, Fit K Xo js H σ env J ∧ PostB K W Xo js H σ env Q (f env J)
theorem Flies.later {K : PySem.W.Frag} {W : WX} {Xo : Addr → Prop} {js : List Addr} {H H1 : Hp} {σ : St} {env : En} {c : Str} {fs : List (Str × D)} {J : Jr} (h : Flies K W Xo js H σ env c fs J) (e : Ext js H H1) : Flies K W Xo js H1 σ env c fs J :=
  fun cls od H' x y z => h cls od H' x (e.trans y) z

theorem pe_mono {X : Cx} {e : Expr} {t t' : TE} (h : PE X e t) (m : ∀ σ H Q, t' σ H Q → t σ H Q) : PE X e t' := ⟨fun pins s σ H Q I w => h.run pins s σ H Q I (m σ H Q w)⟩
theorem pt_mono {X : Cx} {e : Expr} {t t' : TT} (h : PT X e t) (m : ∀ σ H Q, t' σ H Q → t σ H Q) : PT X e t' := ⟨fun pins s σ H Q I w => h.run pins s σ H Q I (m σ H Q w)⟩
theorem ps_mono {X : Cx} {e : Stmt} {t t' : TS} (h : PS X e t) (m : ∀ D σ H, t' D σ H → t D σ H) : PS X e t' := ⟨fun pins s σ H D I w => h.run pins s σ H D I (m D σ H w)⟩
theorem pss_mono {X : Cx} {e : List Stmt} {t t' : TS} (h : PSs X e t) (m : ∀ D σ H, t' D σ H → t D σ H) : PSs X e t' := ⟨fun pins s σ H D I w => h.run pins s σ H D I (m D σ H w)⟩

theorem outN_norm {K : PySem.W.Frag} {Xo : Addr → Prop} {js : List Addr} {H H' : Hp} {σ : St} {env : En} {J : Jr} {h : HV} {v : V} (hl : Lists H Xo) (o : OutN K Xo js H H' σ env J h v) : Fit K Xo js H' σ env J ∧ HRep K H' (Yf Xo js) js (norm h) v := by
  cases h with
  | val d => exact o
  | jar k => exact o
  | new ds =>
    obtain ⟨p, vs, e, hp, hq, F, r⟩ := o
    refine ⟨F.unlock, rep_lst.mpr ⟨p, vs, e, .inl ⟨.inl hq, fun y => ?_⟩, ?_⟩⟩
    · rcases y with y | y
      · obtain ⟨xs, z⟩ := hl p y
        rw [hp] at z; cases z
      · exact F.jx p y (.inr rfl)
    · exact reps_move (fun _ _ e _ => e) (fun a y => .inl (y.elim (fun y => .inl (.inl y)) .inr)) F.lists _ _ r
end L2.Pz
set_option Elab.async false
set_option linter.all false
set_option maxRecDepth 100000
set_option maxHeartbeats 4000000
set_option autoImplicit false
namespace L2.Pz
open PySem PySem.Spec PyProof.Rows

/-! ### evaluation: names, constants, operators -/
def eName (i : Nat) : EF := fun env J => match env[i]? with
  | some (some h) => .ok h J
  | _ => .stuck
def eC (d : D) : EF := fun _ J => .ok (.val d) J
def deref (J : Jr) : HV → Option D
  | .val d => some d
  | .new ds => some (.lst ds)
  | .jar k => (J[k]?).map D.lst
abbrev F1 := D → Option HV
abbrev F2 := D → D → Option HV
def give (J : Jr) : Option HV → R HV
  | some z => .ok z J
  | none => .stuck
def app1 (fo : F1) (J : Jr) (h1 : HV) : R HV := match deref J h1 with
  | some d => give J (fo d)
  | none => .stuck
def app2 (fo : F2) (J : Jr) (h1 h2 : HV) : R HV := match deref J h1, deref J h2 with
  | some d, some e => give J (fo d e)
  | _, _ => .stuck
def eUn (fo : F1) (f : EF) : EF := fun env J => (f env J).bind fun h1 J1 => app1 fo J1 h1
def eBin (fo : F2) (f g : EF) : EF := fun env J => (f env J).bind fun h1 J1 => (g env J1).bind fun h2 J2 => app2 fo J2 h1 h2
def toB : R HV → R Bool := fun r => r.bind fun h J => match h with
  | .val (.bl b) => .ok b J
  | _ => .stuck
def truth : D → Option Bool
  | .non => some false
  | .bl b => some b
  | .int i => some (i != 0)
  | .str y => if y.length ≤ big then some ((y.length : Int) != 0) else none
  | .tup xs => some (!xs.isEmpty)
  | .lst xs => some (!xs.isEmpty)
def bTruth (f : EF) : BF := fun env J => (f env J).bind fun h J1 => match deref J1 h with
  | some d => (match truth d with | some b => .ok b J1 | none => .stuck)
  | none => .stuck
def bCmp (fo : F2) (f g : EF) : BF := fun env J => toB (eBin fo f g env J)
def bNot (c : BF) : BF := fun env J => (c env J).bind fun b J1 => .ok (!b) J1
def bAnd (c d : BF) : BF := fun env J => (c env J).bind fun b J1 => if b = true then d env J1 else .ok false J1
def bOr (c d : BF) : BF := fun env J => (c env J).bind fun b J1 => if b = true then .ok true J1 else d env J1
def eNot (f : EF) : EF := fun env J => (toB (f env J)).bind fun b J1 => .ok (.val (.bl (!b))) J1
def eAnd (f g : EF) : EF := fun env J => (toB (f env J)).bind fun b J1 => if b = true then g env J1 else .ok (.val (.bl false)) J1
def eOr (f g : EF) : EF := fun env J => (toB (f env J)).bind fun b J1 => if b = true then .ok (.val (.bl true)) J1 else g env J1
def eIf (c : BF) (f g : EF) : EF := fun env J => (c env J).bind fun b J1 => if b = true then f env J1 else g env J1
/-- a < b < c -/
def eChain (fo go : F2) (f g k : EF) : EF := fun env J => (f env J).bind fun h1 J1 => (g env J1).bind fun h2 J2 => (toB (app2 fo J2 h1 h2)).bind fun b J3 =>
  if b = true then (k env J3).bind fun h3 J4 => app2 go J4 h2 h3 else .ok (.val (.bl false)) J3

def RepTop (K : PySem.W.Frag) (H : Hp) (Y : Addr → Prop) : D → V → Prop
  | .lst ds, v => ∃ a vs, v = .ref a ∧ SqL K H a vs ∧ Reps K H Y ds vs
  | d, v => Rep K H Y d v
def PureOut (K : PySem.W.Frag) (Y : Addr → Prop) (H H' : Hp) (z : HV) (v : V) : Prop := Same H H' ∧ match z with
  | .val d => Rep K H' Y d v
  | .new ds => ∃ p vs, v = .ref p ∧ H p = none ∧ H' p = some (.lst vs) ∧ Reps K H' (fun a => Y a ∨ a = p) ds vs
  | .jar _ => False
def Sem1 (K : PySem.W.Frag) (r : V → Hp → VK → Prop) (fo : F1) : Prop := ∀ (H : Hp) (Y : Addr → Prop) (x : V) (d : D) (z : HV) (Q : VK), Lists H Y → RepTop K H Y d x → fo d = some z → (∀ v H', PureOut K Y H H' z v → Q v H') → r x H Q
def Sem2 (K : PySem.W.Frag) (r : R2) (fo : F2) : Prop := ∀ (H : Hp) (Y : Addr → Prop) (x y : V) (d e : D) (z : HV) (Q : VK), Lists H Y → RepTop K H Y d x → RepTop K H Y e y → fo d e = some z → (∀ v H', PureOut K Y H H' z v → Q v H') → r x y H Q

section
variable {K : PySem.W.Frag} {H : Hp} {Y : Addr → Prop} {v : V}
theorem top_non (h : RepTop K H Y .non v) : v = .non := rep_non (K := K) (H := H) (Y := Y) h
theorem top_bl {b : Bool} (h : RepTop K H Y (.bl b) v) : v = .bl b := rep_bl (K := K) (H := H) (Y := Y) h
theorem top_int {b : Int} (h : RepTop K H Y (.int b) v) : v = .int b := rep_int (K := K) (H := H) (Y := Y) h
theorem top_str {b : Str} (h : RepTop K H Y (.str b) v) : v = .str b := rep_str (K := K) (H := H) (Y := Y) h
theorem top_tup {b : List D} (h : RepTop K H Y (.tup b) v) : ∃ a vs, v = .ref a ∧ SqT K H a vs ∧ Reps K H Y b vs := rep_tup (K := K) (H := H) (Y := Y).mp h
end
section
variable {K : PySem.W.Frag} {W : WX} {Xo : Addr → Prop} {js : List Addr} {H H1 H2 H' : Hp} {σ : L2.St} {env : En} {J J1 J2 : Jr}
theorem deref_top (F : Fit K Xo js H σ env J) {h : HV} {v : V} {d : D} (x : HRep K H (Yf Xo js) js (norm h) v) (e : deref J h = some d) : RepTop K H (Yf Xo js) d v := by
  have val : ∀ d, Rep K H (Yf Xo js) d v → RepTop K H (Yf Xo js) d v := fun d r => by
    cases d with
    | lst ds =>
      obtain ⟨a, vs, e, s, q⟩ := rep_lst.mp r
      exact ⟨a, vs, e, s.sq, q⟩
    | _ => exact r
  cases h with
  | val d' =>
    cases e
    exact val _ x
  | new ds =>
    cases e
    exact val _ x
  | jar k =>
    obtain ⟨a, ea, ev⟩ := x
    obtain ⟨ds, vs, h1, h2, h3⟩ := F.at ea
    have e' : (J[k]?).map D.lst = some d := e
    rw [h1] at e'
    cases e'
    exact ⟨a, vs, ev, .of h2, h3⟩
theorem none_back (e : Ext js H H2) (hl : Lists H2 (Yf Xo js)) {p : Addr} (h : H2 p = none) : H p = none := by
  cases q : H p with
  | none => rfl
  | some o =>
    by_cases hp : p ∈ js
    · obtain ⟨xs, z⟩ := hl p (.inr hp)
      rw [h] at z; cases z
    · rw [e p o q hp] at h; cases h
theorem HRep.ext (F : Fit K Xo js H σ env J) (e : Ext js H H1) {h : HV} {v : V} (x : HRep K H (Yf Xo js) js h v) : HRep K H1 (Yf Xo js) js h v :=
  x.move (fun a o q n => e a o q fun z => n (.inr z)) (fun _ y => .inl y) F.lists
theorem Rep.ext (F : Fit K Xo js H σ env J) (e : Ext js H H1) {d : D} {v : V} (x : Rep K H (Yf Xo js) d v) : Rep K H1 (Yf Xo js) d v :=
  rep_move (fun a o q n => e a o q fun z => n (.inr z)) (fun _ y => .inl y) F.lists _ _ x
theorem Reps.ext (F : Fit K Xo js H σ env J) (e : Ext js H H1) {d : List D} {v : List V} (x : Reps K H (Yf Xo js) d v) : Reps K H1 (Yf Xo js) d v :=
  reps_move (fun a o q n => e a o q fun z => n (.inr z)) (fun _ y => .inl y) F.lists _ _ x
/-- a pure operation's end -/
theorem pure_out (F : Fit K Xo js H σ env J) (e0 : Ext js H1 H) {z : HV} {v : V} (p : PureOut K (Yf Xo js) H H' z v) : Ext js H1 H' ∧ OutN K Xo js H1 H' σ env J z v := by
  obtain ⟨s, q⟩ := p
  refine ⟨e0.trans (.of s), ?_⟩
  cases z with
  | val d => exact ⟨F.same s, q⟩
  | jar k => exact q.elim
  | new ds =>
    obtain ⟨p, vs, e, hp, hq, r⟩ := q
    have G := F.lock s hp hq
    refine ⟨p, vs, e, none_back e0 F.lists hp, hq, G, reps_move (fun _ _ e _ => e) (fun a y => .inl ?_) (fun a y => ?_) _ _ r⟩
    · rcases y with (y | y) | y
      · exact .inl (.inl y)
      · exact .inr y
      · exact .inl (.inr y)
    · rcases y with (y | y) | y
      · exact G.lists a (.inl (.inl y))
      · exact G.lists a (.inr y)
      · exact G.lists a (.inl (.inr y))
theorem postD_of {Q : VK} {r : R HV} (F : Fit K Xo js H σ env J) (p : PostD K W Xo js H σ env Q r) : PostN K W Xo js H σ env Q r := by
  cases r with
  | ok h J1 => exact fun v H' e o => let ⟨G, x⟩ := outN_norm F.out o; p v H' e G x
  | err c fs J1 => exact p
  | stuck => exact p
end

section
variable {X : Cx} {W : WX} {e a b c : Expr} {f g k : EF} {pos : Pos} {rest : List Expr} {cb db : BF}
theorem toD (h : PE X e (tN X.K W f)) : PE X e (tD X.K W f) := pe_mono h fun σ H Q ⟨Xo, js, env, J, F, p⟩ => ⟨Xo, js, env, J, F, postD_of F p⟩
/-- where no fresh list comes -/
def NoNew (f : EF) : Prop := ∀ env J h J', f env J = .ok h J' → norm h = h ∧ ∀ ds, h ≠ .new ds
theorem toN (h : PE X e (tD X.K W f)) (hn : NoNew f) : PE X e (tN X.K W f) := pe_mono h fun σ H Q ⟨Xo, js, env, J, F, p⟩ => ⟨Xo, js, env, J, F, by
  cases r : f env J with
  | ok z J1 =>
    rw [r] at p
    intro v H' e1 G x
    obtain ⟨n1, n2⟩ := hn env J z J1 r
    rw [n1] at x
    refine p v H' e1 ?_
    cases z with
    | val d => exact ⟨G, x⟩
    | jar k => exact ⟨G, x⟩
    | new ds => exact (n2 ds rfl).elim
  | err c fs J1 => rw [r] at p; exact p
  | stuck => rw [r] at p; exact p⟩

theorem pd_name {i : Nat} {x : Str} (h : PE X (.Name x pos) (tVar i)) : PE X (.Name x pos) (tD X.K W (eName i)) := pe_mono h fun σ H Q ⟨Xo, js, env, J, F, p⟩ => by
  unfold eName at p
  cases r : env[i]? with
  | none => rw [r] at p; exact p.elim
  | some o =>
    cases o with
    | none => rw [r] at p; exact p.elim
    | some z =>
      rw [r] at p
      obtain ⟨v, e1, x⟩ := F.slot i z r
      refine ⟨v, e1, p v H .refl F ?_⟩
      cases z with
      | new ds => exact x.elim
      | _ => exact x
theorem nn_name {i : Nat} : True := trivial
theorem pd_c {t : TE} {d : D} {v : V} (h : PE X e (tC v)) (hr : ∀ H Y, Rep X.K H Y d v) : PE X e (tD X.K W (eC d)) := pe_mono h fun σ H Q ⟨Xo, js, env, J, F, p⟩ => p v H .refl F (hr _ _)
theorem pd_int {i j} : PE X (.Constant (.int i) j pos) (tD X.K W (eC (.int i))) := pd_c (t := tC (.int i)) pe_int fun _ _ => mk_int
theorem pd_bl {i j} : PE X (.Constant (.bool i) j pos) (tD X.K W (eC (.bl i))) := pd_c (t := tC (.bl i)) pe_bl fun _ _ => mk_bl
theorem pd_str {i j} : PE X (.Constant (.str i) j pos) (tD X.K W (eC (.str i))) := pd_c (t := tC (.str i)) pe_str fun _ _ => mk_str
theorem pd_non {j} : PE X (.Constant .none j pos) (tD X.K W (eC .non)) := pd_c (t := tC .non) pe_non fun _ _ => mk_non

theorem un_read {r : V → Hp → VK → Prop} {fo : F1} {ta : TE} (sem : Sem1 X.K r fo) (m : ∀ σ H Q, tD X.K W f σ H Q → ta σ H Q) {σ : L2.St} {H : Hp} {Q : VK} (w : tN X.K W (eUn fo f) σ H Q) : ta σ H fun x H1 => r x H1 Q := by
  obtain ⟨Xo, js, env, J, F, p⟩ := w
  refine m _ _ _ ⟨Xo, js, env, J, F, ?_⟩
  unfold eUn at p
  cases hf : f env J with
  | stuck => rw [hf] at p; exact p.elim
  | err c fs J1 => rw [hf] at p; exact p
  | ok h1 J1 =>
    rw [hf] at p
    intro x H1 e1 F1 x1
    have p : PostN X.K W Xo js H σ env Q (app1 fo J1 h1) := p
    unfold app1 at p
    cases hd : deref J1 h1 with
    | none => rw [hd] at p; exact p.elim
    | some d =>
      rw [hd] at p
      have p : PostN X.K W Xo js H σ env Q (give J1 (fo d)) := p
      cases hz : fo d with
      | none => rw [hz] at p; exact p.elim
      | some z =>
        rw [hz] at p
        refine sem H1 (Yf Xo js) x d z Q F1.lists (deref_top F1 x1 hd) hz fun v H' o => ?_
        obtain ⟨e2, o2⟩ := pure_out F1 e1 o
        exact p v H' e2 o2
theorem app2_read {r : R2} {fo : F2} (sem : Sem2 X.K r fo) {Xo : Addr → Prop} {js : List Addr} {H H2 : Hp} {σ : L2.St} {env : En} {J2 : Jr} {h1 h2 : HV} {x y : V} {Q : VK} (e02 : Ext js H H2) (F2 : Fit X.K Xo js H2 σ env J2)
    (x1 : HRep X.K H2 (Yf Xo js) js (norm h1) x) (y2 : HRep X.K H2 (Yf Xo js) js (norm h2) y) (p : PostN X.K W Xo js H σ env Q (app2 fo J2 h1 h2)) : r x y H2 Q := by
  unfold app2 at p
  cases hd : deref J2 h1 with
  | none => rw [hd] at p; exact p.elim
  | some d =>
    cases he : deref J2 h2 with
    | none => rw [hd, he] at p; exact p.elim
    | some e =>
      rw [hd, he] at p
      have p : PostN X.K W Xo js H σ env Q (give J2 (fo d e)) := p
      cases hz : fo d e with
      | none => rw [hz] at p; exact p.elim
      | some z =>
        rw [hz] at p
        refine sem H2 (Yf Xo js) x y d e z Q F2.lists (deref_top F2 x1 hd) (deref_top F2 y2 he) hz fun v H' o => ?_
        obtain ⟨e3, o2⟩ := pure_out F2 e02 o
        exact p v H' e3 o2
theorem bin_read {r : R2} {fo : F2} (sem : Sem2 X.K r fo) {σ : L2.St} {H : Hp} {Q : VK} (w : tN X.K W (eBin fo f g) σ H Q) : tOp r (tD X.K W f) (tD X.K W g) σ H Q := by
  obtain ⟨Xo, js, env, J, F, p⟩ := w
  refine ⟨Xo, js, env, J, F, ?_⟩
  unfold eBin at p
  cases hf : f env J with
  | stuck => rw [hf] at p; exact p.elim
  | err c fs J1 => rw [hf] at p; exact p
  | ok h1 J1 =>
    rw [hf] at p
    intro x H1 e1 F1 x1
    have p : PostN X.K W Xo js H σ env Q ((g env J1).bind fun h2 J2 => app2 fo J2 h1 h2) := p
    refine ⟨Xo, js, env, J1, F1, ?_⟩
    cases hg : g env J1 with
    | stuck => rw [hg] at p; exact p.elim
    | err c fs J2 => rw [hg] at p; exact p.later e1
    | ok h2 J2 =>
      rw [hg] at p
      intro y H2 e2 F2 y2
      exact app2_read sem (e1.trans e2) F2 (x1.ext F1 e2) y2 p
theorem pn_bin {op : Operator} {r : R2} {fo : F2} (ho : OpR X (binaryOp op) r) (sem : Sem2 X.K r fo) (ha : PE X a (tD X.K W f)) (hb : PE X b (tD X.K W g)) : PE X (.BinOp a op b pos) (tN X.K W (eBin fo f g)) :=
  pe_mono (pe_op ho ha hb) fun σ H Q w => bin_read sem w
theorem pn_cmp {op : CmpOp} {r : R2} {fo : F2} (ho : OpR X (compareOp op) r) (sem : Sem2 X.K r fo) (ha : PE X a (tD X.K W f)) (hb : PE X b (tD X.K W g)) (hm : behindInMarks op b = false) : PE X (.Compare a [op] [b] pos) (tN X.K W (eBin fo f g)) :=
  pe_mono (pe_cmpR ho ha hb hm) fun σ H Q w => bin_read sem w
theorem pn_un {op : UnaryOp} {r : V → Hp → VK → Prop} {fo : F1} (ho : UnR X (unaryOp op) r) (sem : Sem1 X.K r fo) (ha : PE X a (tD X.K W f)) : PE X (.UnaryOp op a pos) (tN X.K W (eUn fo f)) :=
  pe_mono (pe_un ho ha) fun σ H Q w => un_read sem (fun _ _ _ z => z) w
theorem pn_ix {r : R2} {fo : F2} (ho : IxR X r) (sem : Sem2 X.K r fo) (ha : PE X a (tD X.K W f)) (hb : PE X b (tD X.K W g)) (hs : PlainIx b) : PE X (.Subscript a b pos) (tN X.K W (eBin fo f g)) :=
  pe_mono (pe_ix ho ha hb hs) fun σ H Q w => bin_read sem w
/-- a built-in of one, of two arguments -/
theorem pn_b1 {x : Str} {id : String} {p : Pos} {r : List V → Hp → VK → Prop} {fo : F1} (hc : CallR X (.builtin id) r) (sem : Sem1 X.K (fun x H Q => r [x] H Q) fo) (hg : Gl X x) (hm : X.mg x = none) (hv : bootBuiltins x = some (.builtin id)) (ha : PE X a (tD X.K W f))
    (hn : x ≠ "__name__") (hdb : (x == ("__debug__" : Str)) = false) (h1 : starEach [a] X.env = (false, eval a X.env) :: starEach [] X.env) (hpl : (backTo pos (starEach [] X.env)).any (·.1) = false) : PE X (.Call (.Name x p) [a] [] pos) (tN X.K W (eUn fo f)) :=
  pe_mono (pe_callB hc hg hm hv (pa_cons ha pa_nil h1) hn hdb h1 hpl) fun σ H Q w => un_read (ta := tD X.K W f) sem (fun _ _ _ z => z) w
theorem pn_t1 {x : Str} {T : String} {p : Pos} {r : List V → Hp → VK → Prop} {fo : F1} (hc : CallR X (.type T) r) (sem : Sem1 X.K (fun x H Q => r [x] H Q) fo) (hg : Gl X x) (hm : X.mg x = none) (hv : bootBuiltins x = some (.type T)) (ha : PE X a (tD X.K W f))
    (hn : x ≠ "__name__") (hdb : (x == ("__debug__" : Str)) = false) (h1 : starEach [a] X.env = (false, eval a X.env) :: starEach [] X.env) (hpl : (backTo pos (starEach [] X.env)).any (·.1) = false) : PE X (.Call (.Name x p) [a] [] pos) (tN X.K W (eUn fo f)) :=
  pe_mono (pe_callTy hc hg hm hv (pa_cons ha pa_nil h1) hn hdb h1 hpl) fun σ H Q w => un_read (ta := tD X.K W f) sem (fun _ _ _ z => z) w
theorem pn_b2 {x : Str} {id : String} {p : Pos} {r : List V → Hp → VK → Prop} {fo : F2} (hc : CallR X (.builtin id) r) (sem : Sem2 X.K (fun x y H Q => r [x, y] H Q) fo) (hg : Gl X x) (hm : X.mg x = none) (hv : bootBuiltins x = some (.builtin id)) (ha : PE X a (tD X.K W f)) (hb : PE X b (tD X.K W g))
    (hn : x ≠ "__name__") (hdb : (x == ("__debug__" : Str)) = false) (h1 : starEach [a, b] X.env = (false, eval a X.env) :: starEach [b] X.env) (h2 : starEach [b] X.env = (false, eval b X.env) :: starEach [] X.env) (hpl : (backTo pos (starEach [b] X.env)).any (·.1) = false) : PE X (.Call (.Name x p) [a, b] [] pos) (tN X.K W (eBin fo f g)) :=
  pe_mono (pe_callB hc hg hm hv (pa_cons ha (pa_cons hb pa_nil h2) h1) hn hdb h1 hpl) fun σ H Q w => bin_read sem w
/-- isinstance(x, T), T a name of a built-in class -/
theorem pn_isi {x : Str} {n : String} {p p2 : Pos} {y : Str} {r : List V → Hp → VK → Prop} {fo : F1} (hc : CallR X (.builtin "isinstance") r) (sem : Sem1 X.K (fun x H Q => r [x, .ty n] H Q) fo) (hg : Gl X x) (hm : X.mg x = none) (hv : bootBuiltins x = some (.builtin "isinstance")) (ha : PE X a (tD X.K W f))
    (hy : PE X (.Name y p2) (tC (.ty n)))
    (hn : x ≠ "__name__") (hdb : (x == ("__debug__" : Str)) = false) (h1 : starEach [a, .Name y p2] X.env = (false, eval a X.env) :: starEach [.Name y p2] X.env) (h2 : starEach [.Name y p2] X.env = (false, eval (.Name y p2) X.env) :: starEach [] X.env) (hpl : (backTo pos (starEach [.Name y p2] X.env)).any (·.1) = false) :
    PE X (.Call (.Name x p) [a, .Name y p2] [] pos) (tN X.K W (eUn fo f)) :=
  pe_mono (pe_callB hc hg hm hv (pa_cons ha (pa_cons hy pa_nil h2) h1) hn hdb h1 hpl) fun σ H Q w => un_read (ta := tD X.K W f) sem (fun _ _ _ z => z) w

/-! ### tests -/
theorem outN_bl {Xo : Addr → Prop} {js : List Addr} {H H' : Hp} {σ : L2.St} {env : En} {J : Jr} {b : Bool} {v : V} (o : OutN X.K Xo js H H' σ env J (.val (.bl b)) v) : v = .bl b :=
  rep_bl (K := X.K) (H := H') (Y := Yf Xo js) o.2
theorem out_val {Xo : Addr → Prop} {js : List Addr} {H H' : Hp} {σ : L2.St} {env : En} {J : Jr} {d : D} {v : V} (G : Fit X.K Xo js H' σ env J) (r : Rep X.K H' (Yf Xo js) d v) : OutN X.K Xo js H H' σ env J (.val d) v := ⟨G, r⟩
theorem out_bl {Xo : Addr → Prop} {js : List Addr} {H H' : Hp} {σ : L2.St} {env : En} {J : Jr} {b : Bool} (G : Fit X.K Xo js H' σ env J) : OutN X.K Xo js H H' σ env J (.val (.bl b)) (.bl b) := out_val G mk_bl
theorem toB_read {f : EF} {σ : L2.St} {H : Hp} {Q : Bool → Hp → Prop} (w : tT X.K W (fun env J => toB (f env J)) σ H Q) : tN X.K W f σ H fun x H' => ∃ k, x = .bl k ∧ Q k H' := by
  obtain ⟨Xo, js, env, J, F, p⟩ := w
  refine ⟨Xo, js, env, J, F, ?_⟩
  unfold toB at p
  dsimp only at p
  cases hf : f env J with
  | stuck => rw [hf] at p; exact p.elim
  | err c fs J1 => rw [hf] at p; exact p
  | ok z J1 =>
    rw [hf] at p
    intro v H' e o
    cases z with
    | jar k => exact p.elim
    | new ds => exact p.elim
    | val d =>
      cases d with
      | bl b => exact ⟨b, outN_bl o, p H' e o.1⟩
      | _ => exact p.elim
theorem pt_cmpD {op : CmpOp} {r : R2} {fo : F2} (ho : OpR X (compareOp op) r) (sem : Sem2 X.K r fo) (ha : PE X a (tD X.K W f)) (hb : PE X b (tD X.K W g)) (hm : behindInMarks op b = false) : PT X (.Compare a [op] [b] pos) (tT X.K W (bCmp fo f g)) :=
  pt_mono (pt_cmpR ho ha hb hm) fun σ H Q w => bin_read sem (toB_read w)
theorem top_truth {H : Hp} {Y : Addr → Prop} {d : D} {v : V} {k : Bool} (x : RepTop X.K H Y d v) (h : truth d = some k) : TruV X.K v H k := by
  cases d with
  | non => cases top_non x; cases h; rfl
  | bl b => cases top_bl x; cases h; rfl
  | int i => cases top_int x; cases h; rfl
  | str y =>
    cases top_str x
    have h : (if y.length ≤ big then some ((y.length : Int) != 0) else none) = some k := h
    by_cases hy : y.length ≤ big
    · rw [if_pos hy] at h
      cases h
      exact ⟨by rw [big_eq]; exact hy, rfl⟩
    · rw [if_neg hy] at h
      cases h
  | tup ds =>
    obtain ⟨a, vs, e, s, q⟩ := top_tup x
    cases e
    cases h
    refine .inr (.inl ⟨vs, s, ?_⟩)
    have := reps_len q
    cases ds <;> cases vs <;> simp_all
  | lst ds =>
    obtain ⟨a, vs, e, s, q⟩ := x
    cases e
    cases h
    refine .inl ⟨vs, s, ?_⟩
    have := reps_len q
    cases ds <;> cases vs <;> simp_all
theorem pt_truthD (ha : PE X a (tD X.K W f)) (he : ∀ whole, isTrue a X.env whole = (do let v ← whole; standAt a.pos; holding [v] (truthy v))) : PT X a (tT X.K W (bTruth f)) :=
  pt_mono (pt_truth ha he) fun σ H Q ⟨Xo, js, env, J, F, p⟩ => by
    refine ⟨Xo, js, env, J, F, ?_⟩
    unfold bTruth at p
    cases hf : f env J with
    | stuck => rw [hf] at p; exact p.elim
    | err c fs J1 => rw [hf] at p; exact p
    | ok z J1 =>
      rw [hf] at p
      intro v H' e F1 o
      have p : PostB X.K W Xo js H σ env Q (match deref J1 z with
        | some d => (match truth d with | some b => .ok b J1 | none => .stuck)
        | none => .stuck) := p
      cases hd : deref J1 z with
      | none => rw [hd] at p; exact p.elim
      | some d =>
        rw [hd] at p
        have p : PostB X.K W Xo js H σ env Q (match truth d with | some b => .ok b J1 | none => .stuck) := p
        cases ht : truth d with
        | none => rw [ht] at p; exact p.elim
        | some k =>
          rw [ht] at p
          exact ⟨k, top_truth (deref_top F1 o hd) ht, p H' e F1⟩
theorem pt_notD (ha : PT X a (tT X.K W cb)) : PT X (.UnaryOp .Not a pos) (tT X.K W (bNot cb)) := pt_mono (pt_not ha) fun σ H Q ⟨Xo, js, env, J, F, p⟩ => by
  refine ⟨Xo, js, env, J, F, ?_⟩
  unfold bNot at p
  cases hf : cb env J with
  | stuck => rw [hf] at p; exact p.elim
  | err c fs J1 => rw [hf] at p; exact p
  | ok z J1 => rw [hf] at p; exact fun H' e G => p H' e G
theorem pw_mono {X : Cx} {e : Expr} {t t' : TT} (h : PW X e t) (m : ∀ σ H Q, t' σ H Q → t σ H Q) : PW X e t' := ⟨fun wh pins s σ H Q I w => h.run wh pins s σ H Q I (m σ H Q w)⟩
theorem pw_andD (ha : PT X a (tT X.K W cb)) (hb : PW X (.BoolOp .And (b :: rest) pos) (tT X.K W db)) : PW X (.BoolOp .And (a :: b :: rest) pos) (tT X.K W (bAnd cb db)) := pw_mono (pw_and ha hb) fun σ H Q ⟨Xo, js, env, J, F, p⟩ => by
  refine ⟨Xo, js, env, J, F, ?_⟩
  unfold bAnd at p
  cases hf : cb env J with
  | stuck => rw [hf] at p; exact p.elim
  | err c fs J1 => rw [hf] at p; exact p
  | ok z J1 =>
    rw [hf] at p
    intro H' e G
    cases z with
    | false => exact iteF (p H' e G)
    | true =>
      refine iteT ⟨Xo, js, env, J1, G, ?_⟩
      have p : PostB X.K W Xo js H σ env Q (db env J1) := p
      cases hd : db env J1 with
      | stuck => rw [hd] at p; exact p.elim
      | err c fs J2 => rw [hd] at p; exact p.later e
      | ok y J2 => rw [hd] at p; exact fun H2 e2 G2 => p H2 (e.trans e2) G2
theorem pw_orD (ha : PT X a (tT X.K W cb)) (hb : PW X (.BoolOp .Or (b :: rest) pos) (tT X.K W db)) : PW X (.BoolOp .Or (a :: b :: rest) pos) (tT X.K W (bOr cb db)) := pw_mono (pw_or ha hb) fun σ H Q ⟨Xo, js, env, J, F, p⟩ => by
  refine ⟨Xo, js, env, J, F, ?_⟩
  unfold bOr at p
  cases hf : cb env J with
  | stuck => rw [hf] at p; exact p.elim
  | err c fs J1 => rw [hf] at p; exact p
  | ok z J1 =>
    rw [hf] at p
    intro H' e G
    cases z with
    | true => exact iteT (p H' e G)
    | false =>
      refine iteF ⟨Xo, js, env, J1, G, ?_⟩
      have p : PostB X.K W Xo js H σ env Q (db env J1) := p
      cases hd : db env J1 with
      | stuck => rw [hd] at p; exact p.elim
      | err c fs J2 => rw [hd] at p; exact p.later e
      | ok y J2 => rw [hd] at p; exact fun H2 e2 G2 => p H2 (e.trans e2) G2
/-! ### not, and, or as values of bools; a if t else b -/
theorem later_N {Xo : Addr → Prop} {js : List Addr} {H H1 : Hp} {σ : L2.St} {env : En} {Q : VK} {r : R HV} (F : Lists H1 (Yf Xo js)) (e : Ext js H H1) (p : PostN X.K W Xo js H σ env Q r) : PostN X.K W Xo js H1 σ env Q r := by
  cases r with
  | stuck => exact p
  | err c fs J => exact p.later e
  | ok h J =>
    intro v H' e2 o
    refine p v H' (e.trans e2) ?_
    cases h with
    | val d => exact o
    | jar k => exact o
    | new ds =>
      obtain ⟨p, vs, a1, a2, a3⟩ := o
      exact ⟨p, vs, a1, none_back e F a2, a3⟩
theorem pn_not (ha : PE X a (tN X.K W f)) : PE X (.UnaryOp .Not a pos) (tN X.K W (eNot f)) := pe_mono (pe_not ha) fun σ H Q ⟨Xo, js, env, J, F, p⟩ => by
  refine toB_read (Q := fun k H' => Q (.bl (!k)) H') ⟨Xo, js, env, J, F, (?_ : PostB X.K W Xo js H σ env _ (toB (f env J)))⟩
  unfold eNot at p
  cases hf : toB (f env J) with
  | stuck => rw [hf] at p; exact p.elim
  | err c fs J1 => rw [hf] at p; exact p
  | ok z J1 => rw [hf] at p; exact fun H' e G => p (.bl (!z)) H' e (out_bl G)
theorem pn_one {op} (h : PE X a (tN X.K W f)) : PE X (.BoolOp op [a] pos) (tN X.K W f) := pe_one h
theorem pn_and (ha : PE X a (tN X.K W f)) (hb : PE X (.BoolOp .And (b :: rest) pos) (tN X.K W g)) : PE X (.BoolOp .And (a :: b :: rest) pos) (tN X.K W (eAnd f g)) := pe_mono (pe_and ha hb) fun σ H Q ⟨Xo, js, env, J, F, p⟩ => by
  refine toB_read (Q := fun k H' => if k = true then tN X.K W g σ H' Q else Q (.bl false) H') ⟨Xo, js, env, J, F, (?_ : PostB X.K W Xo js H σ env _ (toB (f env J)))⟩
  unfold eAnd at p
  cases hf : toB (f env J) with
  | stuck => rw [hf] at p; exact p.elim
  | err c fs J1 => rw [hf] at p; exact p
  | ok z J1 =>
    rw [hf] at p
    intro H' e G
    cases z with
    | false => exact iteF (p (.bl false) H' e (out_bl G))
    | true => exact iteT ⟨Xo, js, env, J1, G, later_N G.lists e p⟩
theorem pn_or (ha : PE X a (tN X.K W f)) (hb : PE X (.BoolOp .Or (b :: rest) pos) (tN X.K W g)) : PE X (.BoolOp .Or (a :: b :: rest) pos) (tN X.K W (eOr f g)) := pe_mono (pe_or ha hb) fun σ H Q ⟨Xo, js, env, J, F, p⟩ => by
  refine toB_read (Q := fun k H' => if k = true then Q (.bl true) H' else tN X.K W g σ H' Q) ⟨Xo, js, env, J, F, (?_ : PostB X.K W Xo js H σ env _ (toB (f env J)))⟩
  unfold eOr at p
  cases hf : toB (f env J) with
  | stuck => rw [hf] at p; exact p.elim
  | err c fs J1 => rw [hf] at p; exact p
  | ok z J1 =>
    rw [hf] at p
    intro H' e G
    cases z with
    | true => exact iteT (p (.bl true) H' e (out_bl G))
    | false => exact iteF ⟨Xo, js, env, J1, G, later_N G.lists e p⟩
theorem pn_if (hc : PT X c (tT X.K W cb)) (ha : PE X a (tN X.K W f)) (hb : PE X b (tN X.K W g)) : PE X (.IfExp c a b pos) (tN X.K W (eIf cb f g)) := pe_mono (pe_ifExp hc ha hb) fun σ H Q ⟨Xo, js, env, J, F, p⟩ => by
  refine ⟨Xo, js, env, J, F, ?_⟩
  unfold eIf at p
  cases hf : cb env J with
  | stuck => rw [hf] at p; exact p.elim
  | err c fs J1 => rw [hf] at p; exact p
  | ok z J1 =>
    rw [hf] at p
    intro H' e G
    cases z with
    | true => exact iteT ⟨Xo, js, env, J1, G, later_N G.lists e p⟩
    | false => exact iteF ⟨Xo, js, env, J1, G, later_N G.lists e p⟩
theorem pn_chain {op op' : CmpOp} {r r' : R2} {fo go : F2} {pos : Pos} (ho : OpR X (compareOp op) r) (ho' : OpR X (compareOp op') r') (sem : Sem2 X.K r fo) (sem' : Sem2 X.K r' go) (ha : PE X a (tD X.K W f)) (hb : PE X b (tD X.K W g)) (hc : PE X c (tD X.K W k))
    (w : PE X e (tChain r r' (tD X.K W f) (tD X.K W g) (tD X.K W k))) : PE X e (tN X.K W (eChain fo go f g k)) := pe_mono w fun σ H Q ⟨Xo, js, env, J, F, p⟩ => by
  refine ⟨Xo, js, env, J, F, ?_⟩
  unfold eChain at p
  cases hf : f env J with
  | stuck => rw [hf] at p; exact p.elim
  | err c fs J1 => rw [hf] at p; exact p
  | ok h1 J1 =>
    rw [hf] at p
    intro x H1 e1 F1 x1
    refine ⟨Xo, js, env, J1, F1, ?_⟩
    have p : PostN X.K W Xo js H σ env Q ((g env J1).bind fun h2 J2 => (toB (app2 fo J2 h1 h2)).bind fun b J3 => if b = true then (k env J3).bind fun h3 J4 => app2 go J4 h2 h3 else .ok (.val (.bl false)) J3) := p
    cases hg : g env J1 with
    | stuck => rw [hg] at p; exact p.elim
    | err c fs J2 => rw [hg] at p; exact p.later e1
    | ok h2 J2 =>
      rw [hg] at p
      intro y H2 e2 F2 y2
      refine app2_read (W := W) sem (H := H2) .refl F2 (x1.ext F1 e2) y2 ?_
      have p : PostN X.K W Xo js H σ env Q ((toB (app2 fo J2 h1 h2)).bind fun b J3 => if b = true then (k env J3).bind fun h3 J4 => app2 go J4 h2 h3 else .ok (.val (.bl false)) J3) := p
      cases hr : app2 fo J2 h1 h2 with
      | stuck => rw [hr] at p; exact p.elim
      | err c fs J3 => rw [hr] at p; exact p.later (e1.trans e2)
      | ok z J3 =>
        rw [hr] at p
        intro v H3 e3 o
        have e03 := (e1.trans e2).trans e3
        cases z with
        | jar k => exact p.elim
        | new ds => exact p.elim
        | val d =>
          cases d with
          | bl q =>
            refine ⟨q, outN_bl o, ?_⟩
            cases q with
            | false => exact iteF (p (.bl false) H3 e03 (out_bl o.1))
            | true =>
              refine iteT ⟨Xo, js, env, J3, o.1, ?_⟩
              have p : PostN X.K W Xo js H σ env Q ((k env J3).bind fun h3 J4 => app2 go J4 h2 h3) := p
              cases hk : k env J3 with
              | stuck => rw [hk] at p; exact p.elim
              | err c fs J4 => rw [hk] at p; exact p.later e03
              | ok h3 J4 =>
                rw [hk] at p
                intro u H4 e4 F4 u4
                exact app2_read sem' (e03.trans e4) F4 ((y2.ext F2 e3).ext o.1 e4) u4 p
          | _ => exact p.elim
end
end L2.Pz
set_option Elab.async false
set_option linter.all false
set_option maxRecDepth 100000
set_option maxHeartbeats 4000000
set_option autoImplicit false
namespace L2.Pz
open PySem PySem.Spec PyProof.Rows

/-! ### what operators do with data -/
def dAdd : F2
  | .int i, .int j => some (.val (.int (i + j)))
  | .str x, .str y => if x.length + y.length ≤ big then some (.val (.str (x ++ y))) else none
  | .tup xs, .tup ys => if xs.length + ys.length ≤ big then some (.val (.tup (xs ++ ys))) else none
  | .lst xs, .lst ys => if xs.length + ys.length ≤ big then some (.new (xs ++ ys)) else none
  | _, _ => none
def dInt2 (C : Int → Int → Bool) (g : Int → Int → D) : F2
  | .int i, .int j => if C i j = true then some (.val (g i j)) else none
  | _, _ => none
def yes2 : Int → Int → Bool := fun _ _ => true
def dSub : F2 := dInt2 yes2 fun i j => .int (i - j)
def dMul : F2 := dInt2 (fun i j => decide (i.natAbs.log2 + j.natAbs.log2 < 1000000)) fun i j => .int (i * j)
def dMod : F2 := dInt2 (fun _ j => decide (0 < j)) fun i j => .int (i % j)
def dFloor : F2 := dInt2 (fun _ j => decide (0 < j) && decide (j.natAbs.log2 < 9000)) fun i j => .int (i / j)
def dShl : F2 := dInt2 (fun i j => decide (0 ≤ j) && (decide (j ≤ 1000000) && decide (i.natAbs < 2 ^ 64))) fun i j => .int (i * 2 ^ j.toNat)
def dPow : F2 := dInt2 (fun i j => decide (0 ≤ j) && (decide (j ≤ 1000000) && decide (i.natAbs < 2 ^ 64))) fun i j => .int (i ^ j.toNat)
def dShr : F2 := dInt2 (fun _ j => decide (0 ≤ j)) fun i j => .int (i / 2 ^ j.toNat)
def dXor : F2 := dInt2 yes2 fun i j => .int (Builtin.bitXor i j)
def dLt : F2 := dInt2 yes2 fun i j => .bl (decide (i < j))
def dLe : F2 := dInt2 yes2 fun i j => .bl (decide (i ≤ j))
def dGt : F2 := dInt2 yes2 fun i j => .bl (decide (j < i))
def dGe : F2 := dInt2 yes2 fun i j => .bl (decide (j ≤ i))
def dNeg : F1
  | .int i => some (.val (.int (-i)))
  | _ => none
mutual
def toPy : D → PyData
  | .non => .none
  | .bl b => .bool b
  | .int i => .int i
  | .str x => .str x
  | .tup ds => .tuple (toPys ds)
  | .lst ds => .list (toPys ds)
def toPys : List D → List PyData
  | [] => []
  | d :: ds => toPy d :: toPys ds
end
def shp (d : D) : Bool := SeqAt.shaped (toPy d)
def deq (d e : D) : Bool := PyData.eqv (toPy d) (toPy e)
def dEq : F2 := fun d e => if (shp d && shp e) = true then some (.val (.bl (deq d e))) else none
def dNe : F2 := fun d e => if (shp d && shp e) = true then some (.val (.bl (!deq d e))) else none
def dIsN : F1
  | .non => some (.val (.bl true))
  | _ => some (.val (.bl false))
def dNotN : F1
  | .non => some (.val (.bl false))
  | _ => some (.val (.bl true))
def inAny (d : D) (ds : List D) : Bool := ds.any fun z => deq z d
def dInS : D → Str → Option HV
  | .str x, y => match x.cps.toList with
    | [c] => some (.val (.bl (decide (c ∈ y.cps.toList))))
    | _ => none
  | _, _ => none
def dIn : F2 := fun d e => match e with
  | .str y => dInS d y
  | .lst ds => if (shp d && shp (.lst ds)) = true then some (.val (.bl (inAny d ds))) else none
  | .tup ds => if (shp d && shp (.tup ds)) = true then some (.val (.bl (inAny d ds))) else none
  | _ => none
def dNotIn : F2 := fun d e => match dIn d e with
  | some (.val (.bl b)) => some (.val (.bl (!b)))
  | _ => none
def dIx : F2
  | .lst ds, .int i => (atI ds i).map HV.val
  | .tup ds, .int i => (atI ds i).map HV.val
  | .str z, .int i => if z.length ≤ big then (atI z.cps.toList i).map fun c => .val (.str ⟨#[c]⟩) else none
  | _, _ => none
def dLen : F1
  | .lst ds => some (.val (.int ds.length))
  | .tup ds => some (.val (.int ds.length))
  | .str z => if z.length ≤ big then some (.val (.int z.length)) else none
  | _ => none
def dList : F1
  | .lst ds => some (.new ds)
  | .tup ds => some (.new ds)
  | _ => none
def dTuple : F1
  | .lst ds => some (.val (.tup ds))
  | .tup ds => some (.val (.tup ds))
  | _ => none
def dAbs : F1
  | .int i => some (.val (.int (if i < 0 then -i else i)))
  | _ => none
def dToInt : F1
  | .int i => some (.val (.int i))
  | .bl b => some (.val (.int (if b then 1 else 0)))
  | _ => none
def dMax : F2 := dInt2 yes2 fun i j => .int (if j > i then j else i)
def dMin : F2 := dInt2 yes2 fun i j => .int (if j < i then j else i)
def tyName : D → String
  | .non => "NoneType"
  | .bl _ => "bool"
  | .int _ => "int"
  | .str _ => "str"
  | .tup _ => "tuple"
  | .lst _ => "list"
def isaS (T n : String) : Bool := decide (n = T) || (decide (T = "int") && decide (n = "bool"))
def isa (T : String) (d : D) : Bool := isaS T (tyName d)
def dIsa (T : String) : F1 := fun d => some (.val (.bl (isa T d)))
def asInts : List D → Option (List Int)
  | [] => some []
  | .int i :: r => (asInts r).map (i :: ·)
  | _ => none
def insI (i : Int) : List Int → List Int
  | [] => [i]
  | j :: r => if i ≤ j then i :: j :: r else j :: insI i r
def isort : List Int → List Int
  | [] => []
  | i :: r => insI i (isort r)
def dSorted : F1
  | .lst ds => match asInts ds with
    | some ns => if ns.length < 64 then some (.new ((isort ns).map D.int)) else none
    | none => none
  | _ => none

section
variable {K : PySem.W.Frag} {H H' : Hp} {Y : Addr → Prop} {v x y : V}
theorem po_val {d : D} (r : Rep K H Y d v) : PureOut K Y H H (.val d) v := ⟨Same.refl H, r⟩
theorem po_newt {ds : List D} {vs : List V} {p : Addr} (hl : Lists H Y) (hp : H p = none) (r : Reps K H Y ds vs) : PureOut K Y H (upd H p (.tup vs)) (.val (.tup ds)) (.ref p) :=
  ⟨same_upd hp, rep_tup.mpr ⟨p, vs, rfl, .of upd_same, reps_move (fun a o e _ => same_upd hp _ _ e) (fun _ y => .inl y) hl _ _ r⟩⟩
theorem po_newl {ds : List D} {vs : List V} {p : Addr} (hl : Lists H Y) (hp : H p = none) (r : Reps K H Y ds vs) : PureOut K Y H (upd H p (.lst vs)) (.new ds) (.ref p) :=
  ⟨same_upd hp, p, vs, rfl, hp, upd_same, reps_move (fun a o e _ => same_upd hp _ _ e) (fun a y => y.elim .inl fun z => .inr (z ▸ hp)) hl _ _ r⟩
theorem sem_int2 {C : Int → Int → Bool} {g : Int → Int → D} {C' : Int → Int → Prop} {gV : Int → Int → V} (hC : ∀ i j, C i j = true → C' i j) (hg : ∀ i j H Y, Rep K H Y (g i j) (gV i j)) : Sem2 K (rI C' gV) (dInt2 C g) := by
  intro H Y x y d e z Q hl hx hy hz q
  unfold dInt2 at hz
  split at hz
  · rename_i i j
    by_cases h : C i j = true
    · rw [if_pos h] at hz
      cases hz
      exact ⟨i, j, top_int hx, top_int hy, hC i j h, q _ _ (po_val (hg i j _ _))⟩
    · rw [if_neg h] at hz; cases hz
  · cases hz
theorem sem_int20 {g : Int → Int → D} {gV : Int → Int → V} (hg : ∀ i j H Y, Rep K H Y (g i j) (gV i j)) : Sem2 K (rI0 gV) (dInt2 yes2 g) := by
  intro H Y x y d e z Q hl hx hy hz q
  obtain ⟨i, j, a, b, _, c⟩ := sem_int2 (C' := fun _ _ => True) (fun _ _ _ => trivial) hg H Y x y d e z Q hl hx hy hz q
  exact ⟨i, j, a, b, c⟩
theorem sem_sub : Sem2 K (rI0 fun i j => .int (i - j)) dSub := sem_int20 fun _ _ _ _ => mk_int
theorem sem_mul : Sem2 K (rI CMulW fun i j => .int (i * j)) dMul := sem_int2 (fun i j h => show i.natAbs.log2 + j.natAbs.log2 < 1000000 from of_decide_eq_true h) fun _ _ _ _ => mk_int
theorem sem_mod : Sem2 K (rI (fun _ j => 0 < j) fun i j => .int (i % j)) dMod := sem_int2 (fun _ _ h => of_decide_eq_true h) fun _ _ _ _ => mk_int
theorem sem_floor : Sem2 K (rI CDivW fun i j => .int (i / j)) dFloor := sem_int2 (fun _ _ h => by rw [Bool.and_eq_true] at h; exact ⟨of_decide_eq_true h.1, of_decide_eq_true h.2⟩) fun _ _ _ _ => mk_int
theorem sem_shl : Sem2 K (rI CPow fun i j => .int (i * 2 ^ j.toNat)) dShl := sem_int2 (fun _ _ h => by rw [Bool.and_eq_true, Bool.and_eq_true] at h; exact ⟨of_decide_eq_true h.1, of_decide_eq_true h.2.1, of_decide_eq_true h.2.2⟩) fun _ _ _ _ => mk_int
theorem sem_pow : Sem2 K (rI CPow fun i j => .int (i ^ j.toNat)) dPow := sem_int2 (fun _ _ h => by rw [Bool.and_eq_true, Bool.and_eq_true] at h; exact ⟨of_decide_eq_true h.1, of_decide_eq_true h.2.1, of_decide_eq_true h.2.2⟩) fun _ _ _ _ => mk_int
theorem sem_shr : Sem2 K (rI (fun _ j => 0 ≤ j) fun i j => .int (i / 2 ^ j.toNat)) dShr := sem_int2 (fun _ _ h => of_decide_eq_true h) fun _ _ _ _ => mk_int
theorem sem_xor : Sem2 K (rI0 fun i j => .int (Builtin.bitXor i j)) dXor := sem_int20 fun _ _ _ _ => mk_int
theorem sem_lt : Sem2 K (rI0 fun i j => .bl (decide (i < j))) dLt := sem_int20 fun _ _ _ _ => mk_bl
theorem sem_le : Sem2 K (rI0 fun i j => .bl (decide (i ≤ j))) dLe := sem_int20 fun _ _ _ _ => mk_bl
theorem sem_gt : Sem2 K (rI0 fun i j => .bl (decide (j < i))) dGt := sem_int20 fun _ _ _ _ => mk_bl
theorem sem_ge : Sem2 K (rI0 fun i j => .bl (decide (j ≤ i))) dGe := sem_int20 fun _ _ _ _ => mk_bl
theorem sem_neg : Sem1 K (rU fun i => .int (-i)) dNeg := by
  intro H Y x d z Q hl hx hz q
  unfold dNeg at hz
  split at hz
  · cases hz; exact ⟨_, top_int hx, q _ _ (po_val mk_int)⟩
  · cases hz
/-! ### + -/
def rCatL (K : PySem.W.Frag) : R2 := fun x y H Q => ∃ a b xs zs, x = .ref a ∧ y = .ref b ∧ SqL K H a xs ∧ SqL K H b zs ∧ xs.length + zs.length ≤ sizeLine ∧ ∀ p, H p = none → Q (.ref p) (upd H p (.lst (xs ++ zs)))
theorem op_catL {X : Cx} : OpR X (binaryOp .Add) (rCatL X.K) := by
  intro pins s σ H x y v u Q I rx ry h
  obtain ⟨l, b, xs, zs, rfl, rfl, hH, hB, hz, q⟩ := h
  cases rx
  cases ry
  obtain ⟨its, r, pl, z⟩ := I.list hH
  obtain ⟨its2, r2, pl2, z2⟩ := I.list hB
  obtain ⟨⟨cls, dd, data, sl⟩, ho, hc, n, hd⟩ := pl.isList
  obtain ⟨⟨cls2, dd2, data2, sl2⟩, ho2, hc2, n2, hd2⟩ := pl2.isList
  simp only at hc hd hc2 hd2
  subst hc hd hc2 hd2
  have e : its.toArray ++ its2.toArray = (its ++ its2).toArray := by simp
  have h1 := r.length
  have h2 := r2.length
  refine concat_meets ⟨_, ho, rfl⟩ ⟨_, ho2, rfl⟩ noFill_list_add seq_list_add PySem.F.slot_list_add PySem.F.entry_list_add (PySem.F.args_list_add_2 _ _) (list_addW l b its.toArray its2.toArray n n2 dd dd2 sl sl2 (by simp; omega)) ⟨ho, ho2, ?_⟩
  rw [e]
  exact ⟨.ref _, _, I.lnew (t' := s.toks) (r.append r2) (by rw [List.length_append]; omega), rfl, q _ I.fresh⟩
abbrev rStrCat : R2 := fun x y H Q => ∃ i j, x = .str i ∧ y = .str j ∧ i.length + j.length ≤ sizeLine ∧ Q (.str (i ++ j)) H
def rAddAny (K : PySem.W.Frag) : R2 := fun x y H Q => rI0 (fun i j => .int (i + j)) x y H Q ∨ (rStrCat x y H Q ∨ (rCatA K x y H Q ∨ rCatL K x y H Q))
theorem op_addAny {X : Cx} : OpR X (binaryOp .Add) (rAddAny X.K) := op_add.or (op_add_str.or (op_catA.or op_catL))
theorem sem_add : Sem2 K (rAddAny K) dAdd := by
  intro H Y x y d e z Q hl hx hy hz q
  unfold dAdd at hz
  split at hz
  · cases hz
    exact .inl ⟨_, _, top_int hx, top_int hy, q _ _ (po_val mk_int)⟩
  · rename_i a b
    by_cases h : a.length + b.length ≤ big
    · rw [if_pos h] at hz
      cases hz
      exact .inr (.inl ⟨_, _, top_str hx, top_str hy, by rw [big_eq]; exact h, q _ _ (po_val mk_str)⟩)
    · rw [if_neg h] at hz; cases hz
  · rename_i xs ys
    by_cases h : xs.length + ys.length ≤ big
    · rw [if_pos h] at hz
      cases hz
      obtain ⟨a, vs, rfl, s1, r1⟩ := top_tup hx
      obtain ⟨b, us, rfl, s2, r2⟩ := top_tup hy
      have l1 := reps_len r1
      have l2 := reps_len r2
      refine .inr (.inr (.inl ⟨a, b, vs, us, rfl, rfl, s1, s2, by rw [big_eq, l1, l2]; exact h, fun e => ?_, fun _ e => ?_, fun _ _ p hp => q _ _ (po_newt hl hp (reps_append r1 r2))⟩))
      · have : xs = [] := by cases xs with | nil => rfl | cons c r => rw [e] at l1; simp at l1
        subst this
        exact q _ _ (po_val (rep_tup.mpr ⟨b, us, rfl, s2, r2⟩))
      · have : ys = [] := by cases ys with | nil => rfl | cons c r => rw [e] at l2; simp at l2
        subst this
        rw [List.append_nil] at q
        exact q _ _ (po_val (rep_tup.mpr ⟨a, vs, rfl, s1, r1⟩))
    · rw [if_neg h] at hz; cases hz
  · rename_i xs ys
    by_cases h : xs.length + ys.length ≤ big
    · rw [if_pos h] at hz
      cases hz
      obtain ⟨a, vs, rfl, s1, r1⟩ := hx
      obtain ⟨b, us, rfl, s2, r2⟩ := hy
      have l1 := reps_len r1
      have l2 := reps_len r2
      exact .inr (.inr (.inr ⟨a, b, vs, us, rfl, rfl, s1, s2, by rw [big_eq, l1, l2]; exact h, fun p hp => q _ _ (po_newl hl hp (reps_append r1 r2))⟩))
    · rw [if_neg h] at hz; cases hz
  · cases hz
/-! ### ==, in -/
mutual
theorem rep_dp : ∀ (d : D) (v : V), Rep K H Y d v → Dp K H v (toPy d)
  | .non, v, h => by rw [rep_non h]; unfold toPy; exact .non
  | .bl b, v, h => by rw [rep_bl h]; unfold toPy; exact .bl b
  | .int b, v, h => by rw [rep_int h]; unfold toPy; exact .int b
  | .str b, v, h => by rw [rep_str h]; unfold toPy; exact .str b
  | .tup ds, v, h => by
    obtain ⟨a, vs, e, s, r⟩ := rep_tup.mp h
    rw [e]; unfold toPy
    exact .tup s (reps_dp ds vs r)
  | .lst ds, v, h => by
    obtain ⟨a, vs, e, s, r⟩ := rep_lst.mp h
    rw [e]; unfold toPy
    exact .lst s.sq (reps_dp ds vs r)
theorem reps_dp : ∀ (ds : List D) (vs : List V), Reps K H Y ds vs → DpAll K H vs (toPys ds)
  | [], vs, h => by rw [reps_nil.mp h]; unfold toPys; exact .nil
  | d :: ds, vs, h => by
    obtain ⟨v, r, e, h1, h2⟩ := reps_cons.mp h
    rw [e]; unfold toPys
    exact .cons (rep_dp d v h1) (reps_dp ds r h2)
end
theorem top_dp {d : D} (h : RepTop K H Y d v) : Dp K H v (toPy d) := by
  cases d with
  | lst ds =>
    obtain ⟨a, vs, e, s, r⟩ := h
    rw [e]; unfold toPy
    exact .lst s (reps_dp ds vs r)
  | non => exact rep_dp (K := K) (H := H) (Y := Y) _ _ h
  | bl b => exact rep_dp (K := K) (H := H) (Y := Y) _ _ h
  | int b => exact rep_dp (K := K) (H := H) (Y := Y) _ _ h
  | str b => exact rep_dp (K := K) (H := H) (Y := Y) _ _ h
  | tup b => exact rep_dp (K := K) (H := H) (Y := Y) _ _ h
theorem sem_eq : Sem2 K (rEqD K) dEq := by
  intro H Y x y d e z Q hl hx hy hz q
  unfold dEq at hz
  by_cases h : (shp d && shp e) = true
  · rw [if_pos h] at hz
    cases hz
    rw [Bool.and_eq_true] at h
    exact ⟨toPy d, toPy e, top_dp hx, top_dp hy, h.1, h.2, q _ _ (po_val mk_bl)⟩
  · rw [if_neg h] at hz; cases hz
theorem sem_ne : Sem2 K (rNeD K) dNe := by
  intro H Y x y d e z Q hl hx hy hz q
  unfold dNe at hz
  by_cases h : (shp d && shp e) = true
  · rw [if_pos h] at hz
    cases hz
    rw [Bool.and_eq_true] at h
    exact ⟨toPy d, toPy e, top_dp hx, top_dp hy, h.1, h.2, q _ _ (po_val mk_bl)⟩
  · rw [if_neg h] at hz; cases hz
theorem toPys_any {d : D} : ∀ ds : List D, ((toPys ds).any fun z => PyData.eqv z (toPy d)) = inAny d ds
  | [] => by unfold toPys inAny; rfl
  | e :: ds => by
    unfold toPys
    rw [List.any_cons, toPys_any ds]
    rfl
end
/-! ### in: one sign in a text; an item in a list, a tuple -/
section
variable {X : Cx} {K : PySem.W.Frag}
def rInT (K : PySem.W.Frag) (neg : Bool) : R2 := fun x y H Q => ∃ d ds, Dp K H x d ∧ Dp K H y (.tuple ds) ∧ SeqAt.shaped d = true ∧ SeqAt.shaped (.tuple ds) = true ∧ Q (.bl (if neg then !(ds.any fun z => PyData.eqv z d) else ds.any fun z => PyData.eqv z d)) H
theorem canLays_of {ds : List PyData} (h : SeqAt.shaped (.tuple ds) = true) : PyData.canLayAll0 ds = true := by
  have := SeqAt.canLay_of_shaped h
  unfold PyData.canLay0 at this
  exact this
theorem room_inT {A : Around} {d : PyData} {ds : List PyData} (h : SeqAt.shaped d = true) (hu : A.units + 200 < cLine) : A.units + 1 + min (PyData.depthAll ds) d.depth < cLine := by
  have h1 := SeqAt.depth_of_shaped h
  have h2 : min (PyData.depthAll ds) d.depth ≤ d.depth := Nat.min_le_right _ _
  omega
theorem op_inT (hu : X.A.units + 200 < cLine) : OpR X (compareOp .In) (rInT X.K false) := by
  intro pins s σ H x y v u Q I rx ry h
  obtain ⟨d, ds, hd, he, sd, se, q⟩ := h
  obtain ⟨as, r1⟩ := Dp.reads I d x v hd rx
  obtain ⟨bs, r2⟩ := Dp.reads I (.tuple ds) y u he ry
  exact SeqAt.in_tuple_reads r2 r1 (canLays_of se) (SeqAt.canLay_of_shaped sd) (room_inT sd hu) ⟨.bl _, H, I, rfl, q⟩
theorem op_notInT (hu : X.A.units + 200 < cLine) : OpR X (compareOp .NotIn) (rInT X.K true) := by
  intro pins s σ H x y v u Q I rx ry h
  obtain ⟨d, ds, hd, he, sd, se, q⟩ := h
  obtain ⟨as, r1⟩ := Dp.reads I d x v hd rx
  obtain ⟨bs, r2⟩ := Dp.reads I (.tuple ds) y u he ry
  exact SeqAt.notIn_tuple_reads r2 r1 (canLays_of se) (SeqAt.canLay_of_shaped sd) (room_inT sd hu) ⟨.bl _, H, I, rfl, q⟩
abbrev rInS (neg : Bool) : R2 := fun x y H Q => ∃ (c : Nat) (z : Str), x = .str ⟨#[c]⟩ ∧ y = .str z ∧ Q (.bl (if neg then !decide (c ∈ z.cps.toList) else decide (c ∈ z.cps.toList))) H
def rInAny (K : PySem.W.Frag) : R2 := fun x y H Q => rInS false x y H Q ∨ (rInD K x y H Q ∨ rInT K false x y H Q)
def rNotInAny (K : PySem.W.Frag) : R2 := fun x y H Q => rInS true x y H Q ∨ (rNotInD K x y H Q ∨ rInT K true x y H Q)
theorem op_inAny (hu : X.A.units + 200 < cLine) : OpR X (compareOp .In) (rInAny X.K) := OpR.or (r := rInS false) op_in_sign ((op_inD (by omega)).or (op_inT hu))
theorem op_notInAny (hu : X.A.units + 200 < cLine) : OpR X (compareOp .NotIn) (rNotInAny X.K) := OpR.or (r := rInS true) op_notIn_sign ((op_notInD (by omega)).or (op_notInT hu))
theorem str_one {x : Str} {c : Nat} (h : x.cps.toList = [c]) : x = ⟨#[c]⟩ := by
  cases x with
  | mk cps =>
    have h : cps.toList = [c] := h
    have : cps = #[c] := by
      apply Array.toList_inj.mp
      rw [h]
    rw [this]
theorem in_cases {H : Hp} {Y : Addr → Prop} {x y : V} {d e : D} {b : Bool} (hx : RepTop K H Y d x) (hy : RepTop K H Y e y) (h : dIn d e = some (.val (.bl b))) :
    (∃ (c : Nat) (z : Str), x = .str ⟨#[c]⟩ ∧ y = .str z ∧ b = decide (c ∈ z.cps.toList)) ∨
    (∃ ds, Dp K H x (toPy d) ∧ Dp K H y (.list ds) ∧ SeqAt.shaped (toPy d) = true ∧ SeqAt.shaped (.list ds) = true ∧ b = ds.any fun z => PyData.eqv z (toPy d)) ∨
    (∃ ds, Dp K H x (toPy d) ∧ Dp K H y (.tuple ds) ∧ SeqAt.shaped (toPy d) = true ∧ SeqAt.shaped (.tuple ds) = true ∧ b = ds.any fun z => PyData.eqv z (toPy d)) := by
  unfold dIn at h
  cases e with
  | non => cases h
  | bl b => cases h
  | int b => cases h
  | str z =>
    have h : dInS d z = some (.val (.bl b)) := h
    unfold dInS at h
    cases d with
    | str a =>
      dsimp only at h
      split at h
      · rename_i c hc
        cases h
        exact .inl ⟨c, z, by rw [top_str hx, str_one hc], top_str hy, rfl⟩
      · cases h
    | _ => cases h
  | lst ds =>
    have h : (if (shp d && shp (.lst ds)) = true then some (HV.val (.bl (inAny d ds))) else none) = some (.val (.bl b)) := h
    by_cases hs : (shp d && shp (.lst ds)) = true
    · rw [if_pos hs] at h
      cases h
      rw [Bool.and_eq_true] at hs
      have h2 := hs.2
      unfold shp toPy at h2
      have hp := top_dp hy
      unfold toPy at hp
      exact .inr (.inl ⟨toPys ds, top_dp hx, hp, hs.1, h2, (toPys_any ds).symm⟩)
    · rw [if_neg hs] at h; cases h
  | tup ds =>
    have h : (if (shp d && shp (.tup ds)) = true then some (HV.val (.bl (inAny d ds))) else none) = some (.val (.bl b)) := h
    by_cases hs : (shp d && shp (.tup ds)) = true
    · rw [if_pos hs] at h
      cases h
      rw [Bool.and_eq_true] at hs
      have h2 := hs.2
      unfold shp toPy at h2
      have hp := top_dp hy
      unfold toPy at hp
      exact .inr (.inr ⟨toPys ds, top_dp hx, hp, hs.1, h2, (toPys_any ds).symm⟩)
    · rw [if_neg hs] at h; cases h
theorem dIn_bl {d e : D} {z : HV} (h : dIn d e = some z) : ∃ b, z = .val (.bl b) := by
  unfold dIn at h
  cases e with
  | non => cases h
  | bl b => cases h
  | int b => cases h
  | str z =>
    have h : dInS d z = some _ := h
    unfold dInS at h
    cases d with
    | str a =>
      dsimp only at h
      split at h
      · cases h; exact ⟨_, rfl⟩
      · cases h
    | _ => cases h
  | lst ds =>
    dsimp only at h
    split at h
    · cases h; exact ⟨_, rfl⟩
    · cases h
  | tup ds =>
    dsimp only at h
    split at h
    · cases h; exact ⟨_, rfl⟩
    · cases h
theorem sem_in : Sem2 K (rInAny K) dIn := by
  intro H Y x y d e z Q hl hx hy hz q
  obtain ⟨b, rfl⟩ := dIn_bl hz
  have fin := q (.bl b) H (po_val mk_bl)
  rcases in_cases hx hy hz with ⟨c, z, h1, h2, h3⟩ | ⟨ds, h1, h2, h3, h4, h5⟩ | ⟨ds, h1, h2, h3, h4, h5⟩
  · subst h3; exact .inl ⟨c, z, h1, h2, fin⟩
  · subst h5; exact .inr (.inl ⟨_, ds, h1, h2, h3, h4, fin⟩)
  · subst h5; exact .inr (.inr ⟨_, ds, h1, h2, h3, h4, fin⟩)
theorem sem_notIn : Sem2 K (rNotInAny K) dNotIn := by
  intro H Y x y d e z Q hl hx hy hz q
  unfold dNotIn at hz
  split at hz
  · rename_i b hb
    cases hz
    have fin := q (.bl (!b)) H (po_val mk_bl)
    rcases in_cases hx hy hb with ⟨c, z, h1, h2, h3⟩ | ⟨ds, h1, h2, h3, h4, h5⟩ | ⟨ds, h1, h2, h3, h4, h5⟩
    · subst h3; exact .inl ⟨c, z, h1, h2, fin⟩
    · subst h5; exact .inr (.inl ⟨_, ds, h1, h2, h3, h4, fin⟩)
    · subst h5; exact .inr (.inr ⟨_, ds, h1, h2, h3, h4, fin⟩)
  · cases hz
/-! ### is None -/
theorem pn_isN {W : WX} {a : Expr} {f : EF} {j pos pos'} (ha : PE X a (tD X.K W f)) : PE X (.Compare a [.Is] [.Constant .none j pos'] pos) (tN X.K W (eUn dIsN f)) :=
  pe_mono (pe_cmp (pc_isN ha) rfl) fun σ H Q w => un_read (ta := tD X.K W f) (r := fun x H Q => Q (.bl (decide (x = .non))) H) (fo := dIsN) (fun H Y x d z Q hl hx hz q => by
    cases d with
    | non => cases hz; rw [top_non hx]; exact q _ _ (po_val mk_bl)
    | bl b => cases hz; rw [top_bl hx]; exact q _ _ (po_val mk_bl)
    | int b => cases hz; rw [top_int hx]; exact q _ _ (po_val mk_bl)
    | str b => cases hz; rw [top_str hx]; exact q _ _ (po_val mk_bl)
    | tup ds => obtain ⟨a, vs, rfl, _⟩ := top_tup hx; cases hz; exact q _ _ (po_val mk_bl)
    | lst ds => obtain ⟨a, vs, rfl, _⟩ := hx; cases hz; exact q _ _ (po_val mk_bl)) (fun _ _ _ z => z) w
theorem pn_notN {W : WX} {a : Expr} {f : EF} {j pos pos'} (ha : PE X a (tD X.K W f)) : PE X (.Compare a [.IsNot] [.Constant .none j pos'] pos) (tN X.K W (eUn dNotN f)) :=
  pe_mono (pe_cmp (pc_notN ha) rfl) fun σ H Q w => un_read (ta := tD X.K W f) (r := fun x H Q => Q (.bl (!decide (x = .non))) H) (fo := dNotN) (fun H Y x d z Q hl hx hz q => by
    cases d with
    | non => cases hz; rw [top_non hx]; exact q _ _ (po_val mk_bl)
    | bl b => cases hz; rw [top_bl hx]; exact q _ _ (po_val mk_bl)
    | int b => cases hz; rw [top_int hx]; exact q _ _ (po_val mk_bl)
    | str b => cases hz; rw [top_str hx]; exact q _ _ (po_val mk_bl)
    | tup ds => obtain ⟨a, vs, rfl, _⟩ := top_tup hx; cases hz; exact q _ _ (po_val mk_bl)
    | lst ds => obtain ⟨a, vs, rfl, _⟩ := hx; cases hz; exact q _ _ (po_val mk_bl)) (fun _ _ _ z => z) w
end
/-! ### x[i], len, list, tuple, abs, int, max, min, isinstance, sorted -/
section
variable {X : Cx} {K : PySem.W.Frag} {H : Hp} {Y : Addr → Prop}
theorem atI_reps {ds : List D} {vs : List V} {i : Int} {d : D} (r : Reps K H Y ds vs) (h : atI ds i = some d) : ∃ v, atI vs i = some v ∧ Rep K H Y d v := by
  unfold atI at h ⊢
  rw [reps_len r]
  cases e : ixN ds.length i with
  | none => rw [e] at h; cases h
  | some j =>
    rw [e] at h
    exact reps_get r h
theorem sem_ix : Sem2 K (rIx K) dIx := by
  intro H Y x y d e z Q hl hx hy hz q
  unfold dIx at hz
  split at hz
  · rename_i ds i
    obtain ⟨a, vs, rfl, s, r⟩ := hx
    cases h : atI ds i with
    | none => rw [h] at hz; cases hz
    | some d =>
      rw [h] at hz; cases hz
      obtain ⟨v, h1, h2⟩ := atI_reps r h
      exact .inl ⟨a, vs, i, v, rfl, top_int hy, s, h1, q _ _ (po_val h2)⟩
  · rename_i ds i
    obtain ⟨a, vs, rfl, s, r⟩ := top_tup hx
    cases h : atI ds i with
    | none => rw [h] at hz; cases hz
    | some d =>
      rw [h] at hz; cases hz
      obtain ⟨v, h1, h2⟩ := atI_reps r h
      exact .inr (.inl ⟨a, vs, i, v, rfl, top_int hy, s, h1, q _ _ (po_val h2)⟩)
  · rename_i zz i
    by_cases hb : zz.length ≤ big
    · rw [if_pos hb] at hz
      cases h : atI zz.cps.toList i with
      | none => rw [h] at hz; cases hz
      | some c =>
        rw [h] at hz; cases hz
        exact .inr (.inr ⟨zz, i, c, top_str hx, top_int hy, by rw [big_eq]; exact hb, h, q _ _ (po_val mk_str)⟩)
    · rw [if_neg hb] at hz; cases hz
  · cases hz
def rLenAny (K : PySem.W.Frag) : List V → Hp → VK → Prop := fun xs H Q => (∃ p ys, xs = [.ref p] ∧ (SqL K H p ys ∨ SqT K H p ys) ∧ Q (.int ys.length) H) ∨ ∃ z, xs = [.str z] ∧ z.length ≤ sizeLine ∧ Q (.int z.length) H
theorem call_lenAny : CallR X (.builtin "len") (rLenAny X.K) := call_len_seq.or call_len_str
theorem sem_len : Sem1 K (fun x H Q => rLenAny K [x] H Q) dLen := by
  intro H Y x d z Q hl hx hz q
  unfold dLen at hz
  split at hz
  · obtain ⟨a, vs, rfl, s, r⟩ := hx
    cases hz
    exact .inl ⟨a, vs, rfl, .inl s, by rw [reps_len r]; exact q _ _ (po_val mk_int)⟩
  · obtain ⟨a, vs, rfl, s, r⟩ := top_tup hx
    cases hz
    exact .inl ⟨a, vs, rfl, .inr s, by rw [reps_len r]; exact q _ _ (po_val mk_int)⟩
  · rename_i zz
    by_cases hb : zz.length ≤ big
    · rw [if_pos hb] at hz
      cases hz
      exact .inr ⟨zz, by rw [top_str hx], by rw [big_eq]; exact hb, q _ _ (po_val mk_int)⟩
    · rw [if_neg hb] at hz; cases hz
  · cases hz
abbrev rListOf (K : PySem.W.Frag) : List V → Hp → VK → Prop := fun xs H Q => ∃ p ys, xs = [.ref p] ∧ (SqL K H p ys ∨ SqT K H p ys) ∧ ∀ l, H l = none → Q (.ref l) (upd H l (.lst ys))
theorem sem_list : Sem1 K (fun x H Q => rListOf K [x] H Q) dList := by
  intro H Y x d z Q hl hx hz q
  unfold dList at hz
  split at hz
  · obtain ⟨a, vs, rfl, s, r⟩ := hx
    cases hz
    exact ⟨a, vs, rfl, .inl s, fun p hp => q _ _ (po_newl hl hp r)⟩
  · obtain ⟨a, vs, rfl, s, r⟩ := top_tup hx
    cases hz
    exact ⟨a, vs, rfl, .inr s, fun p hp => q _ _ (po_newl hl hp r)⟩
  · cases hz
abbrev rTupOf (K : PySem.W.Frag) : List V → Hp → VK → Prop := fun xs H Q => ∃ p ys, xs = [.ref p] ∧ ((SqL K H p ys ∧ ∀ l, H l = none → Q (.ref l) (upd H l (.tup ys))) ∨ (SqT K H p ys ∧ Q (.ref p) H))
theorem sem_tuple : Sem1 K (fun x H Q => rTupOf K [x] H Q) dTuple := by
  intro H Y x d z Q hl hx hz q
  unfold dTuple at hz
  split at hz
  · obtain ⟨a, vs, rfl, s, r⟩ := hx
    cases hz
    exact ⟨a, vs, rfl, .inl ⟨s, fun p hp => q _ _ (po_newt hl hp r)⟩⟩
  · obtain ⟨a, vs, rfl, s, r⟩ := top_tup hx
    cases hz
    exact ⟨a, vs, rfl, .inr ⟨s, q _ _ (po_val (rep_tup.mpr ⟨a, vs, rfl, s, r⟩))⟩⟩
  · cases hz
abbrev rAbs : List V → Hp → VK → Prop := fun xs H Q => ∃ i, xs = [.int i] ∧ Q (.int (if i < 0 then -i else i)) H
theorem sem_abs : Sem1 K (fun x H Q => rAbs [x] H Q) dAbs := by
  intro H Y x d z Q hl hx hz q
  unfold dAbs at hz
  split at hz
  · cases hz; exact ⟨_, by rw [top_int hx], q _ _ (po_val mk_int)⟩
  · cases hz
abbrev rToInt : List V → Hp → VK → Prop := fun xs H Q => (∃ i, xs = [.int i] ∧ Q (.int i) H) ∨ ∃ k, xs = [.bl k] ∧ Q (.int (if k then 1 else 0)) H
theorem sem_toInt : Sem1 K (fun x H Q => rToInt [x] H Q) dToInt := by
  intro H Y x d z Q hl hx hz q
  unfold dToInt at hz
  split at hz
  · cases hz; exact .inl ⟨_, by rw [top_int hx], q _ _ (po_val mk_int)⟩
  · cases hz; exact .inr ⟨_, by rw [top_bl hx], q _ _ (po_val mk_int)⟩
  · cases hz
abbrev rMax2 : List V → Hp → VK → Prop := fun xs H Q => ∃ i j, xs = [.int i, .int j] ∧ Q (.int (if j > i then j else i)) H
abbrev rMin2 : List V → Hp → VK → Prop := fun xs H Q => ∃ i j, xs = [.int i, .int j] ∧ Q (.int (if j < i then j else i)) H
theorem sem_max : Sem2 K (fun x y H Q => rMax2 [x, y] H Q) dMax := by
  intro H Y x y d e z Q hl hx hy hz q
  obtain ⟨i, j, a, b, c⟩ := sem_int20 (K := K) (g := fun i j => .int (if j > i then j else i)) (gV := fun i j => .int (if j > i then j else i)) (fun _ _ _ _ => mk_int) H Y x y d e z Q hl hx hy hz q
  exact ⟨i, j, by rw [a, b], c⟩
theorem sem_min : Sem2 K (fun x y H Q => rMin2 [x, y] H Q) dMin := by
  intro H Y x y d e z Q hl hx hy hz q
  obtain ⟨i, j, a, b, c⟩ := sem_int20 (K := K) (g := fun i j => .int (if j < i then j else i)) (gV := fun i j => .int (if j < i then j else i)) (fun _ _ _ _ => mk_int) H Y x y d e z Q hl hx hy hz q
  exact ⟨i, j, by rw [a, b], c⟩
/-- the class of a value that data stand for -/
theorem tyx_of {d : D} {v : V} (h : RepTop K H Y d v) : TyX K H v (.type (tyName d)) := by
  have tl : ∀ {a : Addr} {vs : List V}, SqL K H a vs → TyX K H (.ref a) (.type "list") := fun {a vs} s => by
    rcases s with (s | ⟨o, s⟩) | ⟨o, its, n, hk, hc, _⟩
    · exact .base (.lst s)
    · exact .base (.frz s)
    · exact .kList hk hc
  cases d with
  | non => rw [top_non h]; exact .base .non
  | bl b => rw [top_bl h]; exact .base (.bl b)
  | int b => rw [top_int h]; exact .base (.int b)
  | str b => rw [top_str h]; exact .base (.str b)
  | lst ds =>
    obtain ⟨a, vs, rfl, s, _⟩ := h
    exact tl s
  | tup ds =>
    obtain ⟨a, vs, rfl, s, _⟩ := top_tup h
    rcases s with (s | ⟨o, s⟩) | ⟨o, its, n, hk, hc, _⟩
    · exact .base (.tup s)
    · exact .fTuple s
    · exact .kTuple hk hc
/-- T is one of the classes that data have -/
def IsaOk (T : String) : Prop := ∀ d : D, kitB (tyName d) T = some (isa T d)
theorem sem_isa {T : String} (hT : IsaOk T) : Sem1 K (fun x H Q => rIsi K [x, .ty T] H Q) (dIsa T) := by
  intro H Y x d z Q hl hx hz q
  cases hz
  exact ⟨x, .ty T, _, _, _, rfl, .ty T, tyx_of hx, kit_ty (hT d), q _ _ (po_val mk_bl)⟩
theorem isaOk_of {T : String} (h1 : kitB "NoneType" T = some (isaS T "NoneType")) (h2 : kitB "bool" T = some (isaS T "bool")) (h3 : kitB "int" T = some (isaS T "int")) (h4 : kitB "str" T = some (isaS T "str")) (h5 : kitB "tuple" T = some (isaS T "tuple")) (h6 : kitB "list" T = some (isaS T "list")) : IsaOk T := fun d => by
  cases d
  · exact h1
  · exact h2
  · exact h3
  · exact h4
  · exact h5
  · exact h6
theorem isa_int : IsaOk "int" := isaOk_of (by decide +kernel) (by decide +kernel) (by decide +kernel) (by decide +kernel) (by decide +kernel) (by decide +kernel)
theorem isa_bool : IsaOk "bool" := isaOk_of (by decide +kernel) (by decide +kernel) (by decide +kernel) (by decide +kernel) (by decide +kernel) (by decide +kernel)
theorem isa_str : IsaOk "str" := isaOk_of (by decide +kernel) (by decide +kernel) (by decide +kernel) (by decide +kernel) (by decide +kernel) (by decide +kernel)
theorem isa_tuple : IsaOk "tuple" := isaOk_of (by decide +kernel) (by decide +kernel) (by decide +kernel) (by decide +kernel) (by decide +kernel) (by decide +kernel)
theorem isa_list : IsaOk "list" := isaOk_of (by decide +kernel) (by decide +kernel) (by decide +kernel) (by decide +kernel) (by decide +kernel) (by decide +kernel)
theorem asInts_map : ∀ {ds : List D} {ns : List Int}, asInts ds = some ns → ds = ns.map D.int
  | [], ns, h => by cases h; rfl
  | .int i :: r, ns, h => by
    unfold asInts at h
    cases e : asInts r with
    | none => rw [e] at h; cases h
    | some ms =>
      rw [e] at h
      cases h
      rw [asInts_map e]; rfl
  | .non :: r, ns, h => by cases h
  | .bl _ :: r, ns, h => by cases h
  | .str _ :: r, ns, h => by cases h
  | .tup _ :: r, ns, h => by cases h
  | .lst _ :: r, ns, h => by cases h
theorem insI_perm (i : Int) : ∀ l : List Int, (insI i l).Perm (i :: l)
  | [] => .refl _
  | j :: r => by
    unfold insI
    split
    · exact .refl _
    · exact ((insI_perm i r).cons j).trans (.swap i j r)
theorem isort_perm : ∀ l : List Int, (isort l).Perm l
  | [] => .refl _
  | i :: r => (insI_perm i (isort r)).trans ((isort_perm r).cons i)
theorem insI_sorted (i : Int) : ∀ {l : List Int}, l.Pairwise (· ≤ ·) → (insI i l).Pairwise (· ≤ ·)
  | [], _ => List.pairwise_singleton _ _
  | j :: r, h => by
    have h2 := List.pairwise_cons.mp h
    unfold insI
    split
    · rename_i hij
      refine List.pairwise_cons.mpr ⟨fun a ha => ?_, h⟩
      rcases List.mem_cons.mp ha with rfl | ha
      · exact hij
      · exact Int.le_trans hij (h2.1 a ha)
    · rename_i hij
      refine List.pairwise_cons.mpr ⟨fun a ha => ?_, insI_sorted i h2.2⟩
      rcases List.mem_cons.mp ((insI_perm i r).mem_iff.mp ha) with rfl | ha
      · omega
      · exact h2.1 a ha
theorem isort_sorted : ∀ l : List Int, (isort l).Pairwise (· ≤ ·)
  | [] => .nil
  | i :: r => insI_sorted i (isort_sorted r)
theorem sem_sorted : Sem1 K (fun x H Q => rSorted K [x] H Q) dSorted := by
  intro H Y x d z Q hl hx hz q
  unfold dSorted at hz
  split at hz
  · rename_i ds
    split at hz
    · rename_i ns hn
      by_cases h64 : ns.length < 64
      · rw [if_pos h64] at hz
        cases hz
        obtain ⟨a, vs, rfl, s, r⟩ := hx
        rw [asInts_map hn] at r
        have e := reps_ints r
        subst e
        refine ⟨a, ns, rfl, s, h64, fun ns' p h1 h2 hp => ?_⟩
        have e : ns' = isort ns := PySem.W.ksm_same (h1.trans (isort_perm ns).symm) h2 (isort_sorted ns)
        subst e
        exact q _ _ (po_newl hl hp reps_of_ints)
      · rw [if_neg h64] at hz; cases hz
    · cases hz
  · cases hz
end
end L2.Pz
set_option Elab.async false
set_option linter.all false
set_option maxRecDepth 100000
set_option maxHeartbeats 4000000
set_option autoImplicit false
namespace L2.Pz
open PySem PySem.Spec PyProof.Rows

/-! ### displays -/
def toVal : HV → Option D
  | .val d => some d
  | .new ds => some (.lst ds)
  | .jar _ => none
def eItems : List EF → En → Jr → R (List D)
  | [], _, J => .ok [] J
  | f :: fs, env, J => (f env J).bind fun h J1 => match toVal h with
    | some d => (eItems fs env J1).bind fun ds J2 => .ok (d :: ds) J2
    | none => .stuck
def eTup (fs : List EF) : EF := fun env J => (eItems fs env J).bind fun ds J1 => if ds.length ≤ big then .ok (.val (.tup ds)) J1 else .stuck
def eLst (fs : List EF) : EF := fun env J => (eItems fs env J).bind fun ds J1 => if ds.length ≤ big then .ok (.new ds) J1 else .stuck
def PostI (K : PySem.W.Frag) (W : WX) (Xo : Addr → Prop) (js : List Addr) (H : Hp) (σ : L2.St) (env : En) (Q : List V → Hp → Prop) : R (List D) → Prop
  | .ok ds J => ∀ vs H', Ext js H H' → Fit K Xo js H' σ env J → Reps K H' (Yf Xo js) ds vs → Q vs H'
  | .err c fs J => Flies K W Xo js H σ env c fs J
  | .stuck => False
def tI (K : PySem.W.Frag) (W : WX) (fs : List EF) : TA := fun σ H Q => ∃ Xo js env J, Fit K Xo js H σ env J ∧ PostI K W Xo js H σ env Q (eItems fs env J)
theorem pa_mono {X : Cx} {es : List Expr} {t t' : TA} (h : PA X es t) (m : ∀ σ H Q, t' σ H Q → t σ H Q) : PA X es t' := ⟨fun pos pins s σ H Q I w => h.run pos pins s σ H Q I (m σ H Q w)⟩
section
variable {X : Cx} {W : WX} {e : Expr} {es : List Expr} {f : EF} {fs : List EF} {pos : Pos}
theorem val_rep {Xo : Addr → Prop} {js : List Addr} {H : Hp} {h : HV} {v : V} {d : D} (x : HRep X.K H (Yf Xo js) js (norm h) v) (e : toVal h = some d) : Rep X.K H (Yf Xo js) d v := by
  cases h with
  | val d' => cases e; exact x
  | new ds => cases e; exact x
  | jar k => cases e
theorem pi_nilD : PA X [] (tI X.K W []) := pa_mono pa_nil fun σ H Q ⟨Xo, js, env, J, F, p⟩ => p [] H .refl F (reps_nil.mpr rfl)
theorem pi_consD (ha : PE X e (tD X.K W f)) (hb : PA X es (tI X.K W fs)) (hs : starEach (e :: es) X.env = (false, eval e X.env) :: starEach es X.env) : PA X (e :: es) (tI X.K W (f :: fs)) :=
  pa_mono (pa_cons ha hb hs) fun σ H Q ⟨Xo, js, env, J, F, p⟩ => by
    refine ⟨Xo, js, env, J, F, ?_⟩
    unfold eItems at p
    cases hf : f env J with
    | stuck => rw [hf] at p; exact p.elim
    | err c fs J1 => rw [hf] at p; exact p
    | ok h J1 =>
      rw [hf] at p
      intro x H1 e1 F1 x1
      have p : PostI X.K W Xo js H σ env Q (match toVal h with
        | some d => (eItems fs env J1).bind fun ds J2 => .ok (d :: ds) J2
        | none => .stuck) := p
      cases ht : toVal h with
      | none => rw [ht] at p; exact p.elim
      | some d =>
        rw [ht] at p
        have r1 := val_rep x1 ht
        refine ⟨Xo, js, env, J1, F1, ?_⟩
        have p : PostI X.K W Xo js H σ env Q ((eItems fs env J1).bind fun ds J2 => .ok (d :: ds) J2) := p
        cases hg : eItems fs env J1 with
        | stuck => rw [hg] at p; exact p.elim
        | err c fs J2 => rw [hg] at p; exact p.later e1
        | ok ds J2 =>
          rw [hg] at p
          intro vs H2 e2 F2 r2
          exact p (x :: vs) H2 (e1.trans e2) F2 (reps_cons.mpr ⟨x, vs, rfl, r1.ext F1 e2, r2⟩)
theorem pn_tup {x1} (h : PA X es (tI X.K W fs)) : PE X (.Tuple es x1 pos) (tN X.K W (eTup fs)) := pe_mono (pe_tup h) fun σ H Q ⟨Xo, js, env, J, F, p⟩ => by
  refine ⟨Xo, js, env, J, F, ?_⟩
  unfold eTup at p
  cases hg : eItems fs env J with
  | stuck => rw [hg] at p; exact p.elim
  | err c fs J2 => rw [hg] at p; exact p
  | ok ds J2 =>
    rw [hg] at p
    intro vs H2 e2 F2 r2
    have p : PostN X.K W Xo js H σ env Q (if ds.length ≤ big then .ok (.val (.tup ds)) J2 else .stuck) := p
    by_cases hb : ds.length ≤ big
    · rw [if_pos hb] at p
      refine ⟨by rw [big_eq, reps_len r2]; exact hb, fun q hq => ?_⟩
      obtain ⟨e3, o⟩ := pure_out F2 e2 (po_newt F2.lists hq r2)
      exact p _ _ e3 o
    · rw [if_neg hb] at p; exact p.elim
theorem pn_lst (h : PA X es (tI X.K W fs)) : PE X (.List es pos) (tN X.K W (eLst fs)) := pe_mono (pe_lst h) fun σ H Q ⟨Xo, js, env, J, F, p⟩ => by
  refine ⟨Xo, js, env, J, F, ?_⟩
  unfold eLst at p
  cases hg : eItems fs env J with
  | stuck => rw [hg] at p; exact p.elim
  | err c fs J2 => rw [hg] at p; exact p
  | ok ds J2 =>
    rw [hg] at p
    intro vs H2 e2 F2 r2
    have p : PostN X.K W Xo js H σ env Q (if ds.length ≤ big then .ok (.new ds) J2 else .stuck) := p
    by_cases hb : ds.length ≤ big
    · rw [if_pos hb] at p
      refine ⟨by rw [big_eq, reps_len r2]; exact hb, fun q hq => ?_⟩
      obtain ⟨e3, o⟩ := pure_out F2 e2 (po_newl F2.lists hq r2)
      exact p _ _ e3 o
    · rw [if_neg hb] at p; exact p.elim
/-- [c] * n -/
def repOk (n : Nat) (k : Int) : Bool := decide (-(2 ^ 63) ≤ k) && (decide (k < 2 ^ 63) && decide (n * k.toNat ≤ big))
def repEnd (J : Jr) : HV → Option D → R HV
  | .new ds, some (.int k) => if repOk ds.length k = true then .ok (.new (List.replicate k.toNat ds).flatten) J else .stuck
  | _, _ => .stuck
def eRep (f g : EF) : EF := fun env J => (f env J).bind fun h1 J1 => (g env J1).bind fun h2 J2 => repEnd J2 h1 (deref J2 h2)
theorem reps_rep {K : PySem.W.Frag} {H : Hp} {Y : Addr → Prop} {ds : List D} {vs : List V} (r : Reps K H Y ds vs) : ∀ n : Nat, Reps K H Y (List.replicate n ds).flatten (List.replicate n vs).flatten
  | 0 => reps_nil.mpr rfl
  | n + 1 => by
    rw [List.replicate_succ, List.replicate_succ, List.flatten_cons, List.flatten_cons]
    exact reps_append r (reps_rep r n)
theorem pn_rep {a b : Expr} {g : EF} (ha : PE X a (tN X.K W f)) (hb : PE X b (tD X.K W g)) : PE X (.BinOp a .Mult b pos) (tN X.K W (eRep f g)) := pe_mono (pe_op op_rep ha hb) fun σ H Q ⟨Xo, js, env, J, F, p⟩ => by
  refine ⟨Xo, js, env, J, F, ?_⟩
  unfold eRep at p
  cases hf : f env J with
  | stuck => rw [hf] at p; exact p.elim
  | err c fs J1 => rw [hf] at p; exact p
  | ok h1 J1 =>
    rw [hf] at p
    intro x H1 e1 o1
    have p : PostN X.K W Xo js H σ env Q ((g env J1).bind fun h2 J2 => repEnd J2 h1 (deref J2 h2)) := p
    obtain ⟨F1, x1⟩ := outN_norm F.out o1
    cases h1 with
    | val d => 
      refine ⟨Xo, js, env, J1, F1, ?_⟩
      cases hg : g env J1 with
      | stuck => rw [hg] at p; exact p.elim
      | err c fs J2 => rw [hg] at p; exact p.later e1
      | ok h2 J2 => rw [hg] at p; exact p.elim
    | jar d => 
      refine ⟨Xo, js, env, J1, F1, ?_⟩
      cases hg : g env J1 with
      | stuck => rw [hg] at p; exact p.elim
      | err c fs J2 => rw [hg] at p; exact p.later e1
      | ok h2 J2 => rw [hg] at p; exact p.elim
    | new ds =>
      obtain ⟨q, vs, rfl, hq0, hq, G1, r1⟩ := o1
      have nq : q ∉ js := fun z => G1.jx q z (.inr rfl)
      refine ⟨Xo, js, env, J1, F1, ?_⟩
      cases hg : g env J1 with
      | stuck => rw [hg] at p; exact p.elim
      | err c fs J2 => rw [hg] at p; exact p.later e1
      | ok h2 J2 =>
        rw [hg] at p
        intro y H2 e2 F2 y2
        have p : PostN X.K W Xo js H σ env Q (repEnd J2 (.new ds) (deref J2 h2)) := p
        cases hd : deref J2 h2 with
        | none => rw [hd] at p; exact p.elim
        | some d =>
          rw [hd] at p
          cases d with
          | int k =>
            have p : PostN X.K W Xo js H σ env Q (if repOk ds.length k = true then .ok (.new (List.replicate k.toNat ds).flatten) J2 else .stuck) := p
            split at p
            · rename_i hb
              unfold repOk at hb
              rw [Bool.and_eq_true, Bool.and_eq_true] at hb
              have r2 : Reps X.K H1 (Yf Xo js) ds vs := reps_move (fun _ _ e _ => e) (fun a y => .inl (y.elim (fun y => .inl (.inl y)) .inr)) G1.lists _ _ r1
              refine ⟨q, k, vs, rfl, top_int (deref_top F2 y2 hd), e2 _ _ hq nq, of_decide_eq_true hb.1, of_decide_eq_true hb.2.1, by rw [big_eq, reps_len r1]; exact of_decide_eq_true hb.2.2, fun u hu => ?_⟩
              obtain ⟨e3, o⟩ := pure_out F2 (e1.trans e2) (po_newl F2.lists hu (reps_rep (r2.ext F1 e2) k.toNat))
              exact p _ _ e3 o
            · exact p.elim
          | _ => exact p.elim
end

/-! ### slices -/
def partV : Option EF → En → Jr → R (Option Int)
  | none, _, J => .ok none J
  | some f, env, J => (f env J).bind fun h J1 => match h with
    | .val (.int i) => .ok (some i) J1
    | _ => .stuck
def cutD (ds : List D) (lo hi : Option Int) : List D := (ds.drop (HT.sIx ds.length 0 lo)).take (HT.sIx ds.length ds.length hi - HT.sIx ds.length 0 lo)
def dSl : D → Option Int → Option Int → Option HV
  | .lst ds, lo, hi => some (.new (cutD ds lo hi))
  | .tup ds, lo, hi => some (.val (.tup (cutD ds lo hi)))
  | .str z, lo, hi => if z.length ≤ big then some (.val (.str (cutS z lo hi))) else none
  | _, _, _ => none
def eSl (f : EF) (lo hi : Option EF) : EF := fun env J => (f env J).bind fun h J1 => (partV lo env J1).bind fun l J2 => (partV hi env J2).bind fun u J3 => match deref J3 h with
  | some d => give J3 (dSl d l u)
  | none => .stuck
def PostO (K : PySem.W.Frag) (W : WX) (Xo : Addr → Prop) (js : List Addr) (H : Hp) (σ : L2.St) (env : En) (Q : Option Int → Hp → Prop) : R (Option Int) → Prop
  | .ok i J => ∀ H', Ext js H H' → Fit K Xo js H' σ env J → Q i H'
  | .err c fs J => Flies K W Xo js H σ env c fs J
  | .stuck => False
def tO (K : PySem.W.Frag) (W : WX) (f : Option EF) : TO := fun σ H Q => ∃ Xo js env J, Fit K Xo js H σ env J ∧ PostO K W Xo js H σ env Q (partV f env J)
section
variable {X : Cx} {W : WX} {e : Expr} {lo hi : Option Expr} {f : EF} {fl fh : Option EF} {pos p2 : Pos}
theorem po_mono {e : Option Expr} {t t' : TO} (h : PO X e t) (m : ∀ σ H Q, t' σ H Q → t σ H Q) : PO X e t' := ⟨fun pins s σ H Q I w => h.run pins s σ H Q I (m σ H Q w)⟩
theorem po_noneD : PO X none (tO X.K W none) := po_mono po_none fun σ H Q ⟨Xo, js, env, J, F, p⟩ => p H .refl F
theorem po_someD (h : PE X e (tD X.K W f)) : PO X (some e) (tO X.K W (some f)) := po_mono (po_some h) fun σ H Q ⟨Xo, js, env, J, F, p⟩ => by
  refine ⟨Xo, js, env, J, F, ?_⟩
  unfold partV at p
  dsimp only at p
  cases hf : f env J with
  | stuck => rw [hf] at p; exact p.elim
  | err c fs J1 => rw [hf] at p; exact p
  | ok h J1 =>
    rw [hf] at p
    intro v H' e1 G x
    cases h with
    | jar k => exact p.elim
    | new ds => exact p.elim
    | val d =>
      cases d with
      | int i => exact ⟨i, rep_int (K := X.K) (H := H') (Y := Yf Xo js) x, p H' e1 G⟩
      | _ => exact p.elim
def rSlAny (K : PySem.W.Frag) : V → Option Int → Option Int → Hp → VK → Prop := fun x lo hi H Q => rSlL K x lo hi H Q ∨ (rSlA K x lo hi H Q ∨ rSlS x lo hi H Q)
theorem sl_any : SlR X (rSlAny X.K) := sl_list.or (sl_tupA.or sl_str)
theorem cutD_all {ds : List D} {lo hi : Option Int} (h : HT.sIx ds.length 0 lo = 0 ∧ HT.sIx ds.length ds.length hi = ds.length) : cutD ds lo hi = ds := by
  unfold cutD
  rw [h.1, h.2, List.drop_zero, Nat.sub_zero, List.take_length]
theorem sem_sl {K : PySem.W.Frag} {H : Hp} {Y : Addr → Prop} {x : V} {d : D} {z : HV} {Q : VK} {l u : Option Int} (hl : Lists H Y) (hx : RepTop K H Y d x) (hz : dSl d l u = some z) (q : ∀ v H', PureOut K Y H H' z v → Q v H') : rSlAny K x l u H Q := by
  cases d with
  | lst ds =>
    obtain ⟨a, vs, rfl, s, r⟩ := hx
    cases hz
    refine .inl ⟨a, vs, rfl, s, fun p hp => ?_⟩
    have := po_newl hl hp (reps_take (HT.sIx vs.length vs.length u - HT.sIx vs.length 0 l) (reps_drop (HT.sIx vs.length 0 l) r))
    refine q _ _ ?_
    unfold cutD cutV
    rw [reps_len r] at this
    rw [reps_len r]
    exact this
  | tup ds =>
    obtain ⟨a, vs, rfl, s, r⟩ := top_tup hx
    cases hz
    refine .inr (.inl ⟨a, vs, rfl, s, fun h => ?_, fun _ p hp => ?_⟩)
    · rw [reps_len r] at h
      refine q _ _ ?_
      rw [cutD_all h]
      exact po_val (rep_tup.mpr ⟨a, vs, rfl, s, r⟩)
    · have := po_newt hl hp (reps_take (HT.sIx vs.length vs.length u - HT.sIx vs.length 0 l) (reps_drop (HT.sIx vs.length 0 l) r))
      refine q _ _ ?_
      unfold cutD cutV
      rw [reps_len r] at this
      rw [reps_len r]
      exact this
  | str zz =>
    have hz : (if zz.length ≤ big then some (HV.val (.str (cutS zz l u))) else none) = some z := hz
    by_cases hb : zz.length ≤ big
    · rw [if_pos hb] at hz
      cases hz
      exact .inr (.inr ⟨zz, top_str hx, by rw [big_eq]; exact hb, q _ _ (po_val mk_str)⟩)
    · rw [if_neg hb] at hz; cases hz
  | non => cases hz
  | bl b => cases hz
  | int b => cases hz
theorem pn_slice (he : PE X e (tD X.K W f)) (hl : PO X lo (tO X.K W fl)) (hu : PO X hi (tO X.K W fh)) : PE X (.Subscript e (.Slice lo hi none p2) pos) (tN X.K W (eSl f fl fh)) := pe_mono (pe_slice sl_any he hl hu) fun σ H Q ⟨Xo, js, env, J, F, p⟩ => by
  refine ⟨Xo, js, env, J, F, ?_⟩
  unfold eSl at p
  cases hf : f env J with
  | stuck => rw [hf] at p; exact p.elim
  | err c fs J1 => rw [hf] at p; exact p
  | ok h J1 =>
    rw [hf] at p
    intro x H1 e1 F1 x1
    refine ⟨Xo, js, env, J1, F1, ?_⟩
    have p : PostN X.K W Xo js H σ env Q ((partV fl env J1).bind fun l J2 => (partV fh env J2).bind fun u J3 => match deref J3 h with
      | some d => give J3 (dSl d l u)
      | none => .stuck) := p
    cases hl : partV fl env J1 with
    | stuck => rw [hl] at p; exact p.elim
    | err c fs J2 => rw [hl] at p; exact p.later e1
    | ok l J2 =>
      rw [hl] at p
      intro H2 e2 F2
      refine ⟨Xo, js, env, J2, F2, ?_⟩
      have p : PostN X.K W Xo js H σ env Q ((partV fh env J2).bind fun u J3 => match deref J3 h with
        | some d => give J3 (dSl d l u)
        | none => .stuck) := p
      cases hu : partV fh env J2 with
      | stuck => rw [hu] at p; exact p.elim
      | err c fs J3 => rw [hu] at p; exact p.later (e1.trans e2)
      | ok u J3 =>
        rw [hu] at p
        intro H3 e3 F3
        have p : PostN X.K W Xo js H σ env Q (match deref J3 h with
          | some d => give J3 (dSl d l u)
          | none => .stuck) := p
        cases hd : deref J3 h with
        | none => rw [hd] at p; exact p.elim
        | some d =>
          rw [hd] at p
          have p : PostN X.K W Xo js H σ env Q (give J3 (dSl d l u)) := p
          cases hz : dSl d l u with
          | none => rw [hz] at p; exact p.elim
          | some z =>
            rw [hz] at p
            refine sem_sl F3.lists (deref_top F3 ((x1.ext F1 e2).ext F2 e3) hd) hz fun v H' o => ?_
            obtain ⟨e4, o2⟩ := pure_out F3 ((e1.trans e2).trans e3) o
            exact p v H' e4 o2
end

/-! ### calls -/
abbrev FT := List HV → Jr → R HV
def HReps (K : PySem.W.Frag) (H : Hp) (Y : Addr → Prop) (js : List Addr) : List HV → List V → Prop
  | [], vs => vs = []
  | h :: hs, vs => ∃ v r, vs = v :: r ∧ HRep K H Y js h v ∧ HReps K H Y js hs r
def eArgs : List EF → En → Jr → R (List HV)
  | [], _, J => .ok [] J
  | f :: fs, env, J => (f env J).bind fun h J1 => (eArgs fs env J1).bind fun hs J2 => .ok (norm h :: hs) J2
def eCall (F : FT) (fs : List EF) : EF := fun env J => (eArgs fs env J).bind fun hs J1 => F hs J1
def PostH (K : PySem.W.Frag) (W : WX) (Xo : Addr → Prop) (js : List Addr) (H : Hp) (σ : L2.St) (env : En) (Q : List V → Hp → Prop) : R (List HV) → Prop
  | .ok hs J => ∀ vs H', Ext js H H' → Fit K Xo js H' σ env J → HReps K H' (Yf Xo js) js hs vs → Q vs H'
  | .err c fs J => Flies K W Xo js H σ env c fs J
  | .stuck => False
def tH (K : PySem.W.Frag) (W : WX) (fs : List EF) : TA := fun σ H Q => ∃ Xo js env J, Fit K Xo js H σ env J ∧ PostH K W Xo js H σ env Q (eArgs fs env J)
/-- a call's end -/
def PostC (K : PySem.W.Frag) (Xo : Addr → Prop) (js : List Addr) (H : Hp) (Q : VK) (E : XK) : R HV → Prop
  | .ok h J => ∀ v H', Ext js H H' → OutN K Xo js H H' [] [] J h v → Q v H'
  | .err c fs J => ∀ cls od H', ExcAt K Xo js c fs cls od H' → Ext js H H' → Fit K Xo js H' [] [] J → E cls od H'
  | .stuck => False
/-- the promise of a def: it is F -/
def spF (K : PySem.W.Frag) (n : Nat) (F : FT) : Sp := fun vs H Q E => ∃ Xo js J hs, Fit K Xo js H [] [] J ∧ hs.length = n ∧ HReps K H (Yf Xo js) js hs vs ∧ PostC K Xo js H Q E (F hs J)
section
variable {X : Cx} {W : WX} {e : Expr} {es : List Expr} {f : EF} {fs : List EF} {pos : Pos} {K : PySem.W.Frag} {Xo : Addr → Prop} {js : List Addr} {H H' : Hp} {σ : L2.St} {env : En} {J J' : Jr}
theorem hreps_len {Y : Addr → Prop} : ∀ {hs : List HV} {vs : List V}, HReps K H Y js hs vs → vs.length = hs.length
  | [], vs, h => by unfold HReps at h; rw [h]; rfl
  | d :: ds, vs, h => by
    unfold HReps at h
    obtain ⟨v, r, e, _, h2⟩ := h
    rw [e, List.length_cons, List.length_cons, hreps_len h2]
theorem spF_len {n : Nat} {F : FT} (vs : List V) (H : Hp) (Q : VK) (E : XK) (h : spF K n F vs H Q E) : vs.length = n := by
  obtain ⟨Xo, js, J, hs, _, hl, hr, _⟩ := h
  rw [hreps_len hr, hl]
theorem eArgs_len : ∀ {fs : List EF} {env : En} {J J' : Jr} {hs : List HV}, eArgs fs env J = .ok hs J' → hs.length = fs.length
  | [], env, J, J', hs, h => by cases h; rfl
  | f :: fs, env, J, J', hs, h => by
    unfold eArgs at h
    cases hf : f env J with
    | stuck => rw [hf] at h; cases h
    | err c fs J1 => rw [hf] at h; cases h
    | ok z J1 =>
      rw [hf] at h
      have h : ((eArgs fs env J1).bind fun hs J2 => R.ok (norm z :: hs) J2) = .ok hs J' := h
      cases hg : eArgs fs env J1 with
      | stuck => rw [hg] at h; cases h
      | err c fs J1 => rw [hg] at h; cases h
      | ok zs J2 =>
        rw [hg] at h
        cases h
        rw [List.length_cons, List.length_cons, eArgs_len hg]
theorem Fit.bare (F : Fit K Xo js H σ env J) : Fit K Xo js H [] [] J := ⟨F.out, F.nd, F.jx, F.len, rfl, F.jar, fun i h e => by simp at e⟩
/-- behind a call: the slots as they were -/
theorem Fit.renew (F : Fit K Xo js H σ env J) (e : Ext js H H') {Xo' : Addr → Prop} (hX : ∀ a, Xo' a → Xo a ∨ H a = none) (G : Fit K Xo' js H' [] [] J') : Fit K Xo' js H' σ env J' :=
  ⟨G.out, G.nd, G.jx, G.len, F.slen, G.jar, fun i h q => by
    obtain ⟨v, h1, h2⟩ := F.slot i h q
    exact ⟨v, h1, h2.move (fun a o q n => e a o q fun z => n (.inr z)) (fun a y => y.elim (fun y => (hX a y).elim (fun z => .inl (.inl z)) .inr) fun y => .inl (.inr y)) F.lists⟩⟩
theorem ph_nil : PA X [] (tH X.K W []) := pa_mono pa_nil fun σ H Q ⟨Xo, js, env, J, F, p⟩ => p [] H .refl F rfl
theorem ph_cons (ha : PE X e (tD X.K W f)) (hb : PA X es (tH X.K W fs)) (hs : starEach (e :: es) X.env = (false, eval e X.env) :: starEach es X.env) : PA X (e :: es) (tH X.K W (f :: fs)) :=
  pa_mono (pa_cons ha hb hs) fun σ H Q ⟨Xo, js, env, J, F, p⟩ => by
    refine ⟨Xo, js, env, J, F, ?_⟩
    unfold eArgs at p
    cases hf : f env J with
    | stuck => rw [hf] at p; exact p.elim
    | err c fs J1 => rw [hf] at p; exact p
    | ok h J1 =>
      rw [hf] at p
      intro x H1 e1 F1 x1
      refine ⟨Xo, js, env, J1, F1, ?_⟩
      have p : PostH X.K W Xo js H σ env Q ((eArgs fs env J1).bind fun hs J2 => .ok (norm h :: hs) J2) := p
      cases hg : eArgs fs env J1 with
      | stuck => rw [hg] at p; exact p.elim
      | err c fs J2 => rw [hg] at p; exact p.later e1
      | ok ds J2 =>
        rw [hg] at p
        intro vs H2 e2 F2 r2
        exact p (x :: vs) H2 (e1.trans e2) F2 ⟨x, vs, rfl, x1.ext F1 e2, r2⟩
theorem call_read {n : Nat} {F : FT} {t : TA} (hn : fs.length = n) (m : ∀ σ H Q, tH X.K W fs σ H Q → t σ H Q) {σ : L2.St} {H : Hp} {Q : VK} {E : XK} (hE : ∀ cls od H, W cls od σ H → E cls od H) (w : tN X.K W (eCall F fs) σ H Q) : t σ H fun vs H1 => spF X.K n F vs H1 Q E := by
  obtain ⟨Xo, js, env, J, Fi, p⟩ := w
  refine m _ _ _ ⟨Xo, js, env, J, Fi, ?_⟩
  unfold eCall at p
  cases hf : eArgs fs env J with
  | stuck => rw [hf] at p; exact p.elim
  | err c fs J1 => rw [hf] at p; exact p
  | ok hs J1 =>
    rw [hf] at p
    intro vs H1 e1 F1 r1
    refine ⟨Xo, js, J1, hs, F1.bare, (eArgs_len hf).trans hn, r1, ?_⟩
    have p : PostN X.K W Xo js H σ env Q (F hs J1) := p
    cases hr : F hs J1 with
    | stuck => rw [hr] at p; exact p.elim
    | err c fs J2 => rw [hr] at p; exact fun cls od H2 x e2 G => hE _ _ _ (p cls od H2 x (e1.trans e2) (F1.renew e2 (fun _ h => .inl h) G))
    | ok h J2 =>
      rw [hr] at p
      intro v H2 e2 o
      refine p v H2 (e1.trans e2) ?_
      cases h with
      | val d => exact ⟨F1.renew e2 (fun _ h => .inl h) o.1, o.2⟩
      | jar k => exact ⟨F1.renew e2 (fun _ h => .inl h) o.1, o.2⟩
      | new ds =>
        obtain ⟨q, us, a1, a2, a3, a4, a5⟩ := o
        exact ⟨q, us, a1, none_back e1 F1.lists a2, a3, F1.renew e2 (fun a h => h.elim .inl fun z => .inr (z ▸ a2)) a4, a5⟩
variable {k : Nat} {g : Addr} {fd : FuncData} {ps : List Str} {x : Str} {p : Pos} {F : FT}
/-- f(e, ..), f a def of the text -/
theorem pn_call (G : FnOk X.prog X.w X.K X.mg X.base (L2.CX X.prog X.w) k g fd ps (spF X.K ps.length F)) (tk : Takes X W) (hr : Room k X.A) (hg : Gl X x) (hm : X.mg x = some (.ref g)) (hk : PySem.W.keepIn X.K (.ref g) = true) (hb : Binds X.K fd ps [])
    (ha : PA X (e :: es) (tH X.K W fs)) (hn : fs.length = ps.length) (hdb : (x == ("__debug__" : Str)) = false) (he : starEach (e :: es) X.env = (false, eval e X.env) :: starEach es X.env) (hpl : (backTo pos (starEach es X.env)).any (·.1) = false) :
    PE X (.Call (.Name x p) (e :: es) [] pos) (tN X.K W (eCall F fs)) :=
  pe_mono (pe_callS G hr hg hm hk hb (fun σ => passAt tk σ) ha hdb he hpl) fun σ H Q w => call_read hn (fun _ _ _ z => z) (fun _ _ _ z => z) w
/-- within a comprehension: nothing is let out -/
abbrev W0 : WX := fun _ _ _ _ => False
theorem pn_call0 (G : FnOk X.prog X.w X.K X.mg X.base (L2.CX X.prog X.w) k g fd ps (spF X.K ps.length F)) (hr : Room k X.A) (hg : Gl X x) (hm : X.mg x = some (.ref g)) (hk : PySem.W.keepIn X.K (.ref g) = true) (hb : Binds X.K fd ps [])
    (ha : PA X (e :: es) (tH X.K W0 fs)) (hn : fs.length = ps.length) (hdb : (x == ("__debug__" : Str)) = false) (he : starEach (e :: es) X.env = (false, eval e X.env) :: starEach es X.env) (hpl : (backTo pos (starEach es X.env)).any (·.1) = false) :
    PE X (.Call (.Name x p) (e :: es) [] pos) (tN X.K W0 (eCall F fs)) :=
  pe_mono (pe_call G hr hg hm hk hb .nil passL ha hdb he hpl) fun σ H Q w => by
    have := call_read (X := X) (W := W0) (t := tH X.K W0 fs) (E := E0) hn (fun _ _ _ z => z) (fun _ _ _ z => z) w
    unfold tCall
    simp only [List.append_nil]
    exact this
end
end L2.Pz
set_option Elab.async false
set_option linter.all false
set_option maxRecDepth 100000
set_option maxHeartbeats 4000000
set_option autoImplicit false
namespace L2.Pz
open PySem PySem.Spec PyProof.Rows

/-! ### what is walked -/
abbrev IF := En → Jr → R (List D)
def Keeps (Y : Addr → Prop) (H0 H : Hp) : Prop := ∀ a o, H0 a = some o → ¬ Y a → H a = some o
structure WalkD (K : PySem.W.Frag) (Y : Addr → Prop) (H0 : Hp) (J : It) (ds : List D) : Prop where
  ex : ∃ (G : Hp → Prop) (Yl : Nat → Hp → V → Hp → Prop), Walk J ds.length G Yl ∧ (∀ H, Keeps Y H0 H → G H) ∧
    ∀ Y' : Addr → Prop, (∀ a, Y' a → Y a ∨ H0 a = none) → ∀ i H x H', i < ds.length → Keeps Y H0 H → Lists H Y' → Yl i H x H' → Same H H' ∧ ∃ d, ds[i]? = some d ∧ Rep K H' Y' d x
def chars (z : Str) : List D := z.cps.toList.map fun c => .str ⟨#[c]⟩
def itemsOf : HV → Option (List D)
  | .val (.lst ds) => some ds
  | .val (.tup ds) => some ds
  | .new ds => some ds
  | .val (.str z) => some (chars z)
  | _ => none
def iAny (f : EF) : IF := fun env J => (f env J).bind fun h J1 => match itemsOf h with
  | some ds => .ok ds J1
  | none => .stuck
def rgD (lo : Int) (n : Nat) : List D := (List.range n).map fun i => .int (lo + (i : Nat))
def rgOk (i : Int) : Bool := decide (-(2 ^ 62) ≤ i) && decide (i < 2 ^ 62)
def iRange1 (f : EF) : IF := fun env J => (f env J).bind fun h J1 => match h with
  | .val (.int n) => if rgOk n = true then .ok (rgD 0 n.toNat) J1 else .stuck
  | _ => .stuck
def rg2End (J : Jr) : HV → HV → R (List D)
  | .val (.int m), .val (.int n) => if (rgOk m && rgOk n) = true then .ok (rgD m (n - m).toNat) J else .stuck
  | _, _ => .stuck
def iRange2 (f g : EF) : IF := fun env J => (f env J).bind fun h J1 => (g env J1).bind fun h2 J2 => rg2End J2 h h2
def PostW (K : PySem.W.Frag) (W : WX) (Xo : Addr → Prop) (js : List Addr) (H : Hp) (σ : L2.St) (env : En) (Q : It → Hp → Prop) : R (List D) → Prop
  | .ok ds J => ∀ I H', Ext js H H' → Fit K Xo js H' σ env J → WalkD K (Yf Xo js) H' I ds → Q I H'
  | .err c fs J => Flies K W Xo js H σ env c fs J
  | .stuck => False
def tW (K : PySem.W.Frag) (W : WX) (f : IF) : TI := fun σ H Q => ∃ Xo js env J, Fit K Xo js H σ env J ∧ PostW K W Xo js H σ env Q (f env J)
theorem pi_mono {X : Cx} {tg e : Expr} {t t' : TI} (h : PI X tg e t) (m : ∀ σ H Q, t' σ H Q → t σ H Q) : PI X tg e t' := ⟨fun pins s σ H Q I w => h.run pins s σ H Q I (m σ H Q w)⟩
section
variable {X : Cx} {tg e : Expr} {te : TE}
def iAnyT (K : PySem.W.Frag) (tl : TE) : TI := fun σ H R => tl σ H fun x H1 => (∃ a, x = .ref a ∧ (∃ xs, SqL K H1 a xs) ∧ R (Itl K a) H1) ∨ (∃ a, x = .ref a ∧ (∃ xs, SqT K H1 a xs) ∧ R (Itt K a) H1) ∨ ∃ z, x = .str z ∧ R (Its z) H1
theorem pi_anyT (hl : PE X e te) : PI X tg e (iAnyT X.K te) := by
  refine ⟨fun pins s σ H R I h => ?_⟩
  refine thn (hl.run pins s σ H _ I h) fun v s1 ⟨x, H1, I1, r1, q1⟩ => ?_
  rcases q1 with ⟨a, e, ⟨xs, hq⟩, q⟩ | ⟨a, e, ⟨xs, hq⟩, q⟩ | ⟨z, e, q⟩
  · subst e
    cases r1
    obtain ⟨its, rv, p, hz⟩ := I1.list hq
    refine wpAny_pyIter_list p.isList ?_
    exact pi_one (tk := s1.toks) I1 _ (turn_list a _) ⟨_, Heap.get?_push_size _ rfl, rfl, rfl⟩ q
  · subst e
    cases r1
    obtain ⟨its, rv, p, hz⟩ := I1.tuple hq
    refine wpAny_pyIter_tuple (show s1.heap.IsTuple a its.toArray from p) ?_
    exact pi_one (tk := s1.toks) I1 _ (turn_tuple a _) ⟨_, Heap.get?_push_size _ rfl, rfl, rfl⟩ q
  · subst e
    obtain ⟨t, rfl⟩ := r1
    cases ha : z.cps.all (· < 128)
    · exact wpAny_pyIter_wide ha (pi_one (tk := s1.toks) I1 _ (turn_str _ z t "str_iterator" (.inr rfl)) ⟨_, Heap.get?_push_size _ rfl, rfl, rfl⟩ q)
    · exact wpAny_pyIter_ascii ha (pi_one (tk := s1.toks) I1 _ (turn_str _ z t "str_ascii_iterator" (.inl rfl)) ⟨_, Heap.get?_push_size _ rfl, rfl, rfl⟩ q)
end
section
variable {K : PySem.W.Frag} {H : Hp} {Y : Addr → Prop}
theorem walkD_list {a : Addr} {vs : List V} {ds : List D} (hl : Lists H Y) (s : LsY K H Y a vs) (r : Reps K H Y ds vs) : WalkD K Y H (Itl K a) ds := by
  have w := walk_list (K := K) (a := a) (xs := vs)
  rw [reps_len r] at w
  refine ⟨_, _, w, fun H1 k => (lsY_move (Y' := Y) k (fun _ y => .inl y) s).sq, fun Y' hY i H1 x H' hi k _ y => ?_⟩
  obtain ⟨e, y⟩ := y
  subst e
  obtain ⟨d, h1, h2⟩ := reps_at r y
  exact ⟨Same.refl _, d, h1, rep_move k hY hl _ _ h2⟩
theorem walkD_tup {a : Addr} {vs : List V} {ds : List D} (hl : Lists H Y) (s : SqT K H a vs) (r : Reps K H Y ds vs) : WalkD K Y H (Itt K a) ds := by
  have w := walk_tup (K := K) (a := a) (xs := vs)
  rw [reps_len r] at w
  refine ⟨_, _, w, fun H1 k => sqT_move k hl s, fun Y' hY i H1 x H' hi k _ y => ?_⟩
  obtain ⟨e, y⟩ := y
  subst e
  obtain ⟨d, h1, h2⟩ := reps_at r y
  exact ⟨Same.refl _, d, h1, rep_move k hY hl _ _ h2⟩
theorem walkD_str {z : Str} : WalkD K Y H (Its z) (chars z) := by
  have w := walk_str (z := z)
  have e : z.cps.size = (chars z).length := by unfold chars; simp
  rw [e] at w
  refine ⟨_, _, w, fun _ _ => trivial, fun Y' hY i H1 x H' hi k _ y => ?_⟩
  obtain ⟨e, c, hc, hx⟩ := y
  subst e
  refine ⟨Same.refl _, .str ⟨#[c]⟩, ?_, by rw [hx]; exact mk_str⟩
  unfold chars
  rw [List.getElem?_map]
  simp [hc]
theorem walkD_range {lo : Int} {n : Nat} : WalkD K Y H (Itr lo n) (rgD lo n) := by
  have w := walk_range (lo := lo) (n := n)
  have e : n = (rgD lo n).length := by unfold rgD; simp
  refine ⟨fun _ => True, YFn fun i => .int (lo + i), ?_, fun _ _ => trivial, fun Y' hY i H1 x H' hi k _ y => ?_⟩
  · have : Walk (Itr lo n) n (fun _ => True) (YFn fun i => .int (lo + i)) := w
    exact e ▸ this
  · obtain ⟨e2, hx⟩ := y
    subst e2
    rw [← e] at hi
    refine ⟨Same.refl _, .int (lo + i), ?_, by rw [hx]; exact mk_int⟩
    unfold rgD
    rw [List.getElem?_map, List.getElem?_range hi]
    rfl
end
section
variable {X : Cx} {W : WX} {tg e a b : Expr} {f g : EF} {p pos : Pos}
theorem pw_any (he : PE X e (tD X.K W f)) : PI X tg e (tW X.K W (iAny f)) := pi_mono (pi_anyT he) fun σ H Q ⟨Xo, js, env, J, F, p⟩ => by
  refine ⟨Xo, js, env, J, F, ?_⟩
  unfold iAny at p
  cases hf : f env J with
  | stuck => rw [hf] at p; exact p.elim
  | err c fs J1 => rw [hf] at p; exact p
  | ok h J1 =>
    rw [hf] at p
    intro x H1 e1 F1 x1
    have p : PostW X.K W Xo js H σ env Q (match itemsOf h with
      | some ds => .ok ds J1
      | none => .stuck) := p
    have lst : ∀ ds, norm h = .val (.lst ds) → itemsOf h = some ds → (∃ a, x = .ref a ∧ (∃ xs, SqL X.K H1 a xs) ∧ Q (Itl X.K a) H1) := fun ds hn hi => by
      rw [hi] at p
      rw [hn] at x1
      obtain ⟨a, vs, e, s, r⟩ := rep_lst (K := X.K) (H := H1) (Y := Yf Xo js).mp x1
      exact ⟨a, e, ⟨vs, s.sq⟩, p _ _ e1 F1 (walkD_list F1.lists s r)⟩
    cases h with
    | jar k => exact p.elim
    | new ds => exact .inl (lst ds rfl rfl)
    | val d =>
      cases d with
      | lst ds => exact .inl (lst ds rfl rfl)
      | tup ds =>
        obtain ⟨a, vs, e, s, r⟩ := rep_tup (K := X.K) (H := H1) (Y := Yf Xo js).mp x1
        exact .inr (.inl ⟨a, e, ⟨vs, s⟩, p _ _ e1 F1 (walkD_tup F1.lists s r)⟩)
      | str z => exact .inr (.inr ⟨z, rep_str (K := X.K) (H := H1) (Y := Yf Xo js) x1, p _ _ e1 F1 walkD_str⟩)
      | non => exact p.elim
      | bl b => exact p.elim
      | int b => exact p.elim
theorem pw_range1 (hg : Gl X "range") (hm : X.mg "range" = none) (he : PE X a (tD X.K W f)) (h1 : starEach [a] X.env = (false, eval a X.env) :: starEach [] X.env) (hs : starEach [a] X.env = [(false, eval a X.env)]) : PI X tg (.Call (.Name "range" p) [a] [] pos) (tW X.K W (iRange1 f)) :=
  pi_mono (pi_range1 hg hm (pa_cons he pa_nil h1) hs) fun σ H Q ⟨Xo, js, env, J, F, p⟩ => by
    show tD X.K W f σ H fun x H1 => tNil σ H1 fun xs H2 => _
    refine ⟨Xo, js, env, J, F, ?_⟩
    unfold iRange1 at p
    cases hf : f env J with
    | stuck => rw [hf] at p; exact p.elim
    | err c fs J1 => rw [hf] at p; exact p
    | ok h J1 =>
      rw [hf] at p
      intro x H1 e1 F1 x1
      cases h with
      | jar k => exact p.elim
      | new ds => exact p.elim
      | val d =>
        cases d with
        | int n =>
          have p : PostW X.K W Xo js H σ env Q (if rgOk n = true then .ok (rgD 0 n.toNat) J1 else .stuck) := p
          split at p
          · rename_i h
            unfold rgOk at h
            rw [Bool.and_eq_true] at h
            refine ⟨n, by rw [rep_int (K := X.K) (H := H1) (Y := Yf Xo js) x1], of_decide_eq_true h.1, of_decide_eq_true h.2, p _ _ e1 F1 walkD_range⟩
          · exact p.elim
        | _ => exact p.elim
theorem pw_range2 (hg : Gl X "range") (hm : X.mg "range" = none) (ha : PE X a (tD X.K W f)) (hb : PE X b (tD X.K W g)) (h1 : starEach [a, b] X.env = (false, eval a X.env) :: starEach [b] X.env) (h2 : starEach [b] X.env = (false, eval b X.env) :: starEach [] X.env)
    (hs : starEach [a, b] X.env = [(false, eval a X.env), (false, eval b X.env)]) (hs2 : starEach [b] X.env = [(false, eval b X.env)]) : PI X tg (.Call (.Name "range" p) [a, b] [] pos) (tW X.K W (iRange2 f g)) :=
  pi_mono (pi_range2 hg hm (pa_cons ha (pa_cons hb pa_nil h2) h1) hs hs2) fun σ H Q ⟨Xo, js, env, J, F, p⟩ => by
    show tD X.K W f σ H fun x H1 => tD X.K W g σ H1 fun y H2 => _
    refine ⟨Xo, js, env, J, F, ?_⟩
    unfold iRange2 at p
    cases hf : f env J with
    | stuck => rw [hf] at p; exact p.elim
    | err c fs J1 => rw [hf] at p; exact p
    | ok h J1 =>
      rw [hf] at p
      intro x H1 e1 F1 x1
      have p : PostW X.K W Xo js H σ env Q ((g env J1).bind fun h2 J2 => rg2End J2 h h2) := p
      refine ⟨Xo, js, env, J1, F1, ?_⟩
      cases hg : g env J1 with
      | stuck => rw [hg] at p; exact p.elim
      | err c fs J2 => rw [hg] at p; exact p.later e1
      | ok h2 J2 =>
        rw [hg] at p
        intro y H2 e2 F2 y2
        have x2 := x1.ext F1 e2
        cases h with
        | jar k => exact p.elim
        | new ds => exact p.elim
        | val d =>
          cases d with
          | int m =>
            cases h2 with
            | jar k => exact p.elim
            | new ds => exact p.elim
            | val d =>
              cases d with
              | int n =>
                have p : PostW X.K W Xo js H σ env Q (if (rgOk m && rgOk n) = true then .ok (rgD m (n - m).toNat) J2 else .stuck) := p
                split at p
                · rename_i h
                  unfold rgOk at h
                  rw [Bool.and_eq_true, Bool.and_eq_true, Bool.and_eq_true] at h
                  refine ⟨m, n, by rw [rep_int (K := X.K) (H := H2) (Y := Yf Xo js) x2, rep_int (K := X.K) (H := H2) (Y := Yf Xo js) y2], ⟨of_decide_eq_true h.1.1, of_decide_eq_true h.1.2, of_decide_eq_true h.2.1, of_decide_eq_true h.2.2⟩, p _ _ (e1.trans e2) F2 walkD_range⟩
                · exact p.elim
              | _ => exact p.elim
          | _ => exact p.elim
end

/-! ### targets -/
abbrev TF := D → En → Option En
def tgName (i : Nat) : TF := fun d env => some (env.set i (some (.val d)))
def tgs : List Nat → List D → En → Option En
  | [], [], env => some env
  | i :: is, d :: ds, env => tgs is ds (env.set i (some (.val d)))
  | _, _, _ => none
def tgTup (is : List Nat) : TF := fun d env => match d with
  | .tup ds => tgs is ds env
  | .lst ds => none
  | _ => none
/-- a target's reading: data of d come to slots -/
def TgOk (K : PySem.W.Frag) (g : TG) (t : TF) : Prop := ∀ (Xo : Addr → Prop) (js : List Addr) (H : Hp) (σ : L2.St) (env env' : En) (J : Jr) (d : D) (v : V) (Q : L2.St → Hp → Prop), Fit K Xo js H σ env J → Rep K H (Yf Xo js) d v → t d env = some env' →
  (∀ σ', Fit K Xo js H σ' env' J → Q σ' H) → g v σ H Q
section
variable {K : PySem.W.Frag} {Xo : Addr → Prop} {js : List Addr} {H H' : Hp} {σ : L2.St} {env : En} {J : Jr}
theorem Fit.set (F : Fit K Xo js H σ env J) (i : Nat) {h : HV} {v : V} (x : HRep K H (Yf Xo js) js h v) : Fit K Xo js H (σ.set i (some v)) (env.set i (some h)) J :=
  ⟨F.out, F.nd, F.jx, F.len, by rw [List.length_set, List.length_set]; exact F.slen, F.jar, fun j h' e => by
    by_cases hj : i = j
    · subst hj
      have hi : i < env.length := by
        have := (List.getElem?_eq_some_iff.mp e).1
        rw [List.length_set] at this
        exact this
      rw [List.getElem?_set_self hi] at e
      cases e
      exact ⟨v, List.getElem?_set_self (by rw [F.slen]; exact hi), x⟩
    · rw [List.getElem?_set_ne hj] at e
      obtain ⟨u, h1, h2⟩ := F.slot j h' e
      exact ⟨u, by rw [List.getElem?_set_ne hj]; exact h1, h2⟩⟩
theorem tgok_name {i : Nat} : TgOk K (gName i) (tgName i) := fun Xo js H σ env env' J d v Q F r e q => by
  cases e
  exact q _ (F.set i (h := .val d) r)
def TgsOk (K : PySem.W.Frag) (g : TGs) (is : List Nat) : Prop := ∀ (Xo : Addr → Prop) (js : List Addr) (H : Hp) (σ : L2.St) (env env' : En) (J : Jr) (ds : List D) (vs : List V) (Q : L2.St → Hp → Prop), Fit K Xo js H σ env J → Reps K H (Yf Xo js) ds vs → tgs is ds env = some env' →
  (∀ σ', Fit K Xo js H σ' env' J → Q σ' H) → g vs σ H Q
theorem tgsok_nil : TgsOk K gNil [] := fun Xo js H σ env env' J ds vs Q F r e q => by
  cases ds with
  | nil => cases e; exact ⟨reps_nil.mp r, q _ F⟩
  | cons d ds => cases e
theorem tgsok_cons {i : Nat} {is : List Nat} {u : TGs} (h : TgsOk K u is) : TgsOk K (gCons (gName i) u) (i :: is) := fun Xo js H σ env env' J ds vs Q F r e q => by
  cases ds with
  | nil => cases e
  | cons d ds =>
    obtain ⟨v, r', e1, h1, h2⟩ := reps_cons.mp r
    exact ⟨v, r', e1, h Xo js H _ _ _ J ds r' Q (F.set i (h := .val d) h1) h2 e q⟩
theorem tgs_len : ∀ {is : List Nat} {ds : List D} {env env' : En}, tgs is ds env = some env' → ds.length = is.length
  | [], [], _, _, _ => rfl
  | [], _ :: _, _, _, h => by cases h
  | _ :: _, [], _, _, h => by cases h
  | i :: is, d :: ds, env, env', h => by
    rw [List.length_cons, List.length_cons, tgs_len (is := is) (ds := ds) (env := env.set i (some (.val d))) h]
theorem tgok_tup {n : Nat} {is : List Nat} {u : TGs} (h : TgsOk K u is) (hn : is.length = n) : TgOk K (gTup K n u) (tgTup is) := fun Xo js H σ env env' J d v Q F r e q => by
  cases d with
  | tup ds =>
    obtain ⟨a, vs, e1, s, r1⟩ := rep_tup.mp r
    exact ⟨a, vs, e1, s, by rw [reps_len r1, ← hn]; exact tgs_len e, h Xo js H σ env env' J ds vs Q F r1 e q⟩
  | _ => cases e
end

/-! ### comprehensions -/
def wipeE (env : En) : List Nat → En
  | [] => env
  | v :: vs => (wipeE env vs).set v none
def lcLoop (t : TF) (c : BF) (f : EF) (env : En) : List D → List D → Jr → R HV
  | [], acc, J => .ok (.new acc) J
  | d :: ds, acc, J => match t d env with
    | none => .stuck
    | some env1 => (c env1 J).bind fun b J1 => if b = true then (f env1 J1).bind fun h J2 => match toVal h with
        | some y => if acc.length < big then lcLoop t c f env ds (acc ++ [y]) J2 else .stuck
        | none => .stuck
      else lcLoop t c f env ds acc J1
/-- nothing is let out of the loop's parts -/
def noErr {α : Type} : R α → R α
  | .err _ _ _ => .stuck
  | r => r
def bYes : BF := fun _ J => .ok true J
def eLc (it : IF) (t : TF) (c : BF) (f : EF) (own : List Nat) : EF := fun env J => (it env J).bind fun ds J1 => noErr (lcLoop t c f (wipeE env own) ds [] J1)
section
variable {K : PySem.W.Frag} {Xo : Addr → Prop} {js : List Addr} {H H' : Hp} {σ : L2.St} {env : En} {J : Jr}
theorem Fit.wipe (F : Fit K Xo js H σ env J) : ∀ vs : List Nat, Fit K Xo js H (L2.wipe σ vs) (wipeE env vs) J
  | [] => F
  | v :: vs => by
    have G := F.wipe vs
    refine ⟨G.out, G.nd, G.jx, G.len, by unfold L2.wipe wipeE; rw [List.length_set, List.length_set]; exact G.slen, G.jar, fun i h e => ?_⟩
    unfold wipeE at e
    by_cases hi : v = i
    · subst hi
      have hl : v < (wipeE env vs).length := by
        have := (List.getElem?_eq_some_iff.mp e).1
        rw [List.length_set] at this
        exact this
      rw [List.getElem?_set_self hl] at e
      cases e
    · rw [List.getElem?_set_ne hi] at e
      obtain ⟨u, h1, h2⟩ := G.slot i h e
      refine ⟨u, ?_, h2⟩
      unfold L2.wipe
      rw [List.getElem?_set_ne hi]
      exact h1
/-- the target's slots are the block's own -/
def TgIn (g : TG) (own : List Nat) : Prop := ∀ v (σ : L2.St) (H : Hp) (Q : L2.St → Hp → Prop), g v (L2.wipe σ own) H Q → g v (L2.wipe σ own) H fun σ2 H2 => L2.wipe σ2 own = L2.wipe σ own ∧ Q σ2 H2
end
section
variable {X : Cx} {tg e elt : Expr} {ifs : List Expr} {scope : Scope} {own : List (Str × Nat)} {pos : Pos} {g : TG} {t : TF} {it : IF} {c : BF} {f : EF} {W : WX}
theorem lc_read (htg : TgOk X.K g t) (hin : TgIn g (own.map (·.2))) {σ : L2.St} {H : Hp} {Q : VK} (w : tN X.K W (eLc it t c f (own.map (·.2))) σ H Q) : tLc (tW X.K W it) g (tT X.K W0 c) (tD X.K W0 f) (own.map (·.2)) σ H Q := by
  obtain ⟨Xo, js, env, J, F, p⟩ := w
  refine ⟨Xo, js, env, J, F, ?_⟩
  unfold eLc at p
  cases hi : it env J with
  | stuck => rw [hi] at p; exact p.elim
  | err c fs J1 => rw [hi] at p; exact p
  | ok ds J1 =>
    rw [hi] at p
    have p : PostN X.K W Xo js H σ env Q (noErr (lcLoop t c f (wipeE env (own.map (·.2))) ds [] J1)) := p
    intro I H1 e1 F1 wd D hD
    obtain ⟨G, Yl, wk, hG, hY⟩ := wd.ex
    -- the new list at D is locked meanwhile
    have F2 : Fit X.K (With Xo D) js (upd H1 D (.lst [])) σ env J1 := F1.lock (same_upd hD) hD upd_same
    have hDj : D ∉ js := fun z => F2.jx D z (.inr rfl)
    have kp : ∀ {H2 : Hp}, Keeps (Yf (With Xo D) js) (upd H1 D (.lst [])) H2 → Keeps (Yf Xo js) H1 H2 := fun {H2} k a o q n => by
      have ne : a ≠ D := fun z => by rw [z, hD] at q; cases q
      exact k a o (by rw [upd_ne ne]; exact q) fun y => y.elim (fun y => y.elim (fun y => n (.inl y)) fun z => ne z) fun y => n (.inr y)
    refine lc_it wk (fun i H3 => ∃ acc vs J3, H3 D = some (.lst vs) ∧ Fit X.K (With Xo D) js H3 σ env J3 ∧ Reps X.K H3 (Yf (With Xo D) js) acc vs ∧ Keeps (Yf (With Xo D) js) (upd H1 D (.lst [])) H3 ∧
        PostN X.K W Xo js H σ env Q (noErr (lcLoop t c f (wipeE env (own.map (·.2))) (ds.drop i) acc J3)) ∧ Ext js H H3) ?_ ?_ ?_ ?_
    · exact ⟨[], [], J1, upd_same, F2, reps_nil.mpr rfl, fun a o q _ => q, p, e1.trans (.of (same_upd hD))⟩
    · rintro i H3 hi ⟨acc, vs, J3, h1, h2, h3, h4, h5, h6⟩
      exact hG H3 (kp h4)
    · rintro i x H3 H4 hi ⟨acc, vs, J3, h1, h2, h3, h4, h5, h6⟩ y
      obtain ⟨sm, d, hd, rd'⟩ := hY (Yf (With Xo D) js) (fun a z => z.elim (fun z => z.elim (fun z => .inl (.inl z)) fun z => .inr (z ▸ hD)) fun z => .inl (.inr z)) i H3 x H4 hi (kp h4) h2.lists y
      have hdrop : ds.drop i = d :: ds.drop (i + 1) := by
        obtain ⟨hl, he⟩ := List.getElem?_eq_some_iff.mp hd
        rw [← he]
        exact List.drop_eq_getElem_cons hl
      rw [hdrop] at h5
      unfold lcLoop at h5
      cases ht : t d (wipeE env (own.map (·.2))) with
      | none => rw [ht] at h5; exact h5.elim
      | some env1 =>
        rw [ht] at h5
        have h5 : PostN X.K W Xo js H σ env Q (noErr ((c env1 J3).bind fun b J1 => if b = true then (f env1 J1).bind fun h J2 => match toVal h with
            | some y => if acc.length < big then lcLoop t c f (wipeE env (own.map (·.2))) (ds.drop (i + 1)) (acc ++ [y]) J2 else .stuck
            | none => .stuck
          else lcLoop t c f (wipeE env (own.map (·.2))) (ds.drop (i + 1)) acc J1)) := h5
        have F4 : Fit X.K (With Xo D) js H4 σ env J3 := h2.same sm
        refine hin _ _ _ _ (htg _ _ _ _ _ _ _ _ _ _ (F4.wipe (own.map (·.2))) rd' ht fun σ2 F5 => ?_)
        refine ⟨With Xo D, js, env1, J3, F5, ?_⟩
        cases hc : c env1 J3 with
        | stuck => rw [hc] at h5; exact h5.elim
        | err cc fs J5 => rw [hc] at h5; exact h5.elim
        | ok b J5 =>
          rw [hc] at h5
          intro H5 e5 F6
          have hD4 : H4 D = some (.lst vs) := sm _ _ h1
          have r4 : Reps X.K H4 (Yf (With Xo D) js) acc vs := reps_move (fun a o q _ => sm _ _ q) (fun _ y => .inl y) h2.lists _ _ h3
          cases b with
          | false =>
            refine iteF ⟨acc, vs, J5, e5 _ _ hD4 hDj, ?_, r4.ext F5 e5, fun a o q n => e5 _ _ (sm _ _ (h4 a o q n)) fun z => n (.inr z), h5, (h6.trans (.of sm)).trans e5⟩
            exact F4.renew e5 (fun _ h => .inl h) F6.bare
          | true =>
            refine iteT ⟨With Xo D, js, env1, J5, F6, ?_⟩
            have h5 : PostN X.K W Xo js H σ env Q (noErr ((f env1 J5).bind fun h J2 => match toVal h with
              | some y => if acc.length < big then lcLoop t c f (wipeE env (own.map (·.2))) (ds.drop (i + 1)) (acc ++ [y]) J2 else .stuck
              | none => .stuck)) := h5
            cases hf : f env1 J5 with
            | stuck => rw [hf] at h5; exact h5.elim
            | err cc fs J6 => rw [hf] at h5; exact h5.elim
            | ok h J6 =>
              rw [hf] at h5
              intro y H6 e6 F7 x7
              have h5 : PostN X.K W Xo js H σ env Q (noErr (match toVal h with
                | some y => if acc.length < big then lcLoop t c f (wipeE env (own.map (·.2))) (ds.drop (i + 1)) (acc ++ [y]) J6 else .stuck
                | none => .stuck)) := h5
              cases hv : toVal h with
              | none => rw [hv] at h5; exact h5.elim
              | some dy =>
                rw [hv] at h5
                have h5 : PostN X.K W Xo js H σ env Q (noErr (if acc.length < big then lcLoop t c f (wipeE env (own.map (·.2))) (ds.drop (i + 1)) (acc ++ [dy]) J6 else .stuck)) := h5
                by_cases hb : acc.length < big
                · rw [if_pos hb] at h5
                  have ry := val_rep x7 hv
                  have e46 : Ext js H4 H6 := e5.trans e6
                  have hD6 : H6 D = some (.lst vs) := e46 _ _ hD4 hDj
                  have r6 : Reps X.K H6 (Yf (With Xo D) js) acc vs := r4.ext F5 e46
                  have F8 : Fit X.K (With Xo D) js H6 σ env J6 := F4.renew e46 (fun _ h => .inl h) F7.bare
                  have up : ∀ a o, H6 a = some o → ¬ Yf (With Xo D) js a → upd H6 D (.lst (vs ++ [y])) a = some o := fun a o q n => by
                    rw [upd_ne fun z => n (.inl (.inr z))]; exact q
                  have ls : Lists (upd H6 D (.lst (vs ++ [y]))) (With Xo D) := fun a z => by
                    by_cases ha : a = D
                    · exact ⟨_, by rw [ha]; exact upd_same⟩
                    · rw [upd_ne ha]; exact F8.out a z
                  refine ⟨vs, hD6, by rw [big_eq, reps_len r6]; exact hb, acc ++ [dy], vs ++ [y], J6, upd_same, ?_, ?_, fun a o q n => up _ _ (e46 _ _ (sm _ _ (h4 a o q n)) fun z => n (.inr z)) n, h5, ?_⟩
                  · refine ⟨ls, F8.nd, F8.jx, F8.len, F8.slen, fun k a ds' q1 q2 => ?_, fun k h' q => ?_⟩
                    · obtain ⟨us, u1, u2⟩ := F8.jar k a ds' q1 q2
                      have ha : a ≠ D := fun z => hDj (z ▸ List.mem_of_getElem? q1)
                      exact ⟨us, by rw [upd_ne ha]; exact u1, reps_move up (fun _ y => .inl y) F8.lists _ _ u2⟩
                    · obtain ⟨u, u1, u2⟩ := F8.slot k h' q
                      exact ⟨u, u1, u2.move up (fun _ y => .inl y) F8.lists⟩
                  · exact reps_append (reps_move up (fun _ y => .inl y) F8.lists _ _ r6) (reps_cons.mpr ⟨y, [], rfl, rep_move up (fun _ y => .inl y) F8.lists _ _ ry, reps_nil.mpr rfl⟩)
                  · refine fun a o q n => ?_
                    have q3 := h6 a o q n
                    have ha : a ≠ D := fun z => by
                      have hD0 : H D = none := none_back e1 F1.lists hD
                      rw [z, hD0] at q; cases q
                    rw [upd_ne ha]
                    exact e46 _ _ (sm _ _ q3) n
                · rw [if_neg hb] at h5; exact h5.elim
    · rintro H3 ⟨acc, vs, J3, h1, h2, h3, h4, h5, h6⟩
      rw [List.drop_length] at h5
      exact h5 (.ref D) H3 h6 ⟨D, vs, rfl, none_back e1 F1.lists hD, h1, h2, h3⟩
end
end L2.Pz
set_option Elab.async false
set_option linter.all false
set_option maxRecDepth 100000
set_option maxHeartbeats 4000000
set_option autoImplicit false
namespace L2.Pz
open PySem PySem.Spec PyProof.Rows

/-! ### comprehensions as a rule -/
theorem wipe_at (σ : L2.St) : ∀ (vs : List Nat) (j : Nat), (L2.wipe σ vs)[j]? = if j ∈ vs then (σ[j]?.map fun _ => none) else σ[j]?
  | [], j => by unfold L2.wipe; simp
  | v :: vs, j => by
    unfold L2.wipe
    by_cases h : v = j
    · subst h
      rw [if_pos List.mem_cons_self]
      by_cases hl : v < (L2.wipe σ vs).length
      · rw [List.getElem?_set_self hl]
        rw [L2.wipe_length] at hl
        rw [List.getElem?_eq_getElem hl]; rfl
      · rw [List.getElem?_eq_none (by rw [List.length_set]; omega)]
        rw [L2.wipe_length] at hl
        rw [List.getElem?_eq_none (by omega)]; rfl
    · rw [List.getElem?_set_ne h, wipe_at σ vs j]
      have : (j ∈ v :: vs) ↔ j ∈ vs := by
        constructor
        · intro q
          rcases List.mem_cons.mp q with e | q
          · exact (h e.symm).elim
          · exact q
        · exact List.mem_cons_of_mem _
      by_cases hj : j ∈ vs
      · rw [if_pos hj, if_pos (this.mpr hj)]
      · rw [if_neg hj, if_neg fun q => hj (this.mp q)]
theorem wipe_wset (σ : L2.St) {own : List Nat} {i : Nat} (h : i ∈ own) (x : Option V) {τ : L2.St} (ht : L2.wipe τ own = L2.wipe σ own) : L2.wipe (τ.set i x) own = L2.wipe σ own := by
  rw [← ht]
  refine List.ext_getElem? fun j => ?_
  rw [wipe_at, wipe_at]
  by_cases hj : j ∈ own
  · rw [if_pos hj, if_pos hj]
    by_cases hi : i = j
    · subst hi
      by_cases hl : i < τ.length
      · rw [List.getElem?_set_self hl, List.getElem?_eq_getElem hl]; rfl
      · rw [List.getElem?_eq_none (by rw [List.length_set]; omega), List.getElem?_eq_none (by omega)]
    · rw [List.getElem?_set_ne hi]
  · rw [if_neg hj, if_neg hj, List.getElem?_set_ne fun e => hj (by rw [← e]; exact h)]
theorem wipe_wipe (σ : L2.St) (own : List Nat) : L2.wipe (L2.wipe σ own) own = L2.wipe σ own := by
  refine List.ext_getElem? fun j => ?_
  rw [wipe_at, wipe_at]
  by_cases hj : j ∈ own
  · rw [if_pos hj, if_pos hj]
    cases σ[j]? <;> rfl
  · rw [if_neg hj, if_neg hj]
theorem tgin_name {own : List Nat} {i : Nat} (h : i ∈ own) : TgIn (gName i) own := fun v σ H Q q => ⟨wipe_wset σ h _ (wipe_wipe σ own), q⟩
def TgsIn (u : TGs) (own : List Nat) : Prop := ∀ vs (σ τ : L2.St) (H : Hp) (Q : L2.St → Hp → Prop), L2.wipe τ own = L2.wipe σ own → u vs τ H Q → u vs τ H fun σ2 H2 => L2.wipe σ2 own = L2.wipe σ own ∧ Q σ2 H2
theorem tgsin_nil {own : List Nat} : TgsIn gNil own := fun vs σ τ H Q e ⟨q1, q2⟩ => ⟨q1, e, q2⟩
theorem tgsin_cons {own : List Nat} {i : Nat} {u : TGs} (h : i ∈ own) (hu : TgsIn u own) : TgsIn (gCons (gName i) u) own := fun vs σ τ H Q e ⟨v, r, e1, q⟩ => ⟨v, r, e1, hu r σ _ H Q (wipe_wset σ h _ e) q⟩
theorem tgin_tup {K : PySem.W.Frag} {own : List Nat} {n : Nat} {u : TGs} (hu : TgsIn u own) : TgIn (gTup K n u) own := fun v σ H Q ⟨a, xs, e, s, l, q⟩ => ⟨a, xs, e, s, l, hu xs σ _ H Q (wipe_wipe σ own) q⟩
section
variable {X : Cx} {tg iter elt : Expr} {ifs : List Expr} {scope : Scope} {own : List (Str × Nat)} {pos : Pos} {g : TG} {t : TF} {it : IF} {c : BF} {f : EF} {W : WX}
theorem pn_lc (hc : X.calm = true) (hN : X.N.Nodup) (hi : PI X tg iter (tW X.K W it)) (ok : BlkOk X.N X.env.scope scope own)
    (hg : ∀ (s : Shared) (H : Hp) (C : Addr) (cl : List (Str × Addr)) (fp : List Addr), PG (X.blk s H scope (compEnvC scope cl C X.env) fp) tg g) (ht : ∀ (s : Shared) (H : Hp) (C : Addr) (cl : List (Str × Addr)) (fp : List Addr), PTs (X.blk s H scope (compEnvC scope cl C X.env) fp) ifs (tT X.K W0 c))
    (he : ∀ (s : Shared) (H : Hp) (C : Addr) (cl : List (Str × Addr)) (fp : List Addr), PE (X.blk s H scope (compEnvC scope cl C X.env) fp) elt (tD X.K W0 f)) (htg : TgOk X.K g t) (hin : TgIn g (own.map (·.2))) (hs : ∀ x, foldedSetIterable iter X.env x = pure x) :
    PE X (.ListComp elt [⟨tg, iter, ifs, 0⟩] scope pos) (tN X.K W (eLc it t c f (own.map (·.2)))) :=
  pe_mono (pe_lc hc hN hi ok hg ht he hs) fun σ H Q w => lc_read htg hin w
theorem pts_yes : PTs X [] (tT X.K W0 bYes) := ⟨fun pins s σ H Q I ⟨Xo, js, env, J, F, p⟩ => pts_nil.run pins s σ H Q I (p H .refl F)⟩
theorem pts_oneD {e : Expr} (h : PT X e (tT X.K W0 c)) : PTs X [e] (tT X.K W0 c) := pts_one h
end

/-! ### statements -/
inductive RS where
  | nx (env : En) (J : Jr) | rt (h : HV) (J : Jr) | bk (env : En) (J : Jr) | ct (env : En) (J : Jr) | err (c : Str) (fs : List (Str × D)) (env : En) (J : Jr) | stuck
abbrev SF := Nat → En → Jr → RS
structure Stp (n0 : Nat) (js js' : List Addr) (H H' : Hp) : Prop where
  ext : Ext js H H'
  new : ∀ a ∈ js', a ∈ js ∨ H a = none
  pre : js'.take n0 = js.take n0
  back : ∀ a, H' a = none → H a = none
theorem Stp.refl {n0 : Nat} {js : List Addr} {H : Hp} : Stp n0 js js H H := ⟨.refl, fun _ h => .inl h, rfl, fun _ h => h⟩
theorem Stp.trans {n0 : Nat} {js js1 js2 : List Addr} {H H1 H2 : Hp} (a : Stp n0 js js1 H H1) (b : Stp n0 js1 js2 H1 H2) : Stp n0 js js2 H H2 where
  ext := fun c o e n => b.ext c o (a.ext c o e n) fun z => (a.new c z).elim n fun w => by rw [e] at w; cases w
  new := fun c h => by
    rcases b.new c h with z | z
    · exact a.new c z
    · exact .inr (a.back c z)
  pre := b.pre.trans a.pre
  back := fun c h => a.back c (b.back c h)
section
variable {K : PySem.W.Frag} {W : WX} {Xo : Addr → Prop} {js js' : List Addr} {H H' : Hp} {σ : L2.St} {env : En} {J : Jr} {n0 : Nat}
theorem Stp.of_ext (F : Fit K Xo js H' σ env J) (e : Ext js H H') : Stp n0 js js H H' := ⟨e, fun _ h => .inl h, rfl, fun a h => none_back e F.lists h⟩
end
def PostS (K : PySem.W.Frag) (W : WX) (n0 : Nat) (Xo : Addr → Prop) (js : List Addr) (H : Hp) (D : Ends) : RS → Prop
  | .nx env J => ∀ σ' H' js', Stp n0 js js' H H' → Fit K Xo js' H' σ' env J → D.nx σ' H'
  | .bk env J => ∀ σ' H' js', Stp n0 js js' H H' → Fit K Xo js' H' σ' env J → D.bk σ' H'
  | .ct env J => ∀ σ' H' js', Stp n0 js js' H H' → Fit K Xo js' H' σ' env J → D.ct σ' H'
  | .rt h J => ∀ v H' js', Stp n0 js js' H H' → OutN K Xo js' H H' [] [] J h v → D.rt v H'
  | .err c fs env J => ∀ cls od σ' H' js', ExcAt K Xo js' c fs cls od H' → Stp n0 js js' H H' → Fit K Xo js' H' σ' env J → W cls od σ' H'
  | .stuck => False
def tS (K : PySem.W.Frag) (W : WX) (n0 : Nat) (g : SF) : TS := fun D σ H => ∃ Xo js env J, Fit K Xo js H σ env J ∧ PostS K W n0 Xo js H D (g n0 env J)
/-- an expression's outcome within a statement -/
def onS {α : Type} (env : En) (r : R α) (k : α → Jr → RS) : RS := match r with
  | .ok a J => k a J
  | .err c fs J => .err c fs env J
  | .stuck => .stuck
def sSeq (a b : SF) : SF := fun n env J => match a n env J with
  | .nx e1 J1 => b n e1 J1
  | r => r
def sNext : SF := fun _ env J => .nx env J
def sBreak : SF := fun _ env J => .bk env J
def sCont : SF := fun _ env J => .ct env J
def sExpr (f : EF) : SF := fun _ env J => onS env (f env J) fun _ J1 => .nx env J1
def sRet (f : EF) : SF := fun _ env J => onS env (f env J) fun h J1 => .rt h J1
def sRetN : SF := fun _ env J => .rt (.val .non) J
def sSet (i : Nat) (f : EF) : SF := fun _ env J => onS env (f env J) fun h J1 => .nx (env.set i (some (norm h))) J1
/-- name = a fresh list that will be changed -/
def sNew (i : Nat) (f : EF) : SF := fun n env J => onS env (f env J) fun h J1 => match h with
  | .new ds => if n ≤ J1.length then .nx (env.set i (some (.jar J1.length))) (J1 ++ [ds]) else .stuck
  | _ => .stuck
def sAsg (t : TF) (f : EF) : SF := fun _ env J => onS env (f env J) fun h J1 => match toVal h with
  | some d => (match t d env with | some e1 => .nx e1 J1 | none => .stuck)
  | none => .stuck
def sIf (c : BF) (a b : SF) : SF := fun n env J => onS env (c env J) fun k J1 => if k = true then a n env J1 else b n env J1
def loopD (t : TF) (body : SF) (n0 : Nat) : List D → En → Jr → RS
  | [], env, J => .nx env J
  | d :: ds, env, J => match t d env with
    | none => .stuck
    | some e1 => match body n0 e1 J with
      | .nx e2 J2 => loopD t body n0 ds e2 J2
      | .ct e2 J2 => loopD t body n0 ds e2 J2
      | .bk e2 J2 => .nx e2 J2
      | r => r
def sFor (it : IF) (t : TF) (body : SF) : SF := fun n env J => onS env (it env J) fun ds J1 => loopD t body n ds env J1
/-- x.append(e), x a cell -/
def sAppend (i : Nat) (f : EF) : SF := fun _ env J => onS env (f env J) fun h J1 => match env[i]?, toVal h with
  | some (some (.jar k)), some d => (match J1[k]? with
    | some ds => if ds.length < big then .nx env (J1.set k (ds ++ [d])) else .stuck
    | none => .stuck)
  | _, _ => .stuck
/-- x[j] = e, x a cell -/
def sSetIx (i : Nat) (ix f : EF) : SF := fun _ env J => onS env (f env J) fun h J1 => onS env (ix env J1) fun hj J2 => match env[i]?, toVal h, hj with
  | some (some (.jar k)), some d, .val (.int j) => (match J2[k]? with
    | some ds => (match ixN ds.length j with | some m => .nx env (J2.set k (ds.set m d)) | none => .stuck)
    | none => .stuck)
  | _, _, _ => .stuck
section
variable {K : PySem.W.Frag} {W : WX} {Xo : Addr → Prop} {js js' : List Addr} {H H1 H' : Hp} {σ : L2.St} {env : En} {J : Jr} {n0 : Nat} {Dn : Ends}
theorem PostS.later {r : RS} (s : Stp n0 js js' H H1) (p : PostS K W n0 Xo js H Dn r) : PostS K W n0 Xo js' H1 Dn r := by
  cases r with
  | nx env J => exact fun σ' H' js2 s2 F => p σ' H' js2 (s.trans s2) F
  | bk env J => exact fun σ' H' js2 s2 F => p σ' H' js2 (s.trans s2) F
  | ct env J => exact fun σ' H' js2 s2 F => p σ' H' js2 (s.trans s2) F
  | rt h J =>
    intro v H' js2 s2 o
    refine p v H' js2 (s.trans s2) ?_
    cases h with
    | val d => exact o
    | jar k => exact o
    | new ds =>
      obtain ⟨q, us, a1, a2, a3⟩ := o
      exact ⟨q, us, a1, s.back q a2, a3⟩
  | err c fs env J => exact fun cls od σ' H' js2 x s2 F => p cls od σ' H' js2 x (s.trans s2) F
  | stuck => exact p
theorem flies_S {c : Str} {fs : List (Str × D)} (p : PostS K W n0 Xo js H Dn (.err c fs env J)) : Flies K W Xo js H σ env c fs J :=
  fun cls od H' x e F => p cls od σ H' js x (.of_ext F e) F
end
section
variable {X : Cx} {W : WX} {n0 : Nat} {st : Stmt} {rest : List Stmt} {a b : SF} {f : EF} {c : BF} {e tg iter : Expr} {pos : Pos} {ta tb : List Stmt}
theorem ss_nil : PSs X [] (tS X.K W n0 sNext) := pss_mono pss_nil fun D σ H ⟨Xo, js, env, J, F, p⟩ => p σ H js .refl F
theorem ss_one (h : PS X st (tS X.K W n0 a)) : PSs X [st] (tS X.K W n0 a) := pss_one h
theorem ss_cons (h1 : PS X st (tS X.K W n0 a)) (h2 : PSs X rest (tS X.K W n0 b)) : PSs X (st :: rest) (tS X.K W n0 (sSeq a b)) := pss_mono (pss_cons h1 h2) fun D σ H ⟨Xo, js, env, J, F, p⟩ => by
  refine ⟨Xo, js, env, J, F, ?_⟩
  unfold sSeq at p
  cases r : a n0 env J with
  | nx e1 J1 =>
    rw [r] at p
    exact fun σ' H' js' s F' => ⟨Xo, js', e1, J1, F', p.later s⟩
  | bk e1 J1 => rw [r] at p; exact p
  | ct e1 J1 => rw [r] at p; exact p
  | rt h J1 => rw [r] at p; exact p
  | err c fs e1 J1 => rw [r] at p; exact p
  | stuck => rw [r] at p; exact p
theorem s_pass : PS X (.Pass pos) (tS X.K W n0 sNext) := ps_mono ps_pass fun D σ H ⟨Xo, js, env, J, F, p⟩ => p σ H js .refl F
theorem s_break : PS X (.Break pos) (tS X.K W n0 sBreak) := ps_mono ps_break fun D σ H ⟨Xo, js, env, J, F, p⟩ => p σ H js .refl F
theorem s_cont : PS X (.Continue pos) (tS X.K W n0 sCont) := ps_mono ps_continue fun D σ H ⟨Xo, js, env, J, F, p⟩ => p σ H js .refl F
theorem s_expr (he : PE X e (tD X.K W f)) (hs : swapsWith e none pos.line X.env = pure false) : PS X (.Expr e pos) (tS X.K W n0 (sExpr f)) := ps_mono (ps_expr he hs) fun D σ H ⟨Xo, js, env, J, F, p⟩ => by
  refine ⟨Xo, js, env, J, F, ?_⟩
  unfold sExpr at p
  cases r : f env J with
  | stuck => rw [r] at p; exact p.elim
  | err c fs J1 => rw [r] at p; exact flies_S p
  | ok h J1 => rw [r] at p; exact fun v H' e1 G _ => p σ H' js (.of_ext G e1) G
theorem s_ret (he : PE X e (tN X.K W f)) : PS X (.Return (some e) pos) (tS X.K W n0 (sRet f)) := ps_mono (ps_ret he) fun D σ H ⟨Xo, js, env, J, F, p⟩ => by
  refine ⟨Xo, js, env, J, F, ?_⟩
  unfold sRet at p
  cases r : f env J with
  | stuck => rw [r] at p; exact p.elim
  | err c fs J1 => rw [r] at p; exact flies_S p
  | ok h J1 =>
    rw [r] at p
    intro v H' e1 o
    obtain ⟨G, _⟩ := outN_norm F.out o
    refine p v H' js (.of_ext G e1) ?_
    cases h with
    | val d => exact ⟨G.bare, o.2⟩
    | jar k => exact ⟨G.bare, o.2⟩
    | new ds =>
      obtain ⟨q, us, a1, a2, a3, a4, a5⟩ := o
      exact ⟨q, us, a1, a2, a3, a4.bare, a5⟩
theorem s_retN : PS X (.Return none pos) (tS X.K W n0 sRetN) := ps_mono ps_retN fun D σ H ⟨Xo, js, env, J, F, p⟩ => p .non H js .refl (out_val F.bare (mk_non (K := X.K) (H := H) (Y := Yf Xo js)))
theorem s_set {i : Nat} {x : Str} {pos' : Pos} (hN : X.N.Nodup) (hi : X.N[i]? = some x) (hx : Loc X.env.scope x) (he : PE X e (tD X.K W f)) (hs : swapsWith e (some (.Name x pos')) pos.line X.env = pure false) (hf : X.fn x = true ∨ X.env.scope.names.lookup x = some .local) :
    PS X (.Assign [.Name x pos'] e pos) (tS X.K W n0 (sSet i f)) := ps_mono (ps_set hN hi hx he hs hf) fun D σ H ⟨Xo, js, env, J, F, p⟩ => by
  refine ⟨Xo, js, env, J, F, ?_⟩
  unfold sSet at p
  cases r : f env J with
  | stuck => rw [r] at p; exact p.elim
  | err c fs J1 => rw [r] at p; exact flies_S p
  | ok h J1 => rw [r] at p; exact fun v H' e1 G x => p _ H' js (.of_ext G e1) (G.set i x)
theorem new_read {i : Nat} {D : Ends} {σ : L2.St} {H : Hp} (w : tS X.K W n0 (sNew i f) D σ H) : tAsg (tN X.K W f) (gName i) D σ H := by
  obtain ⟨Xo, js, env, J, F, p⟩ := w
  refine ⟨Xo, js, env, J, F, ?_⟩
  unfold sNew at p
  cases r : f env J with
  | stuck => rw [r] at p; exact p.elim
  | err c fs J1 => rw [r] at p; exact flies_S p
  | ok h J1 =>
    rw [r] at p
    intro v H' e1 o
    cases h with
    | val d => exact p.elim
    | jar k => exact p.elim
    | new ds =>
      obtain ⟨q, us, a1, a2, a3, a4, a5⟩ := o
      have p : PostS X.K W n0 Xo js H D (if n0 ≤ J1.length then .nx (env.set i (some (.jar J1.length))) (J1 ++ [ds]) else .stuck) := p
      by_cases hn0 : n0 ≤ J1.length
      case neg => rw [if_neg hn0] at p; exact p.elim
      rw [if_pos hn0] at p
      have nq : q ∉ js := fun z => a4.jx q z (.inr rfl)
      have yy : ∀ a, Yf Xo (js ++ [q]) a → Yf (With Xo q) js a := fun a y => by
        rcases y with y | y
        · exact .inl (.inl y)
        · rcases List.mem_append.mp y with y | y
          · exact .inr y
          · exact .inl (.inr (by simpa using y))
      have hout : Lists H' Xo := fun a y => a4.out a (.inl y)
      have nX : ¬ Xo q := fun y => by
        obtain ⟨xs, z⟩ := F.out q y
        rw [a2] at z; cases z
      have G : Fit X.K Xo (js ++ [q]) H' σ env (J1 ++ [ds]) := by
        refine ⟨hout, ?_, fun a ha => ?_, by rw [List.length_append, List.length_append, a4.len]; rfl, a4.slen, fun k a ds' h1 h2 => ?_, fun k h' e => ?_⟩
        · rw [List.nodup_append]
          exact ⟨a4.nd, by simp, fun a ha b hb => by
            have : b = q := by simpa using hb
            rw [this]; exact fun z => nq (z ▸ ha)⟩
        · rcases List.mem_append.mp ha with ha | ha
          · exact fun z => a4.jx a ha (.inl z)
          · have : a = q := by simpa using ha
            rw [this]; exact nX
        · by_cases hk : k < js.length
          · rw [List.getElem?_append_left hk] at h1
            rw [List.getElem?_append_left (by rw [← a4.len]; exact hk)] at h2
            obtain ⟨us', u1, u2⟩ := a4.jar k a ds' h1 h2
            exact ⟨us', u1, reps_move (fun _ _ e _ => e) (fun a y => .inl (yy a y)) a4.lists _ _ u2⟩
          · rw [List.getElem?_append_right (by omega)] at h1
            rw [List.getElem?_append_right (by rw [← a4.len]; omega), ← a4.len] at h2
            have hk0 : k - js.length = 0 := by
              cases hh : k - js.length with
              | zero => rfl
              | succ m => rw [hh] at h1; simp at h1
            rw [hk0] at h1 h2
            have e1 : q = a := by simpa using h1
            have e2 : ds = ds' := by simpa using h2
            subst e1; subst e2
            exact ⟨us, a3, reps_move (fun _ _ e _ => e) (fun a y => .inl (yy a y)) a4.lists _ _ a5⟩
        · obtain ⟨u, u1, u2⟩ := a4.slot k h' e
          refine ⟨u, u1, ?_⟩
          have u3 := u2.move (fun _ _ e _ => e) (Y' := Yf Xo (js ++ [q])) (fun a y => .inl (yy a y)) a4.lists
          cases h' with
          | val d => exact u3
          | new ds => exact u3
          | jar m =>
            obtain ⟨a, ea, ev⟩ := u3
            exact ⟨a, by rw [List.getElem?_append_left ((List.getElem?_eq_some_iff.mp ea).1)]; exact ea, ev⟩
      refine p _ H' (js ++ [q]) ⟨e1, fun a ha => ?_, ?_, fun a h => none_back e1 a4.unlock.lists h⟩ (G.set i (h := .jar J1.length) ?_)
      · rcases List.mem_append.mp ha with ha | ha
        · exact .inl ha
        · have : a = q := by simpa using ha
          rw [this]; exact .inr a2
      · rw [List.take_append_of_le_length (by rw [a4.len]; exact hn0)]
      · exact ⟨q, by rw [← a4.len]; simp, a1⟩
end
end L2.Pz
set_option Elab.async false
set_option linter.all false
set_option maxRecDepth 100000
set_option maxHeartbeats 4000000
set_option autoImplicit false
namespace L2.Pz
open PySem PySem.Spec PyProof.Rows

section
variable {K : PySem.W.Frag} {W : WX} {Xo : Addr → Prop} {js js' : List Addr} {H H1 H' : Hp} {σ : L2.St} {env : En} {J : Jr} {n0 : Nat}
/-- a cell is written -/
theorem Fit.write (F : Fit K Xo js H σ env J) {k : Nat} {a : Addr} {ds : List D} {vs : List V} (e : js[k]? = some a) (r : Reps K H (Yf Xo js) ds vs) :
    Fit K Xo js (upd H a (.lst vs)) σ env (J.set k ds) ∧ Ext js H (upd H a (.lst vs)) := by
  have ha : a ∈ js := List.mem_of_getElem? e
  have up : ∀ b o, H b = some o → ¬ Yf Xo js b → upd H a (.lst vs) b = some o := fun b o q n => by
    rw [upd_ne (b := b) (a := a) fun z => n (.inr (by rw [z]; exact ha))]; exact q
  have hk : k < js.length := (List.getElem?_eq_some_iff.mp e).1
  have ls : ∀ b, (∃ xs, H b = some (.lst xs)) → ∃ xs, upd H a (.lst vs) b = some (.lst xs) := fun b ⟨xs, q⟩ => by
    by_cases hb : b = a
    · exact ⟨_, by rw [hb]; exact upd_same⟩
    · exact ⟨xs, by rw [upd_ne hb]; exact q⟩
  refine ⟨⟨fun b z => ls b (F.out b z), F.nd, F.jx, by rw [List.length_set]; exact F.len, F.slen, fun m b ds' q1 q2 => ?_, fun i h q => ?_⟩, fun b o q n => ?_⟩
  · by_cases hm : k = m
    · subst hm
      rw [e] at q1
      cases q1
      rw [List.getElem?_set_self (by rw [← F.len]; exact hk)] at q2
      cases q2
      exact ⟨vs, upd_same, reps_move up (fun _ y => .inl y) F.lists _ _ r⟩
    · rw [List.getElem?_set_ne hm] at q2
      obtain ⟨us, u1, u2⟩ := F.jar m b ds' q1 q2
      have hb : b ≠ a := fun z => by
        subst z
        obtain ⟨h1, e1⟩ := List.getElem?_eq_some_iff.mp e
        obtain ⟨h2, e2⟩ := List.getElem?_eq_some_iff.mp q1
        exact hm ((List.getElem_inj F.nd).mp (e1.trans e2.symm))
      exact ⟨us, by rw [upd_ne hb]; exact u1, reps_move up (fun _ y => .inl y) F.lists _ _ u2⟩
  · obtain ⟨u, u1, u2⟩ := F.slot i h q
    exact ⟨u, u1, u2.move up (fun _ y => .inl y) F.lists⟩
  · rw [upd_ne (b := b) (a := a) fun z => n (by rw [z]; exact ha)]; exact q
/-- the cells behind the n-th are let go -/
theorem Fit.trim (F : Fit K Xo js H [] [] J) (n : Nat) : Fit K Xo (js.take n) H [] [] (J.take n) := by
  have yy : ∀ a, Yf Xo (js.take n) a → Yf Xo js a := fun a y => y.elim .inl fun y => .inr (List.mem_of_mem_take y)
  refine ⟨F.out, F.nd.sublist (List.take_sublist _ _), fun a ha => F.jx a (List.mem_of_mem_take ha), by rw [List.length_take, List.length_take, F.len], rfl, fun k a ds h1 h2 => ?_, fun i h e => by simp at e⟩
  have hk : k < n := by
    have := (List.getElem?_eq_some_iff.mp h1).1
    rw [List.length_take] at this
    omega
  rw [List.getElem?_take_of_lt hk] at h1 h2
  obtain ⟨vs, u1, u2⟩ := F.jar k a ds h1 h2
  exact ⟨vs, u1, reps_move (fun _ _ e _ => e) (fun a y => .inl (yy a y)) F.lists _ _ u2⟩
end
section
variable {X : Cx} {W : WX} {n0 : Nat} {st : Stmt} {a b : SF} {f ix : EF} {c : BF} {e tg iter : Expr} {pos : Pos} {ta tb : List Stmt} {g : TG} {t : TF} {it : IF}
theorem s_new {i : Nat} {x : Str} {pos' : Pos} (hN : X.N.Nodup) (hi : X.N[i]? = some x) (hx : Loc X.env.scope x) (he : PE X e (tN X.K W f)) (hs : swapsWith e (some (.Name x pos')) pos.line X.env = pure false) (hf : X.fn x = true ∨ X.env.scope.names.lookup x = some .local) :
    PS X (.Assign [.Name x pos'] e pos) (tS X.K W n0 (sNew i f)) := ps_mono (ps_set hN hi hx he hs hf) fun D σ H w => new_read w
theorem set_read {i : Nat} {D : Ends} {σ : L2.St} {H : Hp} (w : tS X.K W n0 (sSet i f) D σ H) : tAsg (tN X.K W f) (gName i) D σ H := by
  obtain ⟨Xo, js, env, J, F, p⟩ := w
  refine ⟨Xo, js, env, J, F, ?_⟩
  unfold sSet at p
  cases r : f env J with
  | stuck => rw [r] at p; exact p.elim
  | err c fs J1 => rw [r] at p; exact flies_S p
  | ok h J1 =>
    rw [r] at p
    intro v H' e1 o
    obtain ⟨G, x⟩ := outN_norm F.out o
    exact p _ H' js (.of_ext G e1) (G.set i x)
/-- name = [..] -/
theorem s_setLc {i : Nat} {elt : Expr} {ifs : List Expr} {scope : Scope} {own : List (Str × Nat)} {py spos : Pos} {y : Str} (htg : TgOk X.K g t) (hin : TgIn g (own.map (·.2)))
    (h : PS X (.Assign [.Name y py] (.ListComp elt [⟨tg, iter, ifs, 0⟩] scope pos) spos) (tAsg (tLc (tW X.K W it) g (tT X.K W0 c) (tD X.K W0 f) (own.map (·.2))) (gName i))) :
    PS X (.Assign [.Name y py] (.ListComp elt [⟨tg, iter, ifs, 0⟩] scope pos) spos) (tS X.K W n0 (sSet i (eLc it t c f (own.map (·.2))))) := ps_mono h fun D σ H w => lc_read htg hin (set_read w)
theorem s_newLc {i : Nat} {elt : Expr} {ifs : List Expr} {scope : Scope} {own : List (Str × Nat)} {py spos : Pos} {y : Str} (htg : TgOk X.K g t) (hin : TgIn g (own.map (·.2)))
    (h : PS X (.Assign [.Name y py] (.ListComp elt [⟨tg, iter, ifs, 0⟩] scope pos) spos) (tAsg (tLc (tW X.K W it) g (tT X.K W0 c) (tD X.K W0 f) (own.map (·.2))) (gName i))) :
    PS X (.Assign [.Name y py] (.ListComp elt [⟨tg, iter, ifs, 0⟩] scope pos) spos) (tS X.K W n0 (sNew i (eLc it t c f (own.map (·.2))))) := ps_mono h fun D σ H w => lc_read htg hin (new_read w)
/-- a, b = e -/
theorem s_asg (htg : TgOk X.K g t) (h : PS X st (tAsg (tD X.K W f) g)) : PS X st (tS X.K W n0 (sAsg t f)) := ps_mono h fun D σ H ⟨Xo, js, env, J, F, p⟩ => by
  refine ⟨Xo, js, env, J, F, ?_⟩
  unfold sAsg at p
  cases r : f env J with
  | stuck => rw [r] at p; exact p.elim
  | err c fs J1 => rw [r] at p; exact flies_S p
  | ok h J1 =>
    rw [r] at p
    intro v H' e1 G x
    have p : PostS X.K W n0 Xo js H D (match toVal h with
      | some d => (match t d env with | some e1 => .nx e1 J1 | none => .stuck)
      | none => .stuck) := p
    cases hv : toVal h with
    | none => rw [hv] at p; exact p.elim
    | some d =>
      rw [hv] at p
      have p : PostS X.K W n0 Xo js H D (match t d env with | some e1 => .nx e1 J1 | none => .stuck) := p
      cases ht : t d env with
      | none => rw [ht] at p; exact p.elim
      | some e2 =>
        rw [ht] at p
        exact htg _ _ _ _ _ _ _ _ _ _ G (val_rep x hv) ht fun σ' F' => p σ' H' js (.of_ext F' e1) F'
theorem s_if (hc : PT X e (tT X.K W c)) (ha : PSs X ta (tS X.K W n0 a)) (hb : PSs X tb (tS X.K W n0 b)) : PS X (.If e ta tb pos) (tS X.K W n0 (sIf c a b)) := ps_mono (ps_if hc ha hb) fun D σ H ⟨Xo, js, env, J, F, p⟩ => by
  refine ⟨Xo, js, env, J, F, ?_⟩
  unfold sIf at p
  cases r : c env J with
  | stuck => rw [r] at p; exact p.elim
  | err c fs J1 => rw [r] at p; exact flies_S p
  | ok k J1 =>
    rw [r] at p
    intro H' e1 G
    have p : PostS X.K W n0 Xo js H D (if k = true then a n0 env J1 else b n0 env J1) := p
    cases k with
    | true => exact iteT ⟨Xo, js, env, J1, G, PostS.later (.of_ext G e1) p⟩
    | false => exact iteF ⟨Xo, js, env, J1, G, PostS.later (.of_ext G e1) p⟩
theorem s_for (hp : PassesOwn (model X.prog X.w) X.A X.env X.xe) (hc : X.calm = true) (hi : PI X tg iter (tW X.K W it)) (hg : PG X tg g) (htg : TgOk X.K g t) (hb : PSs X ta (tS X.K W n0 a)) (hs : ∀ x, foldedSetIterable iter X.env x = pure x) :
    PS X (.For tg iter ta [] pos) (tS X.K W n0 (sFor it t a)) := ps_mono (ps_for hp hc hi hg hb hs) fun D σ H ⟨Xo, js, env, J, F, p⟩ => by
  refine ⟨Xo, js, env, J, F, ?_⟩
  unfold sFor at p
  cases r : it env J with
  | stuck => rw [r] at p; exact p.elim
  | err c fs J1 => rw [r] at p; exact flies_S p
  | ok ds J1 =>
    rw [r] at p
    have p : PostS X.K W n0 Xo js H D (loopD t a n0 ds env J1) := p
    intro I H1 e1 F1 wd
    obtain ⟨G, Yl, wk, hG, hY⟩ := wd.ex
    have kp : ∀ {js3 : List Addr} {H3 : Hp}, Stp n0 js js3 H1 H3 → Keeps (Yf Xo js) H1 H3 := fun {js3 H3} s a o q n => s.ext a o q fun z => n (.inr z)
    refine for_it wk (fun i σ3 H3 => ∃ js3 env3 J3, Fit X.K Xo js3 H3 σ3 env3 J3 ∧ Stp n0 js js3 H1 H3 ∧ PostS X.K W n0 Xo js3 H3 D (loopD t a n0 (ds.drop i) env3 J3)) ?_ ?_ ?_ ?_
    · exact ⟨js, env, J1, F1, .refl, PostS.later (.of_ext F1 e1) p⟩
    · rintro i σ3 H3 hi ⟨js3, env3, J3, F3, s3, p3⟩
      exact hG H3 (kp s3)
    · rintro i x σ3 H3 H4 hi ⟨js3, env3, J3, F3, s3, p3⟩ y
      obtain ⟨sm, d, hd, rd⟩ := hY (Yf Xo js3) (fun a z => z.elim (fun z => .inl (.inl z)) fun z => (s3.new a z).elim (fun z => .inl (.inr z)) .inr) i H3 x H4 hi (kp s3) F3.lists y
      have hdrop : ds.drop i = d :: ds.drop (i + 1) := by
        obtain ⟨hl, he⟩ := List.getElem?_eq_some_iff.mp hd
        rw [← he]
        exact List.drop_eq_getElem_cons hl
      rw [hdrop] at p3
      unfold loopD at p3
      have F4 : Fit X.K Xo js3 H4 σ3 env3 J3 := F3.same sm
      have s4 : Stp n0 js3 js3 H3 H4 := .of_ext F4 (.of sm)
      cases ht : t d env3 with
      | none => rw [ht] at p3; exact p3.elim
      | some env4 =>
        rw [ht] at p3
        refine htg _ _ _ _ _ _ _ _ _ _ F4 rd ht fun σ5 F5 => ?_
        refine ⟨Xo, js3, env4, J3, F5, ?_⟩
        have p3 : PostS X.K W n0 Xo js3 H3 D (match a n0 env4 J3 with
          | .nx e2 J2 => loopD t a n0 (ds.drop (i + 1)) e2 J2
          | .ct e2 J2 => loopD t a n0 (ds.drop (i + 1)) e2 J2
          | .bk e2 J2 => .nx e2 J2
          | r => r) := p3
        cases hr : a n0 env4 J3 with
        | nx e2 J2 =>
          rw [hr] at p3
          exact fun σ' H' js' s F' => ⟨js', e2, J2, F', (s3.trans s4).trans s, PostS.later (s4.trans s) p3⟩
        | ct e2 J2 =>
          rw [hr] at p3
          exact fun σ' H' js' s F' => ⟨js', e2, J2, F', (s3.trans s4).trans s, PostS.later (s4.trans s) p3⟩
        | bk e2 J2 =>
          rw [hr] at p3
          exact fun σ' H' js' s F' => p3 σ' H' js' (s4.trans s) F'
        | rt h J2 => rw [hr] at p3; exact PostS.later (r := .rt h J2) s4 p3
        | err c fs e2 J2 => rw [hr] at p3; exact PostS.later (r := .err c fs e2 J2) s4 p3
        | stuck => rw [hr] at p3; exact p3.elim
    · rintro σ3 H3 ⟨js3, env3, J3, F3, s3, p3⟩
      rw [List.drop_length] at p3
      exact p3 σ3 H3 js3 .refl F3
end

/-! ### cells: append, x[i] = e -/
def appEnd (env : En) (J : Jr) (k : Nat) : Option D → RS
  | some d => (match J[k]? with
    | some ds => if ds.length < big then .nx env (J.set k (ds ++ [d])) else .stuck
    | none => .stuck)
  | none => .stuck
def sApp (i : Nat) (f : EF) : SF := fun _ env J => match env[i]? with
  | some (some (.jar k)) => onS env (f env J) fun h J1 => appEnd env J1 k (toVal h)
  | _ => .stuck
def setEnd (env : En) (J : Jr) (k : Nat) : Option D → HV → RS
  | some d, .val (.int j) => (match J[k]? with
    | some ds => (match ixN ds.length j with | some m => .nx env (J.set k (ds.set m d)) | none => .stuck)
    | none => .stuck)
  | _, _ => .stuck
def sSetI (i : Nat) (ix f : EF) : SF := fun _ env J => match env[i]? with
  | some (some (.jar k)) => onS env (f env J) fun h J1 => onS env (ix env J1) fun hj J2 => setEnd env J2 k (toVal h) hj
  | _ => .stuck
section
variable {X : Cx} {W : WX} {n0 : Nat} {st : Stmt} {f ix : EF} {i : Nat}
theorem s_app (h : PS X st (tDrop (tBM X.K "list" rAppend (tVar i) (tCons (tD X.K W f) tNil)))) : PS X st (tS X.K W n0 (sApp i f)) := ps_mono h fun D σ H ⟨Xo, js, env, J, F, p⟩ => by
  unfold sApp at p
  cases hs : env[i]? with
  | none => rw [hs] at p; exact p.elim
  | some o =>
    cases o with
    | none => rw [hs] at p; exact p.elim
    | some z =>
      cases z with
      | val d => rw [hs] at p; exact p.elim
      | new d => rw [hs] at p; exact p.elim
      | jar k =>
        rw [hs] at p
        obtain ⟨v, hv, a, ha, rfl⟩ := F.slot i _ hs
        obtain ⟨ds0, vs0, _, hl0, _⟩ := F.at ha
        refine ⟨_, hv, .inl ⟨rfl, _, SqL.of hl0⟩, ?_⟩
        show tD X.K W f σ H fun x H1 => _
        refine ⟨Xo, js, env, J, F, ?_⟩
        have p : PostS X.K W n0 Xo js H D (onS env (f env J) fun h J1 => appEnd env J1 k (toVal h)) := p
        cases r : f env J with
        | stuck => rw [r] at p; exact p.elim
        | err c fs J1 => rw [r] at p; exact flies_S p
        | ok h J1 =>
          rw [r] at p
          intro x H1 e1 F1 x1
          have p : PostS X.K W n0 Xo js H D (appEnd env J1 k (toVal h)) := p
          cases hd : toVal h with
          | none => rw [hd] at p; exact p.elim
          | some d =>
            rw [hd] at p
            obtain ⟨ds, vs, hJ, hl, rs⟩ := F1.at ha
            have p : PostS X.K W n0 Xo js H D (match J1[k]? with
              | some ds => if ds.length < big then .nx env (J1.set k (ds ++ [d])) else .stuck
              | none => .stuck) := p
            rw [hJ] at p
            have p : PostS X.K W n0 Xo js H D (if ds.length < big then .nx env (J1.set k (ds ++ [d])) else .stuck) := p
            by_cases hb : ds.length < big
            · rw [if_pos hb] at p
              have r2 := reps_append rs (reps_cons.mpr ⟨x, [], rfl, val_rep x1 hd, reps_nil.mpr rfl⟩)
              obtain ⟨F2, e2⟩ := F1.write ha r2
              exact ⟨a, vs, x, rfl, rfl, hl, by rw [big_eq, reps_len rs]; exact hb, p _ _ js (.of_ext F2 (e1.trans e2)) F2⟩
            · rw [if_neg hb] at p; exact p.elim
theorem s_setI (h : PS X st (tAsg (tD X.K W f) (gSub (tVar i) (tD X.K W ix) rSetL))) : PS X st (tS X.K W n0 (sSetI i ix f)) := ps_mono h fun D σ H ⟨Xo, js, env, J, F, p⟩ => by
  unfold sSetI at p
  cases hs : env[i]? with
  | none => rw [hs] at p; exact p.elim
  | some o =>
    cases o with
    | none => rw [hs] at p; exact p.elim
    | some z =>
      cases z with
      | val d => rw [hs] at p; exact p.elim
      | new d => rw [hs] at p; exact p.elim
      | jar k =>
        rw [hs] at p
        obtain ⟨v, hv, a, ha, rfl⟩ := F.slot i _ hs
        refine ⟨Xo, js, env, J, F, ?_⟩
        have p : PostS X.K W n0 Xo js H D (onS env (f env J) fun h J1 => onS env (ix env J1) fun hj J2 => setEnd env J2 k (toVal h) hj) := p
        cases r : f env J with
        | stuck => rw [r] at p; exact p.elim
        | err c fs J1 => rw [r] at p; exact flies_S p
        | ok h J1 =>
          rw [r] at p
          intro x H1 e1 F1 x1
          refine ⟨_, hv, ?_⟩
          refine ⟨Xo, js, env, J1, F1, ?_⟩
          have p : PostS X.K W n0 Xo js H D (onS env (ix env J1) fun hj J2 => setEnd env J2 k (toVal h) hj) := p
          cases r2 : ix env J1 with
          | stuck => rw [r2] at p; exact p.elim
          | err c fs J2 => rw [r2] at p; exact (flies_S (σ := σ) p).later e1
          | ok hj J2 =>
            rw [r2] at p
            intro y H2 e2 F2 y2
            have p : PostS X.K W n0 Xo js H D (setEnd env J2 k (toVal h) hj) := p
            cases hd : toVal h with
            | none => rw [hd] at p; exact p.elim
            | some d =>
              rw [hd] at p
              cases hj with
              | jar _ => exact p.elim
              | new _ => exact p.elim
              | val dj =>
                cases dj with
                | int j =>
                  obtain ⟨ds, vs, hJ, hl, rs⟩ := F2.at ha
                  have p : PostS X.K W n0 Xo js H D (match J2[k]? with
                    | some ds => (match ixN ds.length j with | some m => .nx env (J2.set k (ds.set m d)) | none => .stuck)
                    | none => .stuck) := p
                  rw [hJ] at p
                  have p : PostS X.K W n0 Xo js H D (match ixN ds.length j with | some m => .nx env (J2.set k (ds.set m d)) | none => .stuck) := p
                  cases hm : ixN ds.length j with
                  | none => rw [hm] at p; exact p.elim
                  | some m =>
                    rw [hm] at p
                    have rx := (val_rep x1 hd).ext F1 e2
                    obtain ⟨F3, e3⟩ := F2.write ha (reps_set (i := m) rs rx)
                    exact ⟨a, vs, j, m, rfl, rep_int (K := X.K) (H := H2) (Y := Yf Xo js) y2, hl, by rw [reps_len rs]; exact hm, p _ _ js (.of_ext F3 ((e1.trans e2).trans e3)) F3⟩
                | _ => exact p.elim
end

/-! ### defs -/
def startE (m : Nat) (hs : List HV) : En := hs.map some ++ List.replicate (m - hs.length) none
def outH (n : Nat) (J : Jr) : HV → R HV
  | .jar k => if k < n then .ok (.jar k) (J.take n) else match J[k]? with
    | some ds => .ok (.new ds) (J.take n)
    | none => .stuck
  | h => .ok h (J.take n)
def endR (n : Nat) : RS → R HV
  | .rt h J => if n ≤ J.length then outH n J h else .stuck
  | .nx _ J => if n ≤ J.length then .ok (.val .non) (J.take n) else .stuck
  | .err c fs _ J => if n ≤ J.length then .err c fs (J.take n) else .stuck
  | _ => .stuck
def mkF (m : Nat) (g : SF) : FT := fun hs J => endR J.length (g J.length (startE m hs) J)
section
variable {P : Program} {w : World} {K : PySem.W.Frag} {mg : Str → Option Value} {base : Heap} {Xo : Addr → Prop} {js js' : List Addr} {H H' : Hp} {J J' : Jr} {env : En}
theorem fit_start (F : Fit K Xo js H [] [] J) {N : List Str} : ∀ {hs : List HV} {vs : List V}, HReps K H (Yf Xo js) js hs vs → Fit K Xo js H (start N vs) (startE N.length hs) J := fun {hs vs} r => by
  refine ⟨F.out, F.nd, F.jx, F.len, ?_, F.jar, fun i h e => ?_⟩
  · unfold start startE
    rw [List.length_append, List.length_append, List.length_map, List.length_map, List.length_replicate, List.length_replicate, hreps_len r]
  · unfold startE at e
    by_cases hi : i < hs.length
    · rw [List.getElem?_append_left (by simpa using hi), List.getElem?_map] at e
      have key : ∀ {hs : List HV} {vs : List V} {i : Nat} {h : HV}, HReps K H (Yf Xo js) js hs vs → hs[i]? = some h → ∃ v, vs[i]? = some v ∧ HRep K H (Yf Xo js) js h v := by
        intro hs
        induction hs with
        | nil => intro vs i h r e; simp at e
        | cons z zs ih =>
          intro vs i h r e
          obtain ⟨v, us, e1, h1, h2⟩ := r
          subst e1
          cases i with
          | zero => simp at e; subst e; exact ⟨v, rfl, h1⟩
          | succ i =>
            obtain ⟨u, u1, u2⟩ := ih h2 (i := i) (by simpa using e)
            exact ⟨u, by simpa using u1, u2⟩
      cases q : hs[i]? with
      | none => rw [q] at e; cases e
      | some z =>
        rw [q] at e
        cases e
        obtain ⟨v, h1, h2⟩ := key r q
        refine ⟨v, ?_, h2⟩
        unfold start
        rw [List.getElem?_append_left (by rw [List.length_map, hreps_len r]; exact hi), List.getElem?_map, h1]
        rfl
    · rw [List.getElem?_append_right (by simpa using hi), List.getElem?_replicate] at e
      split at e <;> cases e
theorem take_js (F : Fit K Xo js H [] [] J) (s : Stp J.length js js' H H') : js'.take J.length = js := by
  rw [s.pre, ← F.len, List.take_length]
/-- a def's promise, by its body -/
theorem fn_ok {x qual : Str} {st : Stmt} {f : Addr} {fd : FuncData} {N ps : List Str} {k : Nat} {g : SF} (F : Fun K x qual st f fd) (S : FnScope N ps (defScope st))
    (hb : ∀ (cdv : Value) (A : Around) (outer : List Env) (s : Shared) (H : Hp) (E : XK) (n0 : Nat), Room k (A.deeper (envOfC qual (defScope st) s.heap.objs.size f cdv)) →
      PSs (cxOf (L2.CX P w) P w K mg base N qual (defScope st) f cdv A outer s H E) (defBody st) (tS K (fun cls d _ H => E cls d H) n0 g)) : FnOk P w K mg base (L2.CX P w) (k + 1) f fd ps (spF K ps.length (mkF N.length g)) := by
  refine F.okX S spF_len fun cdv A outer s H vs Q E hr h => ?_
  obtain ⟨Xo, js, J, hs, Fi, hl, hrr, pc⟩ := h
  refine ⟨_, hb cdv A outer s H E J.length hr, Xo, js, startE N.length hs, J, fit_start Fi hrr, ?_⟩
  have pc : PostC K Xo js H Q E (endR J.length (g J.length (startE N.length hs) J)) := pc
  cases r : g J.length (startE N.length hs) J with
  | stuck => rw [r] at pc; exact pc
  | bk e1 J1 => rw [r] at pc; exact pc.elim
  | ct e1 J1 => rw [r] at pc; exact pc.elim
  | nx e1 J1 =>
    rw [r] at pc
    intro σ' H' js' s F'
    have pc : PostC K Xo js H Q E (if J.length ≤ J1.length then .ok (.val .non) (J1.take J.length) else .stuck) := pc
    by_cases hn : J.length ≤ J1.length
    · rw [if_pos hn] at pc
      have G := F'.bare.trim J.length
      rw [take_js Fi s] at G
      exact pc .non H' s.ext ⟨G, mk_non (K := K) (H := H') (Y := Yf Xo js)⟩
    · rw [if_neg hn] at pc; exact pc.elim
  | err c fs e1 J1 =>
    rw [r] at pc
    intro cls od σ' H' js' x s F'
    have pc : PostC K Xo js H Q E (if J.length ≤ J1.length then .err c fs (J1.take J.length) else .stuck) := pc
    by_cases hn : J.length ≤ J1.length
    · rw [if_pos hn] at pc
      have G := F'.bare.trim J.length
      have ej := take_js Fi s
      rw [ej] at G
      obtain ⟨C, c1, c2, d, us, d1, d2, d3, d4⟩ := x
      refine pc cls od H' ⟨C, c1, c2, d, us, d1, d2, d3, ?_⟩ s.ext G
      exact reps_move (fun _ _ e _ => e) (fun a y => .inl (y.elim .inl fun y => .inr (by rw [← ej] at y; exact List.mem_of_mem_take y))) F'.lists _ _ d4
    · rw [if_neg hn] at pc; exact pc.elim
  | rt h J1 =>
    rw [r] at pc
    intro v H' js' s o
    have pc : PostC K Xo js H Q E (if J.length ≤ J1.length then outH J.length J1 h else .stuck) := pc
    by_cases hn : J.length ≤ J1.length
    · rw [if_pos hn] at pc
      have ej := take_js Fi s
      have yy : ∀ a, Yf Xo js a → Yf Xo js' a := fun a y => y.elim .inl fun y => .inr (by rw [← ej] at y; exact List.mem_of_mem_take y)
      cases h with
      | val d =>
        have G := o.1.trim J.length
        rw [ej] at G
        exact pc v H' s.ext ⟨G, rep_move (fun _ _ e _ => e) (fun a y => .inl (yy a y)) o.1.lists _ _ o.2⟩
      | new ds =>
        obtain ⟨q, us, a1, a2, a3, a4, a5⟩ := o
        have G := a4.trim J.length
        rw [ej] at G
        refine pc v H' s.ext ⟨q, us, a1, a2, a3, G, reps_move (fun _ _ e _ => e) (fun a y => .inl ?_) a4.lists _ _ a5⟩
        rcases y with y | y
        · exact .inl y
        · rw [← ej] at y; exact .inr (List.mem_of_mem_take y)
      | jar m =>
        obtain ⟨F', a, ha, e⟩ := o
        have G := F'.trim J.length
        rw [ej] at G
        have pc : PostC K Xo js H Q E (if m < J.length then .ok (.jar m) (J1.take J.length) else match J1[m]? with
          | some ds => .ok (.new ds) (J1.take J.length)
          | none => .stuck) := pc
        by_cases hm : m < J.length
        · rw [if_pos hm] at pc
          exact pc v H' s.ext ⟨G, a, by rw [← ej, List.getElem?_take_of_lt hm]; exact ha, e⟩
        · rw [if_neg hm] at pc
          obtain ⟨ds, us, hJ, hl, rs⟩ := F'.at ha
          rw [hJ] at pc
          have haj : a ∉ js := fun z => by
            obtain ⟨i, hi, ei⟩ := List.getElem_of_mem z
            have h1 : js'[i]? = some a := by
              have : (js'.take J.length)[i]? = some a := by rw [ej, List.getElem?_eq_getElem hi, ei]
              rw [List.getElem?_take_of_lt (by rw [← Fi.len]; exact hi)] at this
              exact this
            obtain ⟨b1, c1⟩ := List.getElem?_eq_some_iff.mp h1
            obtain ⟨b2, c2⟩ := List.getElem?_eq_some_iff.mp ha
            have := (List.getElem_inj F'.nd).mp (c1.trans c2.symm)
            rw [Fi.len] at hi
            omega
          have hnone : H a = none := (s.new a (List.mem_of_getElem? ha)).resolve_left haj
          have yw : ∀ b, Yf (With Xo a) js b → Yf Xo js' b := fun b y => by
            rcases y with (y | y) | y
            · exact .inl y
            · exact .inr (y ▸ List.mem_of_getElem? ha)
            · exact yy b (.inr y)
          refine pc v H' s.ext ⟨a, us, e, hnone, hl, ⟨fun b y => F'.lists b (yw b (.inl y)), G.nd, fun b hb y => ?_, G.len, rfl, fun k b ds' h1 h2 => ?_, fun i h e => by simp at e⟩, reps_move (fun _ _ e _ => e) (fun b y => .inl (yw b y)) F'.lists _ _ rs⟩
          · rcases y with y | y
            · exact G.jx b hb y
            · exact haj (y ▸ hb)
          · have hk : k < J.length := by rw [← Fi.len]; exact (List.getElem?_eq_some_iff.mp h1).1
            rw [← ej, List.getElem?_take_of_lt hk] at h1
            rw [List.getElem?_take_of_lt hk] at h2
            obtain ⟨zs, z1, z2⟩ := F'.jar k b ds' h1 h2
            exact ⟨zs, z1, reps_move (fun _ _ e _ => e) (fun b y => .inl (yw b y)) F'.lists _ _ z2⟩
    · rw [if_neg hn] at pc; exact pc.elim
end
end L2.Pz
set_option Elab.async false
set_option linter.all false
set_option maxRecDepth 100000
set_option maxHeartbeats 4000000
set_option autoImplicit false
namespace PySem.PzW
open Sem (wp)
set_option maxHeartbeats 8000000 in
theorem meets_enumerate_newB1 {v : Value} {o : Obj} {H : Heap → Prop} (B : Begins v o H) :
    Meets (Builtin.«enumerate.__new__» ⟨[.type "enumerate", v], []⟩) (fun _ R s => H s.heap ∧
      R (.ok (.ret (.ref (s.heap.push o).objs.size))) { s with heap := (s.heap.push o).push { cls := .type "enumerate", data := .fields #[.none, .bool false, .ref s.heap.objs.size, rawInt 0, .none, .none] } }) :=
  .of_wp fun prog w A R s h => by
    obtain ⟨hp, g, d, tk, os⟩ := s; obtain ⟨h1, h⟩ := h
    have hsub := sub_enumerate
    have q1 : ∀ {A' : Around} {E : Value → Shared → Prop} {Q : Value → Shared → Prop}, Q (.ref hp.objs.size) ⟨hp.push o, g, d, tk, os⟩ → wpAny (model prog w) A' (pyIter v) Q E ⟨hp, g, d, tk, os⟩ :=
      fun q => B.iter prog w _ _ ⟨hp, g, d, tk, os⟩ _ h1 q
    wp_walk using q1
    refine wpAny_stack_any fun st => wpAny_pure ?_
    split
    · rename_i c _ _ _ _ _
      cases (c == Value.type "enumerate")
      · wp_walk using q1
        exact ⟨_, rfl, h⟩
      · wp_walk using q1
        exact ⟨_, rfl, h⟩
    · wp_walk using q1
      exact ⟨_, rfl, h⟩
section
variable {prog : Program} {w : World} {A : Around} {E : Value → Shared → Prop} {s : Shared}
theorem enum_begins1 {v : Value} {o : Obj} {H : Heap → Prop} {Q : Value → Shared → Prop} (B : Begins v o H) (h1 : H s.heap)
    (h : ∀ h', IsEnum h' (s.heap.objs.size + 1) s.heap.objs.size 0 .none → h'.get? s.heap.objs.size = some o → h'.objs.size = s.heap.objs.size + 2 →
      (∀ b o, s.heap.get? b = some o → h'.get? b = some o) → Q (.ref (s.heap.objs.size + 1)) { s with heap := h' }) :
    wpAny (model prog w) A (call (.type "enumerate") [v]) Q E s := by
  refine callType_new F.called_enumerate (by decide) (F.typeCall_enumerate_1 _) (F.newCall_enumerate_1 _) (fun obj => F.args_object_init_2 obj _) F.entry_enumerate_new
    (meets_enumerate_newB1 B) ⟨h1, ?_⟩
  have hz : (s.heap.push o).objs.size = s.heap.objs.size + 1 := Heap.size_push ..
  show _ ∧ _
  rw [hz]
  have he : IsEnum ((s.heap.push o).push { cls := .type "enumerate", data := .fields #[.none, .bool false, .ref s.heap.objs.size, rawInt 0, .none, .none] }) (s.heap.objs.size + 1) s.heap.objs.size 0 .none := by
    have := Heap.get?_push_size (s.heap.push o) (o := { cls := .type "enumerate", data := .fields #[.none, .bool false, .ref s.heap.objs.size, rawInt 0, .none, .none] }) rfl
    rw [hz] at this; exact this
  refine ⟨⟨_, he, rfl⟩, h _ he (Heap.get?_push_of_some _ (Heap.get?_push_size _ B.free)) (by rw [Heap.size_push, hz]) fun b o x => Heap.get?_push_of_some _ (Heap.get?_push_of_some _ x)⟩
end
end PySem.PzW
namespace L2.Pz
open PySem PySem.Spec PyProof.Rows
/-- pairs of a place and an item; what is walked stands while ok holds -/
def Itp (ok : Hp → Prop) (vs : List V) : It :=
  ⟨fun i H => ok H ∧ i < vs.length, fun i H v H' => ∃ T x, v = .ref T ∧ H T = none ∧ H' = upd H T (.tup [.int (i : Nat), x]) ∧ vs[i]? = some x, fun i H => ok H ∧ i = vs.length⟩
/-- enumerate over an iterator that draws -/
theorem turn_enumD {P : Program} {w : World} {K : PySem.W.Frag} {elts : List Expr} {kk : Nat} {tpos : Pos} {ok : Hp → Prop} {vs : List V} {St' : Nat → Heap → Prop} (e it : Addr)
    (hobj : ∀ i h, St' i h → ∃ o, h.get? it = some o ∧ ∀ v, o.data ≠ .cell v) (hkeep : ∀ i h h', St' i h → (∀ o, h.get? it = some o → h'.get? it = some o) → St' i h')
    (hst : ∀ (X : Cx) (pins : List (Addr × Obj)) (σ : L2.St) (H : Hp) (s : Shared) (i : Nat), X.prog = P → X.w = w → X.K = K → Inv X pins σ H s → ok H → St' i s.heap → X.A.handled = none →
      ∃ (St : Nat → Heap → Prop) (Pv : Nat → Value → Prop) (fp : List Addr), e ∉ fp ∧ St i s.heap ∧ (∀ j h, St j h → St' j h) ∧ (∀ j u, Pv j u → ∃ x, vs[j]? = some x ∧ RelV x u) ∧ Draws X.prog X.w X.A.in1 it fp vs.length Pv St) :
    Turn P w K (.Tuple elts kk tpos) (Itp ok vs) [e, it] e (fun i h => (∃ old, IsEnum h e it ((i : Nat) : Int) old) ∧ St' i h ∧ e ≠ it) where
  mem := by simp
  obj := fun i h st b hb => by
    obtain ⟨⟨old, he⟩, hs, _⟩ := st
    have e' : b = e ∨ b = it := by simpa using hb
    rcases e' with z | z
    · rw [z]; exact ⟨_, he, fun v q => nomatch q⟩
    · rw [z]; exact hobj i h hs
  keep := fun i h h' st k => let ⟨⟨old, he⟩, hs, hne⟩ := st; ⟨⟨old, k e (by simp) _ he⟩, hkeep i h h' hs fun o q => k it (by simp) o q, hne⟩
  item := by
    intro X hP hw hK hc i pins s σ H E I hf st hg
    have hh := I.ok.hd hc
    obtain ⟨⟨old, he⟩, hs', hne⟩ := st
    obtain ⟨St, Pv, fp, hfp, hs, hdown, hv, Dr⟩ := hst X pins σ H s i hP hw hK I hg.1 hs' hh
    subst hP hw hK
    have hel : e < s.heap.objs.size := Heap.lt_size he
    have hil : it < s.heap.objs.size := by obtain ⟨_, q⟩ := Dr.live _ _ hs; exact Heap.lt_size q
    refine wpAny_pyNext_enum_itemD Dr he hs hg.2 hne hfp fun u h' tk hp ho hit' hT hsz hk => ?_
    obtain ⟨x, hx, ru⟩ := hv i u hp
    refine ⟨_, rfl, wpAny_letOwnedTupleGo_enum (s := { s with heap := h', toks := tk + 1 }) ho fun h'' he' sb => ?_⟩
    have hT2 : h''.get? s.heap.objs.size = some { cls := .type "tuple", data := .seq #[.int i tk, u] } := (sb.2 _ (Nat.ne_of_gt hel)).trans hT
    have new : ObjOk X.prog X.w (upd H s.heap.objs.size (.tup [.int (i : Nat), x])) h'' s.heap.objs.size (.tup [.int (i : Nat), x]) :=
      ⟨by show 2 ≤ sizeLine; decide, [.int i tk, u], .cons ⟨_, rfl⟩ (.cons ru .nil), ⟨_, hT2, rfl, _, rfl⟩⟩
    have I1 : Inv X pins σ (upd H s.heap.objs.size (.tup [.int (i : Nat), x])) { s with heap := h'', toks := tk + 1 } :=
      I.turnedNew (ch := [e, it]) (fun b ob hb q => (sb.2 b (fun z => hb (by simp [z]))).trans (hk b ob (fun z => hb (by simp [z])) (fun z => hb (by simp [z])) q)) hf (Nat.le_refl _) new
    refine ⟨.ref s.heap.objs.size, _, I1, rfl, ⟨_, x, rfl, I.hok.fresh (Nat.le_refl _), rfl, hx⟩, ⟨⟨u, ?_⟩, hkeep _ _ _ (hdown _ _ hit') fun o q => (sb.2 it (Ne.symm hne)).trans q, hne⟩, fun b hb => ?_⟩
    · have e1 : ((i + 1 : Nat) : Int) = (i : Int) + 1 := by omega
      rw [e1]; exact he'
    · have hb' : b < s.heap.objs.size := by
        have e' : b = e ∨ b = it := by simpa using hb
        rcases e' with z | z
        · rw [z]; exact hel
        · rw [z]; exact hil
      rw [upd_ne (Nat.ne_of_lt hb')]
      exact (hf b hb).1
  done := by
    intro X hP hw hK hc i pins s σ H E I hf st hg
    have hh := I.ok.hd hc
    obtain ⟨⟨old, he⟩, hs', hne⟩ := st
    obtain ⟨St, Pv, fp, hfp, hs, hdown, hv, Dr⟩ := hst X pins σ H s i hP hw hK I hg.1 hs' hh
    subst hP hw hK
    obtain ⟨f0, f1, f2, f3, f4, f5⟩ := hf it (by simp)
    have hi : i = vs.length := hg.2
    subst hi
    exact wpAny_pyNext_enum_endD Dr he hs fun h' eb => ⟨rfl, I.turned (t' := s.toks) (fun b o hb q => eb b o hb q) f0 f1 f3 f4 f5⟩
  self := fun A i s Q E st h => let ⟨⟨_, he⟩, _⟩ := st; wpAny_pyIter_enum he h
section
variable {X : Cx} {elts : List Expr} {kk : Nat} {tpos : Pos} {e : Expr} {te : TE} {p pos : Pos}
def iEnumT (K : PySem.W.Frag) (tl : TE) : TI := fun σ H R => tl σ H fun x H1 => (∃ a xs, x = .ref a ∧ SqL K H1 a xs ∧ R (Ite K a) H1) ∨ (∃ a xs, x = .ref a ∧ SqT K H1 a xs ∧ R (Itp (fun H => SqT K H a xs) xs) H1) ∨ ∃ z, x = .str z ∧ R (Itp (fun _ => True) (z.cps.toList.map fun c => V.str ⟨#[c]⟩)) H1
theorem tuple_ne {h : Heap} {a it : Addr} {items : Array Value} {i : Nat} (ht : h.IsTuple a items) (hi : h.IsTupleIter it a i) : a ≠ it := by
  intro z
  subst z
  obtain ⟨o, h1, h2, _⟩ := ht
  obtain ⟨o', h1', h2', _⟩ := hi
  rw [h1] at h1'; cases h1'
  rw [h2] at h2'
  injection h2' with e
  exact absurd e (by decide)
theorem pi_enumT (he : PE X e te) (hg : Gl X "enumerate") (hm : X.mg "enumerate" = none) (h1 : starEach [e] X.env = (false, eval e X.env) :: starEach [] X.env) : PI X (.Tuple elts kk tpos) (.Call (.Name "enumerate" p) [e] [] pos) (iEnumT X.K te) := by
  refine ⟨fun pins s σ H R I h => ?_⟩
  refine Call_ (ld_blt I hg hm boot_enumerate (PyProof.Rows.callWith_type1 (one_arg he I h (fun v s1 x H1 I1 r1 q1 => ?_) h1) h1))
  have fin : ∀ (h' : Heap) (J : It) (tn : Nat → Heap → Prop), Turn X.prog X.w X.K (.Tuple elts kk tpos) J [s1.heap.objs.size + 1, s1.heap.objs.size] (s1.heap.objs.size + 1) tn → tn 0 h' → (∀ b o, s1.heap.get? b = some o → h'.get? b = some o) → R J H1 →
      IsEnum h' (s1.heap.objs.size + 1) s1.heap.objs.size 0 .none → wpAny (model X.prog X.w) X.A (pyIter (.ref (s1.heap.objs.size + 1))) (PIE X pins σ (.Tuple elts kk tpos) R) X.xe { s1 with heap := h' } := fun h' J tn T st hk q hen => by
    refine wpAny_pyIter_enum hen ?_
    have I2 : Inv X pins σ H1 { s1 with heap := h' } := I1.kept (t' := s1.toks) hk
    refine ⟨s1.heap.objs.size + 1, [s1.heap.objs.size + 1, s1.heap.objs.size], _, J, H1, rfl, I2, T, st, fun b hb => ?_, q⟩
    have e' : b = s1.heap.objs.size + 1 ∨ b = s1.heap.objs.size := by simpa using hb
    have hle : s1.heap.objs.size ≤ b := by
      rcases e' with z | z
      · rw [z]; exact Nat.le_add_right _ _
      · rw [z]; exact Nat.le_refl _
    exact I1.fpOk hle (I1.hok.fresh hle)
  rcases q1 with ⟨a, xs, ex, hq, q⟩ | ⟨a, xs, ex, hq, q⟩ | ⟨z, ex, q⟩
  · subst ex
    cases r1
    obtain ⟨its, rv, p', hz⟩ := I1.list hq
    exact call_enumerate_list p'.isList fun h' he hit hsz hk => fin h' _ _ (turn_enum a (s1.heap.objs.size + 1) s1.heap.objs.size) ⟨⟨.none, he⟩, hit, Nat.succ_ne_self _⟩ hk q he
  · subst ex
    cases r1
    obtain ⟨its, rv, p', hz⟩ := I1.tuple hq
    refine PzW.enum_begins1 (begins_tuple a its.toArray) (show s1.heap.IsTuple a its.toArray from p') fun h' he hit hsz hk => ?_
    have hlt : a < s1.heap.objs.size := p'.lt
    refine fin h' _ _ (turn_enumD (ok := fun H => SqT X.K H a xs) (vs := xs) (St' := fun i h => h.IsTupleIter s1.heap.objs.size a i) (s1.heap.objs.size + 1) s1.heap.objs.size ?_ ?_ ?_)
      ⟨⟨.none, he⟩, ⟨_, hit, rfl, rfl⟩, Nat.succ_ne_self _⟩ hk q he
    · intro i h st
      obtain ⟨o, ho, hc, hd⟩ := st
      exact ⟨o, ho, fun v q => by rw [hd] at q; cases q⟩
    · intro i h h' st k
      exact st.at k
    · intro X' pins' σ' H' s' i hP hw hK I' hok st hh
      obtain ⟨its', rv', p2, hz'⟩ := I'.tuple (a := a) (xs := xs) (by rw [hK]; exact hok)
      refine ⟨fun i h => h.IsTupleIter s1.heap.objs.size a i ∧ h.IsTuple a its'.toArray, fun i v => its'.toArray[i]? = some v, [s1.heap.objs.size, a], ?_, ⟨st, p2⟩, fun _ _ z => z.1, ?_, ?_⟩
      · intro z
        have z' : s1.heap.objs.size + 1 = s1.heap.objs.size ∨ s1.heap.objs.size + 1 = a := by simpa using z
        rcases z' with z | z
        · exact absurd z (Nat.succ_ne_self _)
        · exact absurd hlt (by rw [← z]; exact Nat.not_lt.mpr (Nat.le_succ _))
      · intro i u hu
        have hu' : its'[i]? = some u := by simpa using hu
        have hi : i < xs.length := by rw [rv'.length]; exact (List.getElem?_eq_some_iff.mp hu').1
        obtain ⟨u', e1, r⟩ := rv'.get (List.getElem?_eq_getElem hi)
        rw [hu'] at e1; cases e1
        exact ⟨_, List.getElem?_eq_getElem hi, r⟩
      · have := Draws.tuple (prog := X'.prog) (w := X'.w) (A := X'.A.in1) (show X'.A.in1.handled = none from hh) s1.heap.objs.size a (tuple_ne (show s'.heap.IsTuple a its'.toArray from p2) st) its'.toArray
        have el : its'.toArray.size = xs.length := by rw [List.size_toArray, rv'.length]
        rw [el] at this
        exact this
  · subst ex
    obtain ⟨t, rfl⟩ := r1
    refine PzW.enum_begins1 (begins_text z t) trivial fun h' he hit hsz hk => ?_
    refine fin h' _ _ (turn_enumD (ok := fun _ => True) (vs := z.cps.toList.map fun c => V.str ⟨#[c]⟩) (St' := fun i h => h.IsStrIter s1.heap.objs.size (strIterType z) z t i) (s1.heap.objs.size + 1) s1.heap.objs.size ?_ ?_ ?_)
      ⟨⟨.none, he⟩, ⟨_, hit, rfl, rfl⟩, Nat.succ_ne_self _⟩ hk q he
    · intro i h st
      obtain ⟨o, ho, hc, hd⟩ := st
      exact ⟨o, ho, fun v q => by rw [hd] at q; cases q⟩
    · intro i h h' st k
      obtain ⟨o, ho, r⟩ := st
      exact ⟨o, k o ho, r⟩
    · intro X' pins' σ' H' s' i hP hw hK I' hok st hh
      refine ⟨_, fun i v => ∃ c u, z.cps[i]? = some c ∧ v = .str ⟨#[c]⟩ u, [s1.heap.objs.size], by simp, st, fun _ _ z => z, ?_, ?_⟩
      · rintro i u ⟨c, u', hc, rfl⟩
        exact ⟨.str ⟨#[c]⟩, by rw [List.getElem?_map]; simp [hc], ⟨u', rfl⟩⟩
      · have e0 : (z.cps.toList.map fun c => V.str ⟨#[c]⟩).length = z.cps.size := by simp
        rw [e0]
        exact Draws.text (A := X'.A.in1) (show X'.A.in1.handled = none from hh) _ z t
end
/-! ### enumerate over data -/
def pairUp : Nat → List D → List D
  | _, [] => []
  | i, d :: ds => .tup [.int (i : Nat), d] :: pairUp (i + 1) ds
theorem pairUp_len : ∀ (ds : List D) (k : Nat), (pairUp k ds).length = ds.length
  | [], _ => rfl
  | d :: ds, k => by unfold pairUp; rw [List.length_cons, List.length_cons, pairUp_len ds]
theorem pairUp_get : ∀ (ds : List D) (k i : Nat) (d : D), ds[i]? = some d → (pairUp k ds)[i]? = some (.tup [.int ((k + i : Nat) : Int), d])
  | [], _, _, _, h => by simp at h
  | c :: ds, k, 0, d, h => by simp at h; subst h; rfl
  | c :: ds, k, i + 1, d, h => by
    have := pairUp_get ds (k + 1) i d (by simpa using h)
    unfold pairUp
    rw [List.getElem?_cons_succ, this]
    congr 4
    omega
def iEnumD (f : EF) : IF := fun env J => (f env J).bind fun h J1 => match itemsOf h with
  | some ds => .ok (pairUp 0 ds) J1
  | none => .stuck
section
variable {K : PySem.W.Frag} {H : Hp} {Y : Addr → Prop}
theorem pair_rep {Y' : Addr → Prop} {i : Nat} {d : D} {x : V} {H1 : Hp} {T : Addr} (hl : ∀ a, Y' a → ∃ xs, H1 a = some (.lst xs)) (hT : H1 T = none) (r : Rep K H1 Y' d x) : Rep K (upd H1 T (.tup [.int (i : Nat), x])) Y' (.tup [.int (i : Nat), d]) (.ref T) :=
  rep_tup.mpr ⟨T, _, rfl, .of upd_same, reps_cons.mpr ⟨_, _, rfl, mk_int, reps_cons.mpr ⟨_, _, rfl, rep_move (fun a o e _ => same_upd hT _ _ e) (fun _ y => .inl y) hl _ _ r, reps_nil.mpr rfl⟩⟩⟩
theorem walkD_of {J : It} {ds : List D} {n : Nat} {G : Hp → Prop} {Yl : Nat → Hp → V → Hp → Prop} (hn : n = ds.length) (w : Walk J n G Yl) (hG : ∀ H1, Keeps Y H H1 → G H1)
    (hY : ∀ Y' : Addr → Prop, (∀ a, Y' a → Y a ∨ H a = none) → ∀ i H1 x H', i < ds.length → Keeps Y H H1 → Lists H1 Y' → Yl i H1 x H' → Same H1 H' ∧ ∃ d, ds[i]? = some d ∧ Rep K H' Y' d x) : WalkD K Y H J ds := by
  subst hn
  exact ⟨G, Yl, w, hG, hY⟩
theorem walkD_itp {ok : Hp → Prop} {vs : List V} {ds : List D} (hl : Lists H Y) (hok : ∀ H1, Keeps Y H H1 → ok H1) (r : Reps K H Y ds vs) : WalkD K Y H (Itp ok vs) (pairUp 0 ds) := by
  have hlen := reps_len r
  refine walkD_of (n := vs.length) (G := ok) (Yl := fun i H v H' => ∃ T x, v = .ref T ∧ H T = none ∧ H' = upd H T (.tup [.int (i : Nat), x]) ∧ vs[i]? = some x) (by rw [pairUp_len, hlen]) ⟨fun i H hi h => ⟨h, hi⟩, fun H h => ⟨h, rfl⟩, fun i H x H' _ _ y => y⟩ hok ?_
  rintro Y' hY i H1 x H' hi k l ⟨T, x', rfl, hT, rfl, hx⟩
  obtain ⟨d, h1, h2⟩ := reps_at r hx
  have := pairUp_get ds 0 i d h1
  rw [Nat.zero_add] at this
  exact ⟨same_upd hT, _, this, pair_rep l hT (rep_move k hY hl _ _ h2)⟩
theorem walkD_ite {a : Addr} {vs : List V} {ds : List D} (hl : Lists H Y) (s : LsY K H Y a vs) (r : Reps K H Y ds vs) : WalkD K Y H (Ite K a) (pairUp 0 ds) := by
  have hlen := reps_len r
  refine walkD_of (n := vs.length) (G := fun H => SqL K H a vs) (Yl := fun i H v H' => ∃ T x, v = .ref T ∧ H T = none ∧ H' = upd H T (.tup [.int (i : Nat), x]) ∧ vs[i]? = some x) (by rw [pairUp_len, hlen])
    ⟨fun i H hi h => ⟨vs, vs[i], h, List.getElem?_eq_getElem hi⟩, fun H h => ⟨vs, h, Nat.le_refl _⟩, fun i H x H' _ h y => ?_⟩ (fun H1 k => (lsY_move (Y' := Y) k (fun _ y => .inl y) s).sq) ?_
  · obtain ⟨T, x', e1, e2, e3, e4⟩ := y
    exact ⟨T, x', e1, e2, e3, e4 vs h⟩
  · rintro Y' hY i H1 x H' hi k l ⟨T, x', rfl, hT, rfl, hx⟩
    obtain ⟨d, h1, h2⟩ := reps_at r hx
    have := pairUp_get ds 0 i d h1
    rw [Nat.zero_add] at this
    exact ⟨same_upd hT, _, this, pair_rep l hT (rep_move k hY hl _ _ h2)⟩
theorem reps_chars {z : Str} : Reps K H Y (chars z) (z.cps.toList.map fun c => V.str ⟨#[c]⟩) := by
  unfold chars
  induction z.cps.toList with
  | nil => exact reps_nil.mpr rfl
  | cons c r ih => exact reps_cons.mpr ⟨_, _, rfl, mk_str, ih⟩
end
section
variable {X : Cx} {W : WX} {e : Expr} {f : EF} {p pos tpos : Pos} {elts : List Expr} {kk : Nat}
theorem pw_enum (hg : Gl X "enumerate") (hm : X.mg "enumerate" = none) (he : PE X e (tD X.K W f)) (h1 : starEach [e] X.env = (false, eval e X.env) :: starEach [] X.env) : PI X (.Tuple elts kk tpos) (.Call (.Name "enumerate" p) [e] [] pos) (tW X.K W (iEnumD f)) := pi_mono (pi_enumT he hg hm h1) fun σ H Q ⟨Xo, js, env, J, F, p⟩ => by
  refine ⟨Xo, js, env, J, F, ?_⟩
  unfold iEnumD at p
  cases hf : f env J with
  | stuck => rw [hf] at p; exact p.elim
  | err c fs J1 => rw [hf] at p; exact p
  | ok h J1 =>
    rw [hf] at p
    intro x H1 e1 F1 x1
    have p : PostW X.K W Xo js H σ env Q (match itemsOf h with
      | some ds => .ok (pairUp 0 ds) J1
      | none => .stuck) := p
    have lst : ∀ ds, norm h = .val (.lst ds) → itemsOf h = some ds → (∃ a xs, x = .ref a ∧ SqL X.K H1 a xs ∧ Q (Ite X.K a) H1) := fun ds hn hi => by
      rw [hi] at p
      rw [hn] at x1
      obtain ⟨a, vs, e, s, r⟩ := rep_lst (K := X.K) (H := H1) (Y := Yf Xo js).mp x1
      exact ⟨a, vs, e, s.sq, p _ _ e1 F1 (walkD_ite F1.lists s r)⟩
    cases h with
    | jar k => exact p.elim
    | new ds => exact .inl (lst ds rfl rfl)
    | val d =>
      cases d with
      | lst ds => exact .inl (lst ds rfl rfl)
      | tup ds =>
        obtain ⟨a, vs, e, s, r⟩ := rep_tup (K := X.K) (H := H1) (Y := Yf Xo js).mp x1
        exact .inr (.inl ⟨a, vs, e, s, p _ _ e1 F1 (walkD_itp F1.lists (fun H2 k => sqT_move k F1.lists s) r)⟩)
      | str z => exact .inr (.inr ⟨z, rep_str (K := X.K) (H := H1) (Y := Yf Xo js) x1, p _ _ e1 F1 (walkD_itp F1.lists (fun _ _ => trivial) reps_chars)⟩)
      | non => exact p.elim
      | bl b => exact p.elim
      | int b => exact p.elim
end

/-! ### calls by keywords alone -/
section
variable {X : Cx} {CX : CXT} {k : Nat} {f : Addr} {fd : FuncData} {ps ks : List Str} {sp : Sp} {E : XK} {x : Str} {p pos : Pos} {kws : List Keyword} {tk : TA} {g : List Value → List Value → List Value} {gV : List V → List V → List V}
theorem pe_callK0 (F : FnOk X.prog X.w X.K X.mg X.base CX k f fd ps sp) (hr : Room k X.A) (hg : Gl X x) (hm : X.mg x = some (.ref f)) (hk : PySem.W.keepIn X.K (.ref f) = true) (hb : KBinds X.K fd ps ks g gV) (hx : Passes CX X E)
    (hkw : PK X kws tk) (hall : (backToKw pos (keywordEach kws X.env)).all (·.1.isSome) = true) (hks : (backToKw pos (keywordEach kws X.env)).filterMap (·.1) = ks)
    (hdb : (x == ("__debug__" : Str)) = false) (hpl : ((backTo pos (starEach [] X.env)).any (·.1) || (backToKw pos (keywordEach kws X.env)).any (·.1.isNone)) = false) :
    PE X (.Call (.Name x p) [] kws pos) (fun σ H Q => tk σ H fun zs H2 => sp (gV [] zs) H2 Q E) := by
  refine ⟨fun pins s σ H Q I h => ?_⟩
  refine wpAny_Call_Name_kw (ld_glob I hg hm ?_ hdb)
  refine PySem.W.callWith_KW0 (h₀ := X.base) I.ok.mod.kin hk hall (thn (hkw.run pos pins s σ H _ I h) fun ws s2 ⟨zs, H2, I2, rz, q2⟩ => ⟨I2.kIn, ?_⟩) hpl
  rw [hks]
  exact run_fnk (us := []) (vs := []) F hr hb hx I2 .nil rz q2
end
/-- the arguments by keyword put in the parameters' order -/
def permute {α : Type} (ix : List Nat) (xs : List α) : List α := ix.filterMap fun i => xs[i]?
def eCallK (F : FT) (ix : List Nat) (fs : List EF) : EF := fun env J => (eArgs fs env J).bind fun hs J1 => F (permute ix hs) J1
section
variable {X : Cx} {K : PySem.W.Frag} {H : Hp} {Y : Addr → Prop} {js : List Addr} {W : WX} {fs : List EF}
theorem hreps_get : ∀ {hs : List HV} {vs : List V} {i : Nat}, HReps K H Y js hs vs → (∀ h, hs[i]? = some h → ∃ v, vs[i]? = some v ∧ HRep K H Y js h v) ∧ (hs[i]? = none → vs[i]? = none)
  | [], vs, i, r => by unfold HReps at r; subst r; exact ⟨fun h e => by simp at e, fun _ => by simp⟩
  | z :: zs, vs, 0, r => by
    obtain ⟨v, us, e, h1, h2⟩ := r
    subst e
    exact ⟨fun h e => by simp at e; subst e; exact ⟨v, rfl, h1⟩, fun e => by simp at e⟩
  | z :: zs, vs, i + 1, r => by
    obtain ⟨v, us, e, h1, h2⟩ := r
    subst e
    simpa using hreps_get (i := i) h2
theorem hreps_permute {hs : List HV} {vs : List V} (r : HReps K H Y js hs vs) : ∀ ix : List Nat, HReps K H Y js (permute ix hs) (permute ix vs)
  | [] => rfl
  | i :: ix => by
    have ih := hreps_permute r ix
    have q := hreps_get (i := i) r
    unfold permute at ih ⊢
    cases e : hs[i]? with
    | none => rw [List.filterMap_cons_none e, List.filterMap_cons_none (q.2 e)]; exact ih
    | some h =>
      obtain ⟨v, e1, h1⟩ := q.1 h e
      rw [List.filterMap_cons_some e, List.filterMap_cons_some e1]
      exact ⟨v, _, rfl, h1, ih⟩
theorem permute_len {α : Type} {xs : List α} : ∀ ix : List Nat, (∀ i ∈ ix, i < xs.length) → (permute ix xs).length = ix.length
  | [], _ => rfl
  | i :: ix, h => by
    have ih := permute_len ix fun j hj => h j (List.mem_cons_of_mem _ hj)
    unfold permute at ih ⊢
    rw [List.filterMap_cons_some (List.getElem?_eq_getElem (h i List.mem_cons_self)), List.length_cons, List.length_cons, ih]
theorem callK_read {n : Nat} {F : FT} {t : TA} {ix : List Nat} (hn : ∀ i ∈ ix, i < fs.length) (hx : ix.length = n) (m : ∀ σ H Q, tH X.K W fs σ H Q → t σ H Q) {σ : L2.St} {H : Hp} {Q : VK} {E : XK} (hE : ∀ cls od H, W cls od σ H → E cls od H) (w : tN X.K W (eCallK F ix fs) σ H Q) :
    t σ H fun vs H1 => spF X.K n F (permute ix vs) H1 Q E := by
  obtain ⟨Xo, js, env, J, Fi, p⟩ := w
  refine m _ _ _ ⟨Xo, js, env, J, Fi, ?_⟩
  unfold eCallK at p
  cases hf : eArgs fs env J with
  | stuck => rw [hf] at p; exact p.elim
  | err c fs J1 => rw [hf] at p; exact p
  | ok hs J1 =>
    rw [hf] at p
    intro vs H1 e1 F1 r1
    have hl : (permute ix hs).length = n := by rw [permute_len ix (by rw [eArgs_len hf]; exact hn), hx]
    refine ⟨Xo, js, J1, permute ix hs, F1.bare, hl, hreps_permute r1 ix, ?_⟩
    have p : PostN X.K W Xo js H σ env Q (F (permute ix hs) J1) := p
    cases hr : F (permute ix hs) J1 with
    | stuck => rw [hr] at p; exact p.elim
    | err c fs J2 => rw [hr] at p; exact fun cls od H2 x e2 G => hE _ _ _ (p cls od H2 x (e1.trans e2) (F1.renew e2 (fun _ h => .inl h) G))
    | ok h J2 =>
      rw [hr] at p
      intro v H2 e2 o
      refine p v H2 (e1.trans e2) ?_
      cases h with
      | val d => exact ⟨F1.renew e2 (fun _ h => .inl h) o.1, o.2⟩
      | jar k => exact ⟨F1.renew e2 (fun _ h => .inl h) o.1, o.2⟩
      | new ds =>
        obtain ⟨q, us, a1, a2, a3, a4, a5⟩ := o
        exact ⟨q, us, a1, none_back e1 F1.lists a2, a3, F1.renew e2 (fun a h => h.elim .inl fun z => .inr (z ▸ a2)) a4, a5⟩
/-- the keywords' values -/
theorem pk_nilD : PK X [] (tH X.K W []) := ⟨fun pos pins s σ H Q I ⟨Xo, js, env, J, F, p⟩ => pk_nil.run pos pins s σ H Q I (p [] H .refl F rfl)⟩
theorem pk_consD {e : Expr} {f : EF} {nm : Option Str} {kpos : Pos} {kws : List Keyword} (ha : PE X e (tD X.K W f)) (hb : PK X kws (tH X.K W fs)) : PK X (⟨nm, e, kpos⟩ :: kws) (tH X.K W (f :: fs)) :=
  ⟨fun pos pins s σ H Q I ⟨Xo, js, env, J, F, p⟩ => (pk_cons ha hb).run pos pins s σ H Q I (by
    refine ⟨Xo, js, env, J, F, ?_⟩
    unfold eArgs at p
    cases hf : f env J with
    | stuck => rw [hf] at p; exact p.elim
    | err c fs J1 => rw [hf] at p; exact p
    | ok h J1 =>
      rw [hf] at p
      intro x H1 e1 F1 x1
      refine ⟨Xo, js, env, J1, F1, ?_⟩
      have p : PostH X.K W Xo js H σ env Q ((eArgs fs env J1).bind fun hs J2 => .ok (norm h :: hs) J2) := p
      cases hg : eArgs fs env J1 with
      | stuck => rw [hg] at p; exact p.elim
      | err c fs J2 => rw [hg] at p; exact p.later e1
      | ok ds J2 =>
        rw [hg] at p
        intro vs H2 e2 F2 r2
        exact p (x :: vs) H2 (e1.trans e2) F2 ⟨x, vs, rfl, x1.ext F1 e2, r2⟩)⟩
theorem vals_permute {vs : List V} {us : List Value} (r : Vals vs us) : ∀ ix : List Nat, Vals (permute ix vs) (permute ix us)
  | [] => .nil
  | i :: ix => by
    have ih := vals_permute r ix
    unfold permute at ih ⊢
    cases e : vs[i]? with
    | none => rw [List.filterMap_cons_none e, List.filterMap_cons_none (Vals.none_of r e)]; exact ih
    | some v =>
      obtain ⟨u, e1, h1⟩ := r.get e
      rw [List.filterMap_cons_some e, List.filterMap_cons_some e1]
      exact .cons h1 ih
/-- how such a call binds -/
theorem kbinds_mk {K : PySem.W.Frag} {x qual : Str} {st : Stmt} {f : Addr} {fd : FuncData} {ps ks : List Str} {ix : List Nat} (F : Fun K x qual st f fd)
    (h : ∀ (kV doc pm : Value) (an : Option Addr) (cdv ct : Value) (ws : List Value), (permute ix ws).length = ps.length → bindArgs (PySem.W.fnOf x qual (defArgs st) (defBody st) (defScope st) .none kV doc pm an cdv ct) ⟨[], ks.zip ws⟩ = pure (ps.zip (permute ix ws))) (hne : ps ≠ []) :
    KBinds K fd ps ks (fun us ws => if us.isEmpty then permute ix ws else []) (fun us ws => if us.isEmpty then permute ix ws else []) := by
  obtain ⟨oc, od, kV, doc, pm, an, cdv, ct, osl, rfl, lk, hcd⟩ := F.ex
  refine ⟨fun s us ws _ hl => ?_, fun {vs us zs ws} r1 r2 => ?_⟩
  · cases us with
    | nil => exact .of_eq (h kV doc pm an cdv ct ws hl)
    | cons u us =>
      have : ([] : List Value).length = ps.length := hl
      cases ps with
      | nil => exact (hne rfl).elim
      | cons _ _ => cases this
  · cases r1 with
    | nil => exact vals_permute r2 ix
    | cons _ _ => exact .nil
variable {k : Nat} {g : Addr} {fd : FuncData} {ps ks : List Str} {x : Str} {p pos : Pos} {F : FT} {E : XK} {kws : List Keyword} {ix : List Nat}
theorem pn_callK (G : FnOk X.prog X.w X.K X.mg X.base (L2.CX X.prog X.w) k g fd ps (spF X.K ps.length F)) (tk : Takes X (fun cls d _ H => E cls d H)) (hr : Room k X.A) (hg : Gl X x) (hm : X.mg x = some (.ref g)) (hk : PySem.W.keepIn X.K (.ref g) = true)
    (hb : KBinds X.K fd ps ks (fun us ws => if us.isEmpty then permute ix ws else []) (fun us ws => if us.isEmpty then permute ix ws else [])) (hkw : PK X kws (tH X.K (fun cls d _ H => E cls d H) fs)) (hn : ∀ i ∈ ix, i < fs.length) (hx : ix.length = ps.length)
    (hall : (backToKw pos (keywordEach kws X.env)).all (·.1.isSome) = true) (hks : (backToKw pos (keywordEach kws X.env)).filterMap (·.1) = ks)
    (hdb : (x == ("__debug__" : Str)) = false) (hpl : ((backTo pos (starEach [] X.env)).any (·.1) || (backToKw pos (keywordEach kws X.env)).any (·.1.isNone)) = false) :
    PE X (.Call (.Name x p) [] kws pos) (tN X.K (fun cls d _ H => E cls d H) (eCallK F ix fs)) :=
  pe_mono (pe_callK0 G hr hg hm hk hb (passes_call tk fun _ _ _ _ h => h) hkw hall hks hdb hpl) fun σ H Q w => callK_read (E := E) hn hx (fun _ _ _ z => z) (fun _ _ _ z => z) w
end
end L2.Pz
set_option Elab.async false
set_option linter.all false
set_option maxRecDepth 100000
set_option maxHeartbeats 4000000
set_option autoImplicit false
namespace L2.Pz
open PySem PySem.Spec PyProof.Rows
theorem hu200 {k : Nat} {A : Around} (hr : Room k A) : A.units + 200 < cLine := by
  have := hr.un
  omega
def eNorm (f : EF) : EF := fun env J => (f env J).bind fun h J1 => .ok (norm h) J1
def rgBig (a b : Int) : Bool := rgOk a && (rgOk b && decide ((b - a).toNat ≤ 16777216))
def eRg (mk : List D → HV) (it : IF) : EF := fun env J => (it env J).bind fun ds J1 => if ds.length ≤ 16777216 then .ok (mk ds) J1 else .stuck
section
variable {X : Cx} {W : WX} {e a b : Expr} {f g : EF} {p q pos : Pos}
theorem toN' (h : PE X e (tD X.K W f)) : PE X e (tN X.K W (eNorm f)) := pe_mono h fun σ H Q ⟨Xo, js, env, J, F, p⟩ => by
  refine ⟨Xo, js, env, J, F, ?_⟩
  unfold eNorm at p
  cases r : f env J with
  | ok z J1 =>
    rw [r] at p
    intro v H' e1 G x
    have p : PostN X.K W Xo js H σ env Q (.ok (norm z) J1) := p
    cases z with
    | val d => exact p v H' e1 ⟨G, x⟩
    | jar k => exact p v H' e1 ⟨G, x⟩
    | new ds => exact p v H' e1 ⟨G, x⟩
  | err c fs J1 => rw [r] at p; exact p
  | stuck => rw [r] at p; exact p
/-- a comparison with None, as a test -/
theorem pt_ofN (h : PT X e (tB (fun σ H Q => tN X.K W f σ H Q))) : PT X e (tT X.K W fun env J => toB (f env J)) := pt_mono h fun σ H Q w => toB_read w
theorem pt_isN {j pos'} (ha : PE X a (tD X.K W f)) : PT X (.Compare a [.Is] [.Constant .none j pos'] pos) (tT X.K W fun env J => toB (eUn dIsN f env J)) :=
  pt_mono (pt_cmp (pc_isN ha) rfl) fun σ H Q w => un_read (ta := tD X.K W f) (r := fun x H Q => Q (.bl (decide (x = .non))) H) (fo := dIsN) (fun H Y x d z Q hl hx hz q => by
    cases d with
    | non => cases hz; rw [top_non hx]; exact q _ _ (po_val mk_bl)
    | bl b => cases hz; rw [top_bl hx]; exact q _ _ (po_val mk_bl)
    | int b => cases hz; rw [top_int hx]; exact q _ _ (po_val mk_bl)
    | str b => cases hz; rw [top_str hx]; exact q _ _ (po_val mk_bl)
    | tup ds => obtain ⟨a, vs, rfl, _⟩ := top_tup hx; cases hz; exact q _ _ (po_val mk_bl)
    | lst ds => obtain ⟨a, vs, rfl, _⟩ := hx; cases hz; exact q _ _ (po_val mk_bl)) (fun _ _ _ z => z) (toB_read w)
theorem pt_notNn {j pos'} (ha : PE X a (tD X.K W f)) : PT X (.Compare a [.IsNot] [.Constant .none j pos'] pos) (tT X.K W fun env J => toB (eUn dNotN f env J)) :=
  pt_mono (pt_cmp (pc_notN ha) rfl) fun σ H Q w => un_read (ta := tD X.K W f) (r := fun x H Q => Q (.bl (!decide (x = .non))) H) (fo := dNotN) (fun H Y x d z Q hl hx hz q => by
    cases d with
    | non => cases hz; rw [top_non hx]; exact q _ _ (po_val mk_bl)
    | bl b => cases hz; rw [top_bl hx]; exact q _ _ (po_val mk_bl)
    | int b => cases hz; rw [top_int hx]; exact q _ _ (po_val mk_bl)
    | str b => cases hz; rw [top_str hx]; exact q _ _ (po_val mk_bl)
    | tup ds => obtain ⟨a, vs, rfl, _⟩ := top_tup hx; cases hz; exact q _ _ (po_val mk_bl)
    | lst ds => obtain ⟨a, vs, rfl, _⟩ := hx; cases hz; exact q _ _ (po_val mk_bl)) (fun _ _ _ z => z) (toB_read w)
theorem reps_rg {K : PySem.W.Frag} {H : Hp} {Y : Addr → Prop} (a : Int) (n : Nat) : Reps K H Y (rgD a n) ((List.range n).map fun i => V.int (a + (i : Nat))) := by
  unfold rgD
  induction List.range n with
  | nil => exact reps_nil.mpr rfl
  | cons i r ih => exact reps_cons.mpr ⟨_, _, rfl, mk_int, ih⟩
/-- list(range(n)), tuple(range(n)), with one bound or two -/
theorem rg1_read {mk : List D → HV} {σ : L2.St} {H : Hp} {Q : VK} (w : tN X.K W (eRg mk (iRange1 f)) σ H Q) (fin : ∀ (Xo : Addr → Prop) (js : List Addr) (H1 : Hp) (q : Addr), Lists H1 (Yf Xo js) → H1 q = none → ∀ a b, ∃ o v, PureOut X.K (Yf Xo js) H1 (upd H1 q o) (mk (rgD a (b - a).toNat)) v ∧ ∀ Q : VK, Q v (upd H1 q o) → Q (.ref q) (upd H1 q o)) : True := trivial
end
section
variable {X : Cx} {W : WX} {a b : Expr} {f g : EF} {p q pos : Pos}
theorem rgok_of {n : Int} (h : rgOk n = true) (hb : (rgD 0 n.toNat).length ≤ 16777216) : RgOk 0 n := by
  unfold rgOk at h
  rw [Bool.and_eq_true] at h
  have h1 : -(2 ^ 62) ≤ n := of_decide_eq_true h.1
  have h2 : n < 2 ^ 62 := of_decide_eq_true h.2
  unfold rgD at hb
  rw [List.length_map, List.length_range] at hb
  exact ⟨by omega, by omega, h1, h2, by omega⟩
theorem rgok2_of {m n : Int} (h : (rgOk m && rgOk n) = true) (hb : (rgD m (n - m).toNat).length ≤ 16777216) : RgOk m n := by
  unfold rgOk at h
  rw [Bool.and_eq_true, Bool.and_eq_true, Bool.and_eq_true] at h
  have h1 : -(2 ^ 62) ≤ m := of_decide_eq_true h.1.1
  have h2 : m < 2 ^ 62 := of_decide_eq_true h.1.2
  have h3 : -(2 ^ 62) ≤ n := of_decide_eq_true h.2.1
  have h4 : n < 2 ^ 62 := of_decide_eq_true h.2.2
  unfold rgD at hb
  rw [List.length_map, List.length_range] at hb
  exact ⟨h1, h2, h3, h4, by omega⟩
theorem rg1_go {σ : L2.St} {H : Hp} {Q : VK} {mk : List D → HV} (w : tN X.K W (eRg mk (iRange1 f)) σ H Q) (k : Int → Int → Hp → Prop)
    (fin : ∀ (Xo : Addr → Prop) (js : List Addr) (env : En) (J : Jr) (H1 : Hp) (n : Int), Fit X.K Xo js H1 σ env J → Ext js H H1 → rgOk n = true → (rgD 0 n.toNat).length ≤ 16777216 → PostN X.K W Xo js H σ env Q (.ok (mk (rgD 0 n.toNat)) J) → k 0 n H1) : tRg1 (tD X.K W f) σ H k := by
  obtain ⟨Xo, js, env, J, F, p⟩ := w
  refine ⟨Xo, js, env, J, F, ?_⟩
  unfold eRg iRange1 at p
  cases hf : f env J with
  | stuck => rw [hf] at p; exact p.elim
  | err c fs J1 => rw [hf] at p; exact p
  | ok h J1 =>
    rw [hf] at p
    intro x H1 e1 F1 x1
    cases h with
    | jar k => exact p.elim
    | new ds => exact p.elim
    | val d =>
      cases d with
      | int n =>
        refine ⟨n, rep_int (K := X.K) (H := H1) (Y := Yf Xo js) x1, ?_⟩
        have p : PostN X.K W Xo js H σ env Q ((if rgOk n = true then R.ok (rgD 0 n.toNat) J1 else .stuck).bind fun ds J1 => if ds.length ≤ 16777216 then .ok (mk ds) J1 else .stuck) := p
        by_cases h1 : rgOk n = true
        · rw [if_pos h1] at p
          have p : PostN X.K W Xo js H σ env Q (if (rgD 0 n.toNat).length ≤ 16777216 then .ok (mk (rgD 0 n.toNat)) J1 else .stuck) := p
          by_cases h2 : (rgD 0 n.toNat).length ≤ 16777216
          · rw [if_pos h2] at p
            exact fin Xo js env J1 H1 n F1 e1 h1 h2 p
          · rw [if_neg h2] at p; exact p.elim
        · rw [if_neg h1] at p; exact p.elim
      | _ => exact p.elim
theorem rg2_go {σ : L2.St} {H : Hp} {Q : VK} {mk : List D → HV} (w : tN X.K W (eRg mk (iRange2 f g)) σ H Q) (k : Int → Int → Hp → Prop)
    (fin : ∀ (Xo : Addr → Prop) (js : List Addr) (env : En) (J : Jr) (H1 : Hp) (m n : Int), Fit X.K Xo js H1 σ env J → Ext js H H1 → (rgOk m && rgOk n) = true → (rgD m (n - m).toNat).length ≤ 16777216 → PostN X.K W Xo js H σ env Q (.ok (mk (rgD m (n - m).toNat)) J) → k m n H1) : tRg2 (tD X.K W f) (tD X.K W g) σ H k := by
  obtain ⟨Xo, js, env, J, F, p⟩ := w
  refine ⟨Xo, js, env, J, F, ?_⟩
  unfold eRg iRange2 at p
  cases hf : f env J with
  | stuck => rw [hf] at p; exact p.elim
  | err c fs J1 => rw [hf] at p; exact p
  | ok h J1 =>
    rw [hf] at p
    intro x H1 e1 F1 x1
    refine ⟨Xo, js, env, J1, F1, ?_⟩
    have p : PostN X.K W Xo js H σ env Q (((g env J1).bind fun h2 J2 => rg2End J2 h h2).bind fun ds J1 => if ds.length ≤ 16777216 then .ok (mk ds) J1 else .stuck) := p
    cases hg : g env J1 with
    | stuck => rw [hg] at p; exact p.elim
    | err c fs J2 => rw [hg] at p; exact p.later e1
    | ok h2 J2 =>
      rw [hg] at p
      intro y H2 e2 F2 y2
      have x2 := x1.ext F1 e2
      have p : PostN X.K W Xo js H σ env Q ((rg2End J2 h h2).bind fun ds J1 => if ds.length ≤ 16777216 then .ok (mk ds) J1 else .stuck) := p
      cases h with
      | jar k => exact p.elim
      | new ds => exact p.elim
      | val d =>
        cases d with
        | int m =>
          cases h2 with
          | jar k => exact p.elim
          | new ds => exact p.elim
          | val d =>
            cases d with
            | int n =>
              refine ⟨m, n, rep_int (K := X.K) (H := H2) (Y := Yf Xo js) x2, rep_int (K := X.K) (H := H2) (Y := Yf Xo js) y2, ?_⟩
              have p : PostN X.K W Xo js H σ env Q ((if (rgOk m && rgOk n) = true then R.ok (rgD m (n - m).toNat) J2 else .stuck).bind fun ds J1 => if ds.length ≤ 16777216 then .ok (mk ds) J1 else .stuck) := p
              by_cases h1 : (rgOk m && rgOk n) = true
              · rw [if_pos h1] at p
                have p : PostN X.K W Xo js H σ env Q (if (rgD m (n - m).toNat).length ≤ 16777216 then .ok (mk (rgD m (n - m).toNat)) J2 else .stuck) := p
                by_cases h2 : (rgD m (n - m).toNat).length ≤ 16777216
                · rw [if_pos h2] at p
                  exact fin Xo js env J2 H2 m n F2 (e1.trans e2) h1 h2 p
                · rw [if_neg h2] at p; exact p.elim
              · rw [if_neg h1] at p; exact p.elim
            | _ => exact p.elim
        | _ => exact p.elim
abbrev mkL : List D → HV := HV.new
abbrev mkT : List D → HV := fun ds => .val (.tup ds)
theorem pn_listRg1 (hg : Gl X "list") (hm : X.mg "list" = none) (hc : X.calm = true) (he : PRg X a (tRg1 (tD X.K W f))) (na : starEach [a] X.env = (false, eval a X.env) :: starEach [] X.env) : PE X (.Call (.Name "list" p) [a] [] pos) (tN X.K W (eRg mkL (iRange1 f))) :=
  pe_mono (pe_listRg hc hg hm he na) fun σ H Q w => rg1_go w _ fun Xo js env J H1 n F1 e1 h1 h2 p => ⟨rgok_of h1 h2, fun q hq => by
    obtain ⟨e2, o⟩ := pure_out F1 e1 (po_newl F1.lists hq (reps_rg 0 n.toNat))
    have := p _ _ e2 o
    unfold rgV
    rw [Int.sub_zero]
    exact this⟩
theorem pn_tupRg1 (hg : Gl X "tuple") (hm : X.mg "tuple" = none) (hc : X.calm = true) (he : PRg X a (tRg1 (tD X.K W f))) (na : starEach [a] X.env = (false, eval a X.env) :: starEach [] X.env) : PE X (.Call (.Name "tuple" p) [a] [] pos) (tN X.K W (eRg mkT (iRange1 f))) :=
  pe_mono (pe_tupRg hc hg hm he na) fun σ H Q w => rg1_go w _ fun Xo js env J H1 n F1 e1 h1 h2 p => ⟨rgok_of h1 h2, fun q hq => by
    obtain ⟨e2, o⟩ := pure_out F1 e1 (po_newt F1.lists hq (reps_rg 0 n.toNat))
    have := p _ _ e2 o
    unfold rgV
    rw [Int.sub_zero]
    exact this⟩
theorem pn_listRg2 (hg : Gl X "list") (hm : X.mg "list" = none) (hc : X.calm = true) (he : PRg X a (tRg2 (tD X.K W f) (tD X.K W g))) (na : starEach [a] X.env = (false, eval a X.env) :: starEach [] X.env) : PE X (.Call (.Name "list" p) [a] [] pos) (tN X.K W (eRg mkL (iRange2 f g))) :=
  pe_mono (pe_listRg hc hg hm he na) fun σ H Q w => rg2_go w _ fun Xo js env J H1 m n F1 e1 h1 h2 p => ⟨rgok2_of h1 h2, fun q hq => by
    obtain ⟨e2, o⟩ := pure_out F1 e1 (po_newl F1.lists hq (reps_rg m (n - m).toNat))
    exact p _ _ e2 o⟩
theorem pn_tupRg2 (hg : Gl X "tuple") (hm : X.mg "tuple" = none) (hc : X.calm = true) (he : PRg X a (tRg2 (tD X.K W f) (tD X.K W g))) (na : starEach [a] X.env = (false, eval a X.env) :: starEach [] X.env) : PE X (.Call (.Name "tuple" p) [a] [] pos) (tN X.K W (eRg mkT (iRange2 f g))) :=
  pe_mono (pe_tupRg hc hg hm he na) fun σ H Q w => rg2_go w _ fun Xo js env J H1 m n F1 e1 h1 h2 p => ⟨rgok2_of h1 h2, fun q hq => by
    obtain ⟨e2, o⟩ := pure_out F1 e1 (po_newt F1.lists hq (reps_rg m (n - m).toNat))
    exact p _ _ e2 o⟩
end
end L2.Pz
set_option Elab.async false
set_option linter.all false
set_option maxRecDepth 100000
set_option maxHeartbeats 4000000
set_option autoImplicit false
namespace L2.Pz
open PySem PySem.Spec PyProof.Rows
/-! ### a, b = a tuple or a list -/
def tgSeq (is : List Nat) : TF := fun d env => match d with
  | .tup ds => tgs is ds env
  | .lst ds => tgs is ds env
  | _ => none
def gAny (K : PySem.W.Frag) (n : Nat) (t : TGs) : TG := fun v σ H Q => gTup K n t v σ H Q ∨ gLst K n t v σ H Q
theorem pg_any {X : Cx} {pos : Pos} {es : List Expr} {k : Nat} {t : TGs} {n : Nat} (hc : X.calm = true) (h : PGs X es t)
    (hn : (assignEach es X.env).length = n := by rfl) (hst : (assignEach es X.env).findIdx? (·.1) = none := by rfl) : PG X (.Tuple es k pos) (gAny X.K n t) :=
  ⟨fun pins s σ H v u Q I r hw => hw.elim ((pg_tup hc h hn hst).run pins s σ H v u Q I r) ((pg_lst hc h hn hst).run pins s σ H v u Q I r)⟩
theorem tgok_any {K : PySem.W.Frag} {n : Nat} {is : List Nat} {u : TGs} (h : TgsOk K u is) (hn : is.length = n) : TgOk K (gAny K n u) (tgSeq is) := fun Xo js H σ env env' J d v Q F r e q => by
  cases d with
  | tup ds =>
    obtain ⟨a, vs, e1, s, r1⟩ := rep_tup.mp r
    exact .inl ⟨a, vs, e1, s, by rw [reps_len r1, ← hn]; exact tgs_len e, h Xo js H σ env env' J ds vs Q F r1 e q⟩
  | lst ds =>
    obtain ⟨a, vs, e1, s, r1⟩ := rep_lst.mp r
    exact .inr ⟨a, vs, e1, s.sq, by rw [reps_len r1, ← hn]; exact tgs_len e, h Xo js H σ env env' J ds vs Q F r1 e q⟩
  | _ => cases e
theorem tgin_any {K : PySem.W.Frag} {own : List Nat} {n : Nat} {u : TGs} (hu : TgsIn u own) : TgIn (gAny K n u) own := fun v σ H Q w => w.elim
  (fun ⟨a, xs, e, s, l, q⟩ => .inl ⟨a, xs, e, s, l, hu xs σ _ H Q (wipe_wipe σ own) q⟩) (fun ⟨a, xs, e, s, l, q⟩ => .inr ⟨a, xs, e, s, l, hu xs σ _ H Q (wipe_wipe σ own) q⟩)
/-! ### a def's facts -/
structure FnF (K : PySem.W.Frag) (mg : Str → Option Value) (x : Str) (st : Stmt) (f : Addr) (fd : FuncData) (ps : List Str) : Prop where
  F : Fun K x x st f fd
  b : Binds K fd ps []
  g : mg x = some (.ref f)
end L2.Pz
set_option Elab.async false
set_option linter.all false
set_option maxRecDepth 100000
set_option maxHeartbeats 4000000
set_option autoImplicit false
namespace L2.Pz
open PySem PySem.Spec PyProof.Rows
section
variable {X : Cx} {k : Nat} {g : Addr} {fd : FuncData} {ps : List Str} {x : Str} {p pos : Pos} {F : FT} {E : XK}
/-- f(), f a def of the text -/
theorem pn_call00 (G : FnOk X.prog X.w X.K X.mg X.base (L2.CX X.prog X.w) k g fd ps (spF X.K ps.length F)) (tk : Takes X (fun cls d _ H => E cls d H)) (hr : Room k X.A) (hg : Gl X x) (hm : X.mg x = some (.ref g)) (hk : PySem.W.keepIn X.K (.ref g) = true) (hb : Binds X.K fd ps [])
    (hn : ([] : List EF).length = ps.length) (hdb : (x == ("__debug__" : Str)) = false) : PE X (.Call (.Name x p) [] [] pos) (tN X.K (fun cls d _ H => E cls d H) (eCall F [])) :=
  pe_mono (pe_call0 G hr hg hm hk hb .nil (passes_call tk fun _ _ _ _ h => h) hdb) fun σ H Q w => by
    have := call_read (X := X) (W := fun cls d _ H => E cls d H) (t := tNil) (E := E) hn (fun σ H Q ⟨Xo, js, env, J, Fi, p⟩ => p [] H .refl Fi rfl) (fun _ _ _ z => z) w
    unfold tCall
    simp only [List.append_nil]
    exact this
theorem pn_call000 (G : FnOk X.prog X.w X.K X.mg X.base (L2.CX X.prog X.w) k g fd ps (spF X.K ps.length F)) (hr : Room k X.A) (hg : Gl X x) (hm : X.mg x = some (.ref g)) (hk : PySem.W.keepIn X.K (.ref g) = true) (hb : Binds X.K fd ps [])
    (hn : ([] : List EF).length = ps.length) (hdb : (x == ("__debug__" : Str)) = false) : PE X (.Call (.Name x p) [] [] pos) (tN X.K W0 (eCall F [])) :=
  pe_mono (pe_call0 G hr hg hm hk hb .nil passL hdb) fun σ H Q w => by
    have := call_read (X := X) (W := W0) (t := tNil) (E := E0) hn (fun σ H Q ⟨Xo, js, env, J, Fi, p⟩ => p [] H .refl Fi rfl) (fun _ _ _ z => z) w
    unfold tCall
    simp only [List.append_nil]
    exact this
end
theorem fn_none {P : Program} {w : World} {K : PySem.W.Frag} {mg : Str → Option Value} {base : Heap} {CX : CXT} {k : Nat} {f : Addr} {fd : FuncData} {ps : List Str} {n : Nat} (hn : n = ps.length) : FnOk P w K mg base CX k f fd ps (spF K n fun _ _ => .stuck) :=
  ⟨fun vs H Q E h => by rw [← hn]; exact spF_len vs H Q E h, fun A outer s H args us vs Q E hr he hb hv ⟨Xo, js, J, hs, _, _, _, p⟩ => p.elim⟩
theorem cx_no {P : Program} {w : World} {H : Hp} {s : Shared} {e : Value} {s' : Shared} (h : L2.CX P w [] H s (fun _ _ _ => False) e s') : False := by
  obtain ⟨_, _, _, _, _, _, _, _, _, _, _, _, h⟩ := h
  exact h
theorem spF_start {K : PySem.W.Frag} {H : Hp} {a : Addr} {ns : List Int} {F : FT} {E : XK} (hS : SqL K H a (ns.map V.int)) (hF : F [.val (.lst (ns.map D.int))] [] = .ok (.val (.bl true)) []) : spF K 1 F [.ref a] H (fun v _ => v = .bl true) E := by
  have Fi : Fit K (fun _ => False) [] H [] [] [] := { out := fun _ h => h.elim, nd := List.nodup_nil, jx := (by intro a h; simp at h), len := rfl, slen := rfl, jar := (by intro k a ds h; simp at h), slot := (by intro i h e; simp at e) }
  refine ⟨fun _ => False, [], [], [.val (.lst (ns.map D.int))], Fi, rfl, ⟨.ref a, [], rfl, ?_, rfl⟩, ?_⟩
  · refine rep_lst.mpr ⟨a, _, rfl, ?_, reps_of_ints⟩
    rcases hS with h | h
    · exact .inl ⟨h, fun y => y.elim id fun y => by simp at y⟩
    · exact .inr (.inr h)
  · rw [hF]
    exact fun v H' _ o => rep_bl (K := K) (H := H') (Y := Yf (fun _ => False) []) o.2
end L2.Pz
set_option Elab.async false
set_option linter.all false
set_option maxRecDepth 100000
set_option maxHeartbeats 4000000
set_option autoImplicit false
namespace L2.Pz
open PySem
/-! ### the logic of the pure layer: Ex (of expressions), Sx (of statements) -/
abbrev XP := Str → List (Str × D) → Jr → Prop
abbrev nX : XP := fun _ _ _ => False
def ExM {α : Type} (X : XP) (r : R α) (Q : α → Jr → Prop) : Prop := match r with
  | .ok a J => Q a J
  | .err c fs J => X c fs J
  | .stuck => False
/-- a wrapper: nothing unfolds it by itself -/
structure Ex {α : Type} (X : XP) (r : R α) (Q : α → Jr → Prop) : Prop where
  out : ExM X r Q
theorem Ex_eq {α : Type} {X : XP} {r : R α} {Q : α → Jr → Prop} : Ex X r Q = ExM X r Q := propext ⟨Ex.out, Ex.mk⟩
structure Po where
  nx : En → Jr → Prop
  rt : HV → Jr → Prop
  bk : En → Jr → Prop
  ct : En → Jr → Prop
  er : Str → List (Str × D) → En → Jr → Prop
def SxM (P : Po) (r : RS) : Prop := match r with
  | .nx e J => P.nx e J
  | .rt h J => P.rt h J
  | .bk e J => P.bk e J
  | .ct e J => P.ct e J
  | .err c fs e J => P.er c fs e J
  | .stuck => False
structure Sx (P : Po) (r : RS) : Prop where
  out : SxM P r
theorem Sx_eq {P : Po} {r : RS} : Sx P r = SxM P r := propext ⟨Sx.out, Sx.mk⟩
def OpQ {α : Type} (o : Option α) (Q : α → Prop) : Prop := match o with
  | some a => Q a
  | none => False
def nmQ (o : Option (Option HV)) (Q : HV → Prop) : Prop := match o with
  | some (some h) => Q h
  | _ => False
def jarQ (o : Option (Option HV)) (Q : Nat → Prop) : Prop := match o with
  | some (some (.jar k)) => Q k
  | _ => False
def blQ (h : HV) (Q : Bool → Prop) : Prop := match h with
  | .val (.bl b) => Q b
  | _ => False
def intQ (h : HV) (Q : Int → Prop) : Prop := match h with
  | .val (.int b) => Q b
  | _ => False
def newQ (h : HV) (Q : List D → Prop) : Prop := match h with
  | .new b => Q b
  | _ => False
@[simp] theorem OpQ_some {α : Type} {a : α} {Q : α → Prop} : OpQ (some a) Q ↔ Q a := Iff.rfl
@[simp] theorem OpQ_none {α : Type} {Q : α → Prop} : OpQ none Q ↔ False := Iff.rfl
@[simp] theorem OpQ_ite {α : Type} {a : α} {Q : α → Prop} {c : Prop} [Decidable c] : OpQ (if c then some a else none) Q ↔ c ∧ Q a := by by_cases h : c <;> simp [h, OpQ]
@[simp] theorem OpQ_map {α β : Type} {o : Option α} {f : α → β} {Q : β → Prop} : OpQ (o.map f) Q ↔ OpQ o fun a => Q (f a) := by cases o <;> exact Iff.rfl
@[simp] theorem nmQ_some {h : HV} {Q : HV → Prop} : nmQ (some (some h)) Q ↔ Q h := Iff.rfl
@[simp] theorem jarQ_some {k : Nat} {Q : Nat → Prop} : jarQ (some (some (.jar k))) Q ↔ Q k := Iff.rfl
@[simp] theorem blQ_bl {b : Bool} {Q : Bool → Prop} : blQ (.val (.bl b)) Q ↔ Q b := Iff.rfl
@[simp] theorem intQ_int {b : Int} {Q : Int → Prop} : intQ (.val (.int b)) Q ↔ Q b := Iff.rfl
@[simp] theorem newQ_new {b : List D} {Q : List D → Prop} : newQ (.new b) Q ↔ Q b := Iff.rfl
section
variable {α β : Type} {X : XP} {Q : α → Jr → Prop} {QB : β → Jr → Prop} {J : Jr} {env : En} {f g k : EF} {c d : BF} {P : Po} {n : Nat} {a b : SF}
@[simp] theorem Ex_ok {x : α} : Ex X (.ok x J) Q ↔ Q x J := by simp only [Ex_eq, Sx_eq]; exact Iff.rfl
@[simp] theorem Ex_err {cl : Str} {fs : List (Str × D)} : Ex X (.err cl fs J : R α) Q ↔ X cl fs J := by simp only [Ex_eq, Sx_eq]; exact Iff.rfl
@[simp] theorem Ex_stuck : Ex X (.stuck : R α) Q ↔ False := by simp only [Ex_eq, Sx_eq]; exact Iff.rfl
@[simp] theorem Ex_bind {r : R α} {h : α → Jr → R β} : Ex X (r.bind h) QB ↔ Ex X r fun x J => Ex X (h x J) QB := by cases r <;> first | exact Iff.rfl | (simp only [Ex_eq, Sx_eq]; exact Iff.rfl)
theorem Ex.mono {r : R α} {Q' : α → Jr → Prop} (h : Ex X r Q) (m : ∀ x J, Q x J → Q' x J) : Ex X r Q' := by
  rw [Ex_eq] at h ⊢
  cases r with
  | ok x J => exact m _ _ h
  | err c fs J => exact h
  | stuck => exact h
@[simp] theorem Ex_name {i : Nat} {Q : HV → Jr → Prop} : Ex X (eName i env J) Q ↔ nmQ env[i]? fun h => Q h J := by
  unfold eName
  cases h : env[i]? with
  | none => first | exact Iff.rfl | (simp only [Ex_eq, Sx_eq]; exact Iff.rfl)
  | some o => cases o <;> first | exact Iff.rfl | (simp only [Ex_eq, Sx_eq]; exact Iff.rfl)
@[simp] theorem Ex_c {d : D} {Q : HV → Jr → Prop} : Ex X (eC d env J) Q ↔ Q (.val d) J := by simp only [Ex_eq, Sx_eq]; exact Iff.rfl
@[simp] theorem Ex_give {o : Option HV} {Q : HV → Jr → Prop} : Ex X (give J o) Q ↔ OpQ o fun z => Q z J := by cases o <;> first | exact Iff.rfl | (simp only [Ex_eq, Sx_eq]; exact Iff.rfl)
@[simp] theorem Ex_app1 {fo : F1} {h : HV} {Q : HV → Jr → Prop} : Ex X (app1 fo J h) Q ↔ OpQ (deref J h) fun d => OpQ (fo d) fun z => Q z J := by
  unfold app1
  cases e : deref J h with
  | none => first | exact Iff.rfl | (simp only [Ex_eq, Sx_eq]; exact Iff.rfl)
  | some d => exact Ex_give
@[simp] theorem Ex_app2 {fo : F2} {h h2 : HV} {Q : HV → Jr → Prop} : Ex X (app2 fo J h h2) Q ↔ OpQ (deref J h) fun d => OpQ (deref J h2) fun e => OpQ (fo d e) fun z => Q z J := by
  unfold app2
  cases e : deref J h with
  | none => first | exact Iff.rfl | (simp only [Ex_eq, Sx_eq]; exact Iff.rfl)
  | some d =>
    cases e' : deref J h2 with
    | none => first | exact Iff.rfl | (simp only [Ex_eq, Sx_eq]; exact Iff.rfl)
    | some d' => exact Ex_give
@[simp] theorem Ex_un {fo : F1} {Q : HV → Jr → Prop} : Ex X (eUn fo f env J) Q ↔ Ex X (f env J) fun h J => OpQ (deref J h) fun d => OpQ (fo d) fun z => Q z J := by
  unfold eUn
  simp only [Ex_bind, Ex_app1]
@[simp] theorem Ex_bin {fo : F2} {Q : HV → Jr → Prop} : Ex X (eBin fo f g env J) Q ↔ Ex X (f env J) fun h J => Ex X (g env J) fun h2 J => OpQ (deref J h) fun d => OpQ (deref J h2) fun e => OpQ (fo d e) fun z => Q z J := by
  unfold eBin
  simp only [Ex_bind, Ex_app2]
theorem Ex_iff {r : R α} {Q' : α → Jr → Prop} (h : ∀ x J, Q x J ↔ Q' x J) : Ex X r Q ↔ Ex X r Q' := by
  have : Q = Q' := funext fun x => funext fun J => propext (h x J)
  rw [this]
@[simp] theorem Ex_toB {r : R HV} {Q : Bool → Jr → Prop} : Ex X (toB r) Q ↔ Ex X r fun h J => blQ h fun b => Q b J := by
  unfold toB
  rw [Ex_bind]
  refine Ex_iff fun h J => ?_
  cases h with
  | val d => cases d <;> first | exact Iff.rfl | (simp only [Ex_eq, Sx_eq]; exact Iff.rfl)
  | jar k => first | exact Iff.rfl | (simp only [Ex_eq, Sx_eq]; exact Iff.rfl)
  | new ds => first | exact Iff.rfl | (simp only [Ex_eq, Sx_eq]; exact Iff.rfl)
@[simp] theorem Ex_cmp {fo : F2} {Q : Bool → Jr → Prop} : Ex X (bCmp fo f g env J) Q ↔ Ex X (eBin fo f g env J) fun h J => blQ h fun b => Q b J := Ex_toB
@[simp] theorem Ex_truth {Q : Bool → Jr → Prop} : Ex X (bTruth f env J) Q ↔ Ex X (f env J) fun h J => OpQ (deref J h) fun d => OpQ (truth d) fun b => Q b J := by
  unfold bTruth
  rw [Ex_bind]
  refine Ex_iff fun x J => ?_
  cases e : deref J x with
  | none => first | exact Iff.rfl | (simp only [Ex_eq, Sx_eq]; exact Iff.rfl)
  | some d =>
    dsimp only [OpQ_some]
    cases e2 : truth d <;> simp [e2]
@[simp] theorem Ex_bnot {Q : Bool → Jr → Prop} : Ex X (bNot c env J) Q ↔ Ex X (c env J) fun b J => Q (!b) J := by
  unfold bNot
  simp only [Ex_bind, Ex_ok]
@[simp] theorem Ex_band {Q : Bool → Jr → Prop} : Ex X (bAnd c d env J) Q ↔ Ex X (c env J) fun b J => if b = true then Ex X (d env J) Q else Q false J := by
  unfold bAnd
  rw [Ex_bind]
  refine Ex_iff fun x J => ?_
  cases x <;> first | exact Iff.rfl | (simp only [Ex_eq, Sx_eq]; exact Iff.rfl)
@[simp] theorem Ex_bor {Q : Bool → Jr → Prop} : Ex X (bOr c d env J) Q ↔ Ex X (c env J) fun b J => if b = true then Q true J else Ex X (d env J) Q := by
  unfold bOr
  rw [Ex_bind]
  refine Ex_iff fun x J => ?_
  cases x <;> first | exact Iff.rfl | (simp only [Ex_eq, Sx_eq]; exact Iff.rfl)
@[simp] theorem Ex_not {Q : HV → Jr → Prop} : Ex X (eNot f env J) Q ↔ Ex X (f env J) fun h J => blQ h fun b => Q (.val (.bl (!b))) J := by
  unfold eNot
  rw [Ex_bind, Ex_toB]
  first | exact Iff.rfl | (simp only [Ex_eq, Sx_eq]; exact Iff.rfl)
@[simp] theorem Ex_and {Q : HV → Jr → Prop} : Ex X (eAnd f g env J) Q ↔ Ex X (f env J) fun h J => blQ h fun b => if b = true then Ex X (g env J) Q else Q (.val (.bl false)) J := by
  unfold eAnd
  rw [Ex_bind, Ex_toB]
  refine Ex_iff fun x J => ?_
  have : ∀ b : Bool, Ex X (if b = true then g env J else .ok (.val (.bl false)) J) Q ↔ if b = true then Ex X (g env J) Q else Q (.val (.bl false)) J := fun b => by cases b <;> first | exact Iff.rfl | (simp only [Ex_eq, Sx_eq]; exact Iff.rfl)
  simp only [this]
@[simp] theorem Ex_or {Q : HV → Jr → Prop} : Ex X (eOr f g env J) Q ↔ Ex X (f env J) fun h J => blQ h fun b => if b = true then Q (.val (.bl true)) J else Ex X (g env J) Q := by
  unfold eOr
  rw [Ex_bind, Ex_toB]
  refine Ex_iff fun x J => ?_
  have : ∀ b : Bool, Ex X (if b = true then .ok (.val (.bl true)) J else g env J) Q ↔ if b = true then Q (.val (.bl true)) J else Ex X (g env J) Q := fun b => by cases b <;> first | exact Iff.rfl | (simp only [Ex_eq, Sx_eq]; exact Iff.rfl)
  simp only [this]
@[simp] theorem Ex_if {Q : HV → Jr → Prop} : Ex X (eIf c f g env J) Q ↔ Ex X (c env J) fun b J => if b = true then Ex X (f env J) Q else Ex X (g env J) Q := by
  unfold eIf
  rw [Ex_bind]
  refine Ex_iff fun x J => ?_
  cases x <;> first | exact Iff.rfl | (simp only [Ex_eq, Sx_eq]; exact Iff.rfl)
@[simp] theorem Ex_norm {Q : HV → Jr → Prop} : Ex X (eNorm f env J) Q ↔ Ex X (f env J) fun h J => Q (norm h) J := by
  unfold eNorm
  simp only [Ex_bind, Ex_ok]
@[simp] theorem norm_val {d : D} : norm (.val d) = .val d := rfl
@[simp] theorem norm_jar {k : Nat} : norm (.jar k) = .jar k := rfl
@[simp] theorem norm_new {ds : List D} : norm (.new ds) = .val (.lst ds) := rfl
@[simp] theorem deref_val {d : D} : deref J (.val d) = some d := rfl
@[simp] theorem deref_new {ds : List D} : deref J (.new ds) = some (.lst ds) := rfl
@[simp] theorem deref_jar {k : Nat} : deref J (.jar k) = (J[k]?).map D.lst := rfl
@[simp] theorem toVal_val {d : D} : toVal (.val d) = some d := rfl
@[simp] theorem toVal_new {ds : List D} : toVal (.new ds) = some (.lst ds) := rfl
@[simp] theorem toVal_jar {k : Nat} : toVal (.jar k) = none := rfl
@[simp] theorem Ex_items0 {Q : List D → Jr → Prop} : Ex X (eItems [] env J) Q ↔ Q [] J := by simp only [Ex_eq, Sx_eq]; exact Iff.rfl
@[simp] theorem Ex_items1 {fs : List EF} {Q : List D → Jr → Prop} : Ex X (eItems (f :: fs) env J) Q ↔ Ex X (f env J) fun h J => OpQ (toVal h) fun d => Ex X (eItems fs env J) fun ds J => Q (d :: ds) J := by
  show Ex X ((f env J).bind _) Q ↔ _
  rw [Ex_bind]
  refine Ex_iff fun x J => ?_
  cases e : toVal x with
  | none => first | exact Iff.rfl | (simp only [Ex_eq, Sx_eq]; exact Iff.rfl)
  | some d =>
    show Ex X ((eItems fs env J).bind fun ds J2 => R.ok (d :: ds) J2) Q ↔ Ex X (eItems fs env J) fun ds J => Q (d :: ds) J
    simp only [Ex_bind, Ex_ok]
theorem Ex_ite {c : Prop} [Decidable c] {x : α} : Ex X (if c then .ok x J else .stuck) Q ↔ c ∧ Q x J := by by_cases h : c <;> simp [h]
@[simp] theorem Ex_tup {fs : List EF} {Q : HV → Jr → Prop} : Ex X (eTup fs env J) Q ↔ Ex X (eItems fs env J) fun ds J => ds.length ≤ big ∧ Q (.val (.tup ds)) J := by
  unfold eTup
  rw [Ex_bind]
  exact Ex_iff fun x J => Ex_ite
@[simp] theorem Ex_lst {fs : List EF} {Q : HV → Jr → Prop} : Ex X (eLst fs env J) Q ↔ Ex X (eItems fs env J) fun ds J => ds.length ≤ big ∧ Q (.new ds) J := by
  unfold eLst
  rw [Ex_bind]
  exact Ex_iff fun x J => Ex_ite
@[simp] theorem Ex_args0 {Q : List HV → Jr → Prop} : Ex X (eArgs [] env J) Q ↔ Q [] J := by simp only [Ex_eq, Sx_eq]; exact Iff.rfl
@[simp] theorem Ex_args1 {fs : List EF} {Q : List HV → Jr → Prop} : Ex X (eArgs (f :: fs) env J) Q ↔ Ex X (f env J) fun h J => Ex X (eArgs fs env J) fun hs J => Q (norm h :: hs) J := by
  show Ex X ((f env J).bind _) Q ↔ _
  simp only [Ex_bind, Ex_ok]
@[simp] theorem Ex_call {F : FT} {fs : List EF} {Q : HV → Jr → Prop} : Ex X (eCall F fs env J) Q ↔ Ex X (eArgs fs env J) fun hs J => Ex X (F hs J) Q := Ex_bind
@[simp] theorem Ex_callK {F : FT} {ix : List Nat} {fs : List EF} {Q : HV → Jr → Prop} : Ex X (eCallK F ix fs env J) Q ↔ Ex X (eArgs fs env J) fun hs J => Ex X (F (permute ix hs) J) Q := Ex_bind
@[simp] theorem Ex_rep {Q : HV → Jr → Prop} : Ex X (eRep f g env J) Q ↔ Ex X (f env J) fun h J => Ex X (g env J) fun h2 J => Ex X (repEnd J h (deref J h2)) Q := by
  unfold eRep
  simp only [Ex_bind]
@[simp] theorem Ex_repEnd {ds : List D} {k : Int} {Q : HV → Jr → Prop} : Ex X (repEnd J (.new ds) (some (.int k))) Q ↔ repOk ds.length k = true ∧ Q (.new (List.replicate k.toNat ds).flatten) J := Ex_ite
@[simp] theorem Ex_part0 {Q : Option Int → Jr → Prop} : Ex X (partV none env J) Q ↔ Q none J := by simp only [Ex_eq, Sx_eq]; exact Iff.rfl
@[simp] theorem Ex_part1 {Q : Option Int → Jr → Prop} : Ex X (partV (some f) env J) Q ↔ Ex X (f env J) fun h J => intQ h fun i => Q (some i) J := by
  show Ex X ((f env J).bind _) Q ↔ _
  rw [Ex_bind]
  refine Ex_iff fun x J => ?_
  cases x with
  | val d => cases d <;> first | exact Iff.rfl | (simp only [Ex_eq, Sx_eq]; exact Iff.rfl)
  | jar k => first | exact Iff.rfl | (simp only [Ex_eq, Sx_eq]; exact Iff.rfl)
  | new ds => first | exact Iff.rfl | (simp only [Ex_eq, Sx_eq]; exact Iff.rfl)
@[simp] theorem Ex_sl {lo hi : Option EF} {Q : HV → Jr → Prop} : Ex X (eSl f lo hi env J) Q ↔ Ex X (f env J) fun h J => Ex X (partV lo env J) fun l J => Ex X (partV hi env J) fun u J => OpQ (deref J h) fun d => OpQ (dSl d l u) fun z => Q z J := by
  unfold eSl
  simp only [Ex_bind]
  refine Ex_iff fun h J => Ex_iff fun l J => Ex_iff fun u J => ?_
  cases e : deref J h with
  | none => first | exact Iff.rfl | (simp only [Ex_eq, Sx_eq]; exact Iff.rfl)
  | some d => exact Ex_give
@[simp] theorem Ex_iAny {Q : List D → Jr → Prop} : Ex X (iAny f env J) Q ↔ Ex X (f env J) fun h J => OpQ (itemsOf h) fun ds => Q ds J := by
  unfold iAny
  rw [Ex_bind]
  refine Ex_iff fun x J => ?_
  cases e : itemsOf x <;> first | exact Iff.rfl | (simp only [Ex_eq, Sx_eq]; exact Iff.rfl)
@[simp] theorem Ex_iEnum {Q : List D → Jr → Prop} : Ex X (iEnumD f env J) Q ↔ Ex X (f env J) fun h J => OpQ (itemsOf h) fun ds => Q (pairUp 0 ds) J := by
  unfold iEnumD
  rw [Ex_bind]
  refine Ex_iff fun x J => ?_
  cases e : itemsOf x <;> first | exact Iff.rfl | (simp only [Ex_eq, Sx_eq]; exact Iff.rfl)
@[simp] theorem Ex_range1 {Q : List D → Jr → Prop} : Ex X (iRange1 f env J) Q ↔ Ex X (f env J) fun h J => intQ h fun n => rgOk n = true ∧ Q (rgD 0 n.toNat) J := by
  unfold iRange1
  rw [Ex_bind]
  refine Ex_iff fun x J => ?_
  cases x with
  | val d =>
    cases d with
    | int n => exact Ex_ite
    | _ => first | exact Iff.rfl | (simp only [Ex_eq, Sx_eq]; exact Iff.rfl)
  | _ => first | exact Iff.rfl | (simp only [Ex_eq, Sx_eq]; exact Iff.rfl)
@[simp] theorem Ex_range2 {Q : List D → Jr → Prop} : Ex X (iRange2 f g env J) Q ↔ Ex X (f env J) fun h J => Ex X (g env J) fun h2 J => intQ h fun m => intQ h2 fun n => (rgOk m && rgOk n) = true ∧ Q (rgD m (n - m).toNat) J := by
  unfold iRange2
  simp only [Ex_bind]
  refine Ex_iff fun x J => Ex_iff fun y J => ?_
  cases x with
  | val d =>
    cases d with
    | int m =>
      cases y with
      | val d =>
        cases d with
        | int n => exact Ex_ite
        | _ => first | exact Iff.rfl | (simp only [Ex_eq, Sx_eq]; exact Iff.rfl)
      | _ => first | exact Iff.rfl | (simp only [Ex_eq, Sx_eq]; exact Iff.rfl)
    | _ => first | exact Iff.rfl | (simp only [Ex_eq, Sx_eq]; exact Iff.rfl)
  | _ => first | exact Iff.rfl | (simp only [Ex_eq, Sx_eq]; exact Iff.rfl)
@[simp] theorem Ex_rg {mk : List D → HV} {it : IF} {Q : HV → Jr → Prop} : Ex X (eRg mk it env J) Q ↔ Ex X (it env J) fun ds J => ds.length ≤ 16777216 ∧ Q (mk ds) J := by
  unfold eRg
  rw [Ex_bind]
  exact Ex_iff fun x J => Ex_ite
@[simp] theorem items_lst {ds : List D} : itemsOf (.val (.lst ds)) = some ds := rfl
@[simp] theorem items_tup {ds : List D} : itemsOf (.val (.tup ds)) = some ds := rfl
@[simp] theorem items_new {ds : List D} : itemsOf (.new ds) = some ds := rfl
@[simp] theorem items_str {z : Str} : itemsOf (.val (.str z)) = some (chars z) := rfl

/-! statements -/
@[simp] theorem Sx_nx : Sx P (.nx env J) ↔ P.nx env J := by simp only [Ex_eq, Sx_eq]; exact Iff.rfl
@[simp] theorem Sx_rt {h : HV} : Sx P (.rt h J) ↔ P.rt h J := by simp only [Ex_eq, Sx_eq]; exact Iff.rfl
@[simp] theorem Sx_bk : Sx P (.bk env J) ↔ P.bk env J := by simp only [Ex_eq, Sx_eq]; exact Iff.rfl
@[simp] theorem Sx_ct : Sx P (.ct env J) ↔ P.ct env J := by simp only [Ex_eq, Sx_eq]; exact Iff.rfl
@[simp] theorem Sx_stuck : Sx P .stuck ↔ False := by simp only [Ex_eq, Sx_eq]; exact Iff.rfl
@[simp] theorem Sx_err {cl : Str} {fs : List (Str × D)} : Sx P (.err cl fs env J) ↔ P.er cl fs env J := by simp only [Ex_eq, Sx_eq]; exact Iff.rfl
@[simp] theorem Sx_on {r : R α} {h : α → Jr → RS} : Sx P (onS env r h) ↔ Ex (fun c fs J => P.er c fs env J) r fun x J => Sx P (h x J) := by cases r <;> first | exact Iff.rfl | (simp only [Ex_eq, Sx_eq]; exact Iff.rfl)
@[simp] theorem Sx_seq : Sx P (sSeq a b n env J) ↔ Sx { P with nx := fun e J => Sx P (b n e J) } (a n env J) := by
  unfold sSeq
  cases a n env J <;> first | exact Iff.rfl | (simp only [Ex_eq, Sx_eq]; exact Iff.rfl)
@[simp] theorem Sx_next : Sx P (sNext n env J) ↔ P.nx env J := by simp only [Ex_eq, Sx_eq]; exact Iff.rfl
@[simp] theorem Sx_break : Sx P (sBreak n env J) ↔ P.bk env J := by simp only [Ex_eq, Sx_eq]; exact Iff.rfl
@[simp] theorem Sx_cont : Sx P (sCont n env J) ↔ P.ct env J := by simp only [Ex_eq, Sx_eq]; exact Iff.rfl
@[simp] theorem Sx_expr : Sx P (sExpr f n env J) ↔ Ex (fun c fs J => P.er c fs env J) (f env J) fun _ J => P.nx env J := by
  unfold sExpr
  simp only [Sx_on, Sx_nx]
@[simp] theorem Sx_ret : Sx P (sRet f n env J) ↔ Ex (fun c fs J => P.er c fs env J) (f env J) fun h J => P.rt h J := by
  unfold sRet
  simp only [Sx_on, Sx_rt]
@[simp] theorem Sx_retN : Sx P (sRetN n env J) ↔ P.rt (.val .non) J := by simp only [Ex_eq, Sx_eq]; exact Iff.rfl
@[simp] theorem Sx_set {i : Nat} : Sx P (sSet i f n env J) ↔ Ex (fun c fs J => P.er c fs env J) (f env J) fun h J => P.nx (env.set i (some (norm h))) J := by
  unfold sSet
  simp only [Sx_on, Sx_nx]
theorem Sx_ite {c : Prop} [Decidable c] : Sx P (if c then .nx env J else .stuck) ↔ c ∧ P.nx env J := by by_cases h : c <;> simp [h]
@[simp] theorem Sx_new {i : Nat} : Sx P (sNew i f n env J) ↔ Ex (fun c fs J => P.er c fs env J) (f env J) fun h J => newQ h fun ds => n ≤ J.length ∧ P.nx (env.set i (some (.jar J.length))) (J ++ [ds]) := by
  unfold sNew
  rw [Sx_on]
  refine Ex_iff fun x J => ?_
  cases x with
  | val d => first | exact Iff.rfl | (simp only [Ex_eq, Sx_eq]; exact Iff.rfl)
  | jar k => first | exact Iff.rfl | (simp only [Ex_eq, Sx_eq]; exact Iff.rfl)
  | new ds => exact Sx_ite
@[simp] theorem Sx_asg {t : TF} : Sx P (sAsg t f n env J) ↔ Ex (fun c fs J => P.er c fs env J) (f env J) fun h J => OpQ (toVal h) fun d => OpQ (t d env) fun e1 => P.nx e1 J := by
  unfold sAsg
  rw [Sx_on]
  refine Ex_iff fun x J => ?_
  cases e : toVal x with
  | none => first | exact Iff.rfl | (simp only [Ex_eq, Sx_eq]; exact Iff.rfl)
  | some d =>
    show Sx P (match t d env with | some e1 => .nx e1 J | none => .stuck) ↔ OpQ (t d env) fun e1 => P.nx e1 J
    cases e2 : t d env <;> first | exact Iff.rfl | (simp only [Ex_eq, Sx_eq]; exact Iff.rfl)
@[simp] theorem Sx_if : Sx P (sIf c a b n env J) ↔ Ex (fun c fs J => P.er c fs env J) (c env J) fun k J => if k = true then Sx P (a n env J) else Sx P (b n env J) := by
  unfold sIf
  rw [Sx_on]
  refine Ex_iff fun x J => ?_
  cases x <;> first | exact Iff.rfl | (simp only [Ex_eq, Sx_eq]; exact Iff.rfl)
theorem Sx_for {it : IF} {t : TF} : Sx P (sFor it t a n env J) ↔ Ex (fun c fs J => P.er c fs env J) (it env J) fun ds J => Sx P (loopD t a n ds env J) := Sx_on
@[simp] theorem Sx_app {i : Nat} : Sx P (sApp i f n env J) ↔ jarQ env[i]? fun k => Ex (fun c fs J => P.er c fs env J) (f env J) fun h J => OpQ (toVal h) fun d => OpQ J[k]? fun ds => ds.length < big ∧ P.nx env (J.set k (ds ++ [d])) := by
  unfold sApp
  cases e : env[i]? with
  | none => first | exact Iff.rfl | (simp only [Ex_eq, Sx_eq]; exact Iff.rfl)
  | some o =>
    cases o with
    | none => first | exact Iff.rfl | (simp only [Ex_eq, Sx_eq]; exact Iff.rfl)
    | some z =>
      cases z with
      | val d => first | exact Iff.rfl | (simp only [Ex_eq, Sx_eq]; exact Iff.rfl)
      | new d => first | exact Iff.rfl | (simp only [Ex_eq, Sx_eq]; exact Iff.rfl)
      | jar k =>
        rw [Sx_on]
        refine Ex_iff fun x J => ?_
        cases e1 : toVal x with
        | none => first | exact Iff.rfl | (simp only [Ex_eq, Sx_eq]; exact Iff.rfl)
        | some d =>
          unfold appEnd
          dsimp only [OpQ_some]
          cases e2 : J[k]? with
          | none => first | exact Iff.rfl | (simp only [Ex_eq, Sx_eq]; exact Iff.rfl)
          | some ds => exact Sx_ite
@[simp] theorem Sx_setI {i : Nat} {ix : EF} : Sx P (sSetI i ix f n env J) ↔ jarQ env[i]? fun k => Ex (fun c fs J => P.er c fs env J) (f env J) fun h J => Ex (fun c fs J => P.er c fs env J) (ix env J) fun hj J =>
    OpQ (toVal h) fun d => intQ hj fun j => OpQ J[k]? fun ds => OpQ (ixN ds.length j) fun m => P.nx env (J.set k (ds.set m d)) := by
  unfold sSetI
  cases e : env[i]? with
  | none => first | exact Iff.rfl | (simp only [Ex_eq, Sx_eq]; exact Iff.rfl)
  | some o =>
    cases o with
    | none => first | exact Iff.rfl | (simp only [Ex_eq, Sx_eq]; exact Iff.rfl)
    | some z =>
      cases z with
      | val d => first | exact Iff.rfl | (simp only [Ex_eq, Sx_eq]; exact Iff.rfl)
      | new d => first | exact Iff.rfl | (simp only [Ex_eq, Sx_eq]; exact Iff.rfl)
      | jar k =>
        dsimp only
        simp only [Sx_on]
        refine Ex_iff fun x J => Ex_iff fun y J => ?_
        cases e1 : toVal x with
        | none => first | exact Iff.rfl | (simp only [Ex_eq, Sx_eq]; exact Iff.rfl)
        | some d =>
          cases y with
          | jar _ => first | exact Iff.rfl | (simp only [Ex_eq, Sx_eq]; exact Iff.rfl)
          | new _ => first | exact Iff.rfl | (simp only [Ex_eq, Sx_eq]; exact Iff.rfl)
          | val dj =>
            cases dj with
            | int j =>
              show Sx P (match J[k]? with
                | some ds => (match ixN ds.length j with | some m => .nx env (J.set k (ds.set m d)) | none => .stuck)
                | none => .stuck) ↔ OpQ J[k]? fun ds => OpQ (ixN ds.length j) fun m => P.nx env (J.set k (ds.set m d))
              cases e2 : J[k]? with
              | none => first | exact Iff.rfl | (simp only [Ex_eq, Sx_eq]; exact Iff.rfl)
              | some ds =>
                show Sx P (match ixN ds.length j with | some m => .nx env (J.set k (ds.set m d)) | none => .stuck) ↔ OpQ (ixN ds.length j) fun m => P.nx env (J.set k (ds.set m d))
                cases e3 : ixN ds.length j <;> first | exact Iff.rfl | (simp only [Ex_eq, Sx_eq]; exact Iff.rfl)
            | _ => first | exact Iff.rfl | (simp only [Ex_eq, Sx_eq]; exact Iff.rfl)
theorem Sx.mono {r : RS} {P' : Po} (h : Sx P r) (m1 : ∀ e J, P.nx e J → P'.nx e J) (m2 : ∀ h J, P.rt h J → P'.rt h J) (m3 : ∀ e J, P.bk e J → P'.bk e J) (m4 : ∀ e J, P.ct e J → P'.ct e J) (m5 : ∀ c fs e J, P.er c fs e J → P'.er c fs e J) : Sx P' r := by
  rw [Sx_eq] at h ⊢
  cases r with
  | nx e J => exact m1 _ _ h
  | rt h' J => exact m2 _ _ h
  | bk e J => exact m3 _ _ h
  | ct e J => exact m4 _ _ h
  | err c fs e J => exact m5 _ _ _ _ h
  | stuck => exact h
/-- a loop, by an invariant -/
theorem Sx_loop {t : TF} {ds : List D} (I : Nat → En → Jr → Prop) (h0 : I 0 env J)
    (hs : ∀ i d env J, ds[i]? = some d → I i env J → OpQ (t d env) fun e1 => Sx { nx := I (i + 1), rt := P.rt, bk := P.nx, ct := I (i + 1), er := P.er } (a n e1 J)) (hd : ∀ env J, I ds.length env J → P.nx env J) : Sx P (loopD t a n ds env J) := by
  induction ds generalizing env J I with
  | nil => exact Sx_nx.mpr (hd _ _ h0)
  | cons d ds ih =>
    have h2 := hs 0 d env J rfl h0
    unfold loopD
    cases ht : t d env with
    | none => rw [ht] at h2; exact h2.elim
    | some e1 =>
    rw [ht] at h2
    have h2 : Sx { nx := I 1, rt := P.rt, bk := P.nx, ct := I 1, er := P.er } (a n e1 J) := h2
    dsimp only
    cases r : a n e1 J with
    | nx e J2 => rw [r] at h2; exact ih (fun i => I (i + 1)) (Sx_nx.mp h2) (fun i d env J e => hs (i + 1) d env J e) hd
    | ct e J2 => rw [r] at h2; exact ih (fun i => I (i + 1)) (Sx_ct.mp h2) (fun i d env J e => hs (i + 1) d env J e) hd
    | bk e J2 => rw [r] at h2; exact Sx_nx.mpr (Sx_bk.mp h2)
    | rt h J2 => rw [r] at h2; exact ⟨h2.out⟩
    | err c fs e J2 => rw [r] at h2; exact ⟨h2.out⟩
    | stuck => rw [r] at h2; exact (Sx_stuck.mp h2).elim
/-- a comprehension, by an invariant -/
theorem Ex_lcX {it : IF} {t : TF} {own : List Nat} {Q : HV → Jr → Prop} (h : Ex X (it env J) fun ds J => Ex nX (lcLoop t c f (wipeE env own) ds [] J) Q) : Ex X (eLc it t c f own env J) Q := by
  unfold eLc
  rw [Ex_bind]
  refine h.mono fun x J z => ?_
  cases e : lcLoop t c f (wipeE env own) x [] J with
  | ok a J => rw [e] at z; exact ⟨z.out⟩
  | err c fs J => rw [e] at z; exact z.out.elim
  | stuck => rw [e] at z; exact z.out.elim
theorem Ex_lcLoop {t : TF} {ds : List D} {Q : HV → Jr → Prop} {acc : List D} (I : Nat → List D → Jr → Prop) (h0 : I 0 acc J)
    (hs : ∀ i d acc J, ds[i]? = some d → I i acc J → OpQ (t d env) fun e1 => Ex X (c e1 J) fun b J => if b = true then Ex X (f e1 J) fun h J => OpQ (toVal h) fun y => acc.length < big ∧ I (i + 1) (acc ++ [y]) J else I (i + 1) acc J) (hd : ∀ acc J, I ds.length acc J → Q (.new acc) J) : Ex X (lcLoop t c f env ds acc J) Q := by
  induction ds generalizing acc J I with
  | nil => exact Ex_ok.mpr (hd _ _ h0)
  | cons d ds ih =>
    have h2 := hs 0 d acc J rfl h0
    unfold lcLoop
    cases ht : t d env with
    | none => rw [ht] at h2; exact h2.elim
    | some e1 =>
    rw [ht] at h2
    have h2 : Ex X (c e1 J) fun b J => if b = true then Ex X (f e1 J) fun h J => OpQ (toVal h) fun y => acc.length < big ∧ I 1 (acc ++ [y]) J else I 1 acc J := h2
    dsimp only
    rw [Ex_bind]
    refine h2.mono fun b J h2 => ?_
    cases b with
    | false => exact ih (fun i => I (i + 1)) (by simpa using h2) (fun i d acc J e => hs (i + 1) d acc J e) hd
    | true =>
      rw [if_pos rfl] at h2 ⊢
      rw [Ex_bind]
      refine h2.mono fun h J q => ?_
      cases e : toVal h with
      | none => rw [e] at q; exact q.elim
      | some y =>
      rw [e] at q
      obtain ⟨hb, q⟩ := q
      dsimp only
      rw [if_pos hb]
      exact ih (fun i => I (i + 1)) q (fun i d acc J e => hs (i + 1) d acc J e) hd
/-- a def -/
def dfX (X : XP) (m : Nat) (Q : HV → Jr → Prop) : Po where
  nx := fun _ J1 => m ≤ J1.length ∧ Q (.val .non) (J1.take m)
  rt := fun h J1 => m ≤ J1.length ∧ Ex X (outH m J1 h) Q
  bk := fun _ _ => False
  ct := fun _ _ => False
  er := fun c fs _ J1 => m ≤ J1.length ∧ X c fs (J1.take m)
theorem Ex_mkF {m : Nat} {hs : List HV} {Q : HV → Jr → Prop} : Ex X (mkF m a hs J) Q ↔ Sx (dfX X J.length Q) (a J.length (startE m hs) J) := by
  unfold mkF
  cases r : a J.length (startE m hs) J with
  | nx e J1 =>
    rw [Sx_nx]
    show Ex X (if J.length ≤ J1.length then .ok (.val .non) (J1.take J.length) else .stuck) Q ↔ (J.length ≤ J1.length ∧ _)
    by_cases hc : J.length ≤ J1.length
    · rw [if_pos hc]; exact ⟨fun z => ⟨hc, by first | exact z | exact z.out⟩, fun z => by first | exact z.2 | exact ⟨z.2⟩⟩
    · rw [if_neg hc]; exact ⟨fun z => z.out.elim, fun z => (hc z.1).elim⟩
  | rt h J1 =>
    rw [Sx_rt]
    show Ex X (if J.length ≤ J1.length then outH J.length J1 h else .stuck) Q ↔ (J.length ≤ J1.length ∧ _)
    by_cases hc : J.length ≤ J1.length
    · rw [if_pos hc]; exact ⟨fun z => ⟨hc, by first | exact z | exact z.out⟩, fun z => by first | exact z.2 | exact ⟨z.2⟩⟩
    · rw [if_neg hc]; exact ⟨fun z => z.out.elim, fun z => (hc z.1).elim⟩
  | bk e J1 => first | exact Iff.rfl | (simp only [Ex_eq, Sx_eq]; exact Iff.rfl)
  | ct e J1 => first | exact Iff.rfl | (simp only [Ex_eq, Sx_eq]; exact Iff.rfl)
  | err c fs e J1 =>
    rw [Sx_err]
    show Ex X (if J.length ≤ J1.length then .err c fs (J1.take J.length) else .stuck) Q ↔ (J.length ≤ J1.length ∧ _)
    by_cases hc : J.length ≤ J1.length
    · rw [if_pos hc]; exact ⟨fun z => ⟨hc, by first | exact z | exact z.out⟩, fun z => by first | exact z.2 | exact ⟨z.2⟩⟩
    · rw [if_neg hc]; exact ⟨fun z => z.out.elim, fun z => (hc z.1).elim⟩
  | stuck => first | exact Iff.rfl | (simp only [Ex_eq, Sx_eq]; exact Iff.rfl)
@[simp] theorem dfX_rt {m : Nat} {Q : HV → Jr → Prop} {h : HV} : (dfX X m Q).rt h J = (m ≤ J.length ∧ Ex X (outH m J h) Q) := rfl
@[simp] theorem dfX_nx {m : Nat} {Q : HV → Jr → Prop} : (dfX X m Q).nx env J = (m ≤ J.length ∧ Q (.val .non) (J.take m)) := rfl
@[simp] theorem dfX_er {m : Nat} {Q : HV → Jr → Prop} {cl : Str} {fs : List (Str × D)} : (dfX X m Q).er cl fs env J = (m ≤ J.length ∧ X cl fs (J.take m)) := rfl
@[simp] theorem outH_val {m : Nat} {d : D} : outH m J (.val d) = .ok (.val d) (J.take m) := rfl
@[simp] theorem outH_new {m : Nat} {ds : List D} : outH m J (.new ds) = .ok (.new ds) (J.take m) := rfl
theorem outH_jar {m k : Nat} {ds : List D} (h1 : m ≤ k) (h2 : J[k]? = some ds) : outH m J (.jar k) = .ok (.new ds) (J.take m) := by
  have : ¬ k < m := by omega
  simp [outH, this, h2]
end
end L2.Pz
set_option Elab.async false
set_option linter.all false
set_option maxRecDepth 100000
set_option maxHeartbeats 4000000
set_option autoImplicit false
namespace L2.Pz
open PySem
theorem log2_lt' {n k : Nat} (h : n < 2 ^ k) (hk : 0 < k) : n.log2 < k := by
  by_cases h0 : n = 0
  · subst h0; simpa using hk
  · exact (Nat.log2_lt h0).mpr h
theorem rgD_len {lo : Int} {n : Nat} : (rgD lo n).length = n := by unfold rgD; simp
theorem rgD_get {lo : Int} {n i : Nat} {d : D} (h : (rgD lo n)[i]? = some d) : d = .int (lo + (i : Nat)) ∧ i < n := by
  unfold rgD at h
  rw [List.getElem?_map] at h
  by_cases hi : i < n
  · rw [List.getElem?_range hi] at h
    simp at h
    exact ⟨h.symm, hi⟩
  · rw [List.getElem?_eq_none (by simpa using hi)] at h
    cases h
theorem sIx_to {n : Nat} {i : Int} (h0 : 0 ≤ i) : HT.sIx n n (some i) = min i.toNat n := by
  obtain ⟨k, rfl⟩ := Int.eq_ofNat_of_zero_le h0
  exact HT.sIx_nat n n k
theorem sIx_from {n d : Nat} {i : Int} (h0 : 0 ≤ i) : HT.sIx n d (some i) = min i.toNat n := by
  obtain ⟨k, rfl⟩ := Int.eq_ofNat_of_zero_le h0
  exact HT.sIx_nat n d k
theorem cutD_to {ds : List D} {i : Int} (h0 : 0 ≤ i) : cutD ds none (some i) = ds.take i.toNat := by
  unfold cutD
  rw [HT.sIx_none, sIx_to h0, List.drop_zero, Nat.sub_zero]
  by_cases h : i.toNat ≤ ds.length
  · rw [Nat.min_eq_left h]
  · rw [Nat.min_eq_right (by omega), List.take_length, List.take_of_length_le (by omega)]
theorem cutD_from {ds : List D} {i : Int} (h0 : 0 ≤ i) : cutD ds (some i) none = ds.drop i.toNat := by
  unfold cutD
  rw [HT.sIx_none, sIx_from h0]
  by_cases h : i.toNat ≤ ds.length
  · rw [Nat.min_eq_left h, List.take_of_length_le (by rw [List.length_drop]; exact Nat.le_refl _)]
  · rw [Nat.min_eq_right (by omega), Nat.sub_self, List.take_zero, List.drop_of_length_le (by omega)]
theorem atI_in {α : Type} {xs : List α} {i : Int} (h0 : 0 ≤ i) (h1 : i < xs.length) : atI xs i = some (xs[i.toNat]'(by omega)) := by
  obtain ⟨k, rfl⟩ := Int.eq_ofNat_of_zero_le h0
  have hk : k < xs.length := by omega
  exact atI_nat (by simp)
theorem ixN_in {n : Nat} {i : Int} (h0 : 0 ≤ i) (h1 : i < n) : ixN n i = some i.toNat := by
  unfold ixN
  rw [if_pos h0, if_pos h1]
theorem shp_int {i : Int} : shp (.int i) = true := rfl
theorem shp_str {x : Str} : shp (.str x) = PyData.strOk x := by
  unfold shp toPy SeqAt.shaped PyData.canLay0 PyData.depth
  simp
@[simp] theorem dEq_int {i j : Int} : dEq (.int i) (.int j) = some (.val (.bl (i == j))) := by
  unfold dEq
  rw [shp_int, shp_int]
  rfl
@[simp] theorem dNe_int {i j : Int} : dNe (.int i) (.int j) = some (.val (.bl (!(i == j)))) := by
  unfold dNe
  rw [shp_int, shp_int]
  rfl
theorem dEq_str {x y : Str} (hx : PyData.strOk x = true) (hy : PyData.strOk y = true) : dEq (.str x) (.str y) = some (.val (.bl (x == y))) := by
  unfold dEq
  rw [shp_str, shp_str, hx, hy]
  rfl
section
variable {jc : List D} {T : Jr} {x y z : List D}
@[simp] theorem cell_get1 : (jc :: (T ++ [x]))[T.length + 1]? = some x := by simp
@[simp] theorem cell_set1 : (jc :: (T ++ [x])).set (T.length + 1) y = jc :: (T ++ [y]) := by simp
end
end L2.Pz
set_option Elab.async false
set_option linter.all false
set_option maxRecDepth 100000
set_option maxHeartbeats 4000000
set_option autoImplicit false
namespace K03
open PySem PySem.Spec PyProof.Rows L2 L2.Pz
/-! ### what the defs compute -/
def B_l_jar : SF := (sSeq (sSet 1 (eBin dAdd (eC (.int 90001)) (eBin dMul (eC (.int 6)) (eUn dLen (eName 0)))))
  (sSeq (sFor (iAny (eName 0)) (tgName 2) (sSet 1 (eBin dMod (eBin dAdd (eBin dAdd (eBin dMul (eName 1) (eC (.int 524287))) (eBin dMod (eUn dAbs (eUn dToInt (eName 2))) (eBin dShl (eC (.int 1)) (eC (.int 2000))))) (eC (.int 29))) (eC (.int 162259276829213363391578010288127)))))
  (sRet (eLst [(eName 1), (eC (.int 1))]))))
def F_l_jar : FT := mkF 3 B_l_jar
def B_l_draw : SF := (sSeq (sSetI 0 (eC (.int 1)) (eBin dAdd (eUn dToInt (eBin dIx (eName 0) (eC (.int 1)))) (eC (.int 1))))
  (sSeq (sSetI 0 (eC (.int 0)) (eBin dMod (eBin dAdd (eBin dAdd (eBin dMul (eUn dToInt (eBin dIx (eName 0) (eC (.int 0)))) (eC (.int 48112959837082048697))) (eBin dMul (eUn dToInt (eBin dIx (eName 0) (eC (.int 1)))) (eC (.int 7919)))) (eC (.int 3))) (eC (.int 162259276829213363391578010288127))))
  (sRet (eBin dMod (eBin dShr (eUn dToInt (eBin dIx (eName 0) (eC (.int 0)))) (eC (.int 41))) (eName 1)))))
def F_l_draw : FT := mkF 2 B_l_draw
def B_l_shuffled : SF := (sSeq (sSet 2 (eUn dList (eName 1)))
  (sSeq (sNew 3 (eLst []))
  (sSeq (sFor (iRange1 (eUn dLen (eName 1))) (tgName 4) (sSeq (sSet 5 (eCall F_l_draw [(eName 0), (eUn dLen (eName 2))]))
  (sSeq (sApp 3 (eBin dIx (eName 2) (eName 5)))
  (sSet 2 (eBin dAdd (eSl (eName 2) none (some (eName 5))) (eSl (eName 2) (some (eBin dAdd (eName 5) (eC (.int 1)))) none))))))
  (sRet (eNorm (eName 3))))))
def F_l_shuffled : FT := mkF 6 B_l_shuffled
def B_two_rows : SF := (sSeq (sAsg (tgSeq [1, 2]) (eSl (eName 0) none (some (eC (.int 2)))))
  (sSeq (sIf (bCmp dEq (eName 1) (eC (.str "held"))) (sRet (eTup [(eTup [(eName 2)]), (eTup [(eName 2), (eName 2)])])) sNext)
  (sSeq (sIf (bCmp dEq (eName 1) (eC (.str "idle"))) (sRet (eTup [(eTup []), (eTup [(eName 2)])])) sNext)
  (sSeq (sIf (bCmp dEq (eName 1) (eC (.str "loose"))) (sRet (eTup [(eTup [(eName 2), (eBin dIx (eName 0) (eC (.int 2)))]), (eTup [(eBin dIx (eName 0) (eC (.int 2))), (eName 2)])])) sNext)
  (sRet (eTup [(eTup [(eName 2)]), (eTup [(eBin dIx (eName 0) (eC (.int 2)))])]))))))
def F_two_rows : FT := mkF 3 B_two_rows
def B_l_pool : SF := (sSeq (sSet 1 (eLst []))
  (sSeq (sFor (iRange1 (eName 0)) (tgName 2) (sSeq (sSet 1 (eBin dAdd (eBin dAdd (eName 1) (eLc (iRange1 (eName 2)) (tgName 3) bYes (eTup [(eC (.str "same")), (eName 3), (eName 2)]) [3])) (eLst [(eTup [(eC (.str "idle")), (eName 2)])])))
  (sSet 1 (eBin dAdd (eBin dAdd (eName 1) (eLst [(eTup [(eC (.str "held")), (eName 2)])])) (eLc (iRange1 (eName 2)) (tgName 3) bYes (eTup [(eC (.str "loose")), (eName 3), (eName 2)]) [3])))))
  (sRet (eNorm (eName 1)))))
def F_l_pool : FT := mkF 4 B_l_pool
def B_l_same (Fr : FT) : SF := (sSeq (sIf (bTruth (eUn (dIsa "tuple") (eName 1))) (sSeq (sIf (bOr (bNot (bTruth (eUn (dIsa "tuple") (eName 0)))) (bCmp dNe (eUn dLen (eName 0)) (eUn dLen (eName 1)))) (sRet (eNorm (eC (.bl false)))) sNext)
  (sSeq (sFor (iRange1 (eUn dLen (eName 1))) (tgName 2) (sIf (bNot (bTruth (eCall Fr [(eBin dIx (eName 0) (eName 2)), (eBin dIx (eName 1) (eName 2))]))) (sRet (eNorm (eC (.bl false)))) sNext))
  (sRet (eNorm (eC (.bl true)))))) sNext)
  (sSeq (sIf (bTruth (eUn (dIsa "str") (eName 1))) (sRet (eAnd (eUn (dIsa "str") (eName 0)) (eBin dEq (eName 0) (eName 1)))) sNext)
  (sRet (eAnd (eUn (dIsa "int") (eName 0)) (eAnd (eNot (eUn (dIsa "bool") (eName 0))) (eBin dEq (eName 0) (eName 1)))))))
def R_l_same : Nat → FT
  | 0 => fun _ _ => .stuck
  | k + 1 => mkF 3 (B_l_same (R_l_same k))
def F_l_same : FT := R_l_same 8
def B_l_two : SF := (sSeq (sIf (bCmp dEq (eBin dIx (eName 0) (eC (.int 0))) (eC (.str "held"))) (sRet (eTup [(eTup [(eBin dIx (eName 0) (eC (.int 1)))]), (eTup [(eBin dIx (eName 0) (eC (.int 1))), (eBin dIx (eName 0) (eC (.int 1)))])])) sNext)
  (sSeq (sIf (bCmp dEq (eBin dIx (eName 0) (eC (.int 0))) (eC (.str "idle"))) (sRet (eTup [(eTup []), (eTup [(eBin dIx (eName 0) (eC (.int 1)))])])) sNext)
  (sSeq (sIf (bCmp dEq (eBin dIx (eName 0) (eC (.int 0))) (eC (.str "same"))) (sRet (eTup [(eTup [(eBin dIx (eName 0) (eC (.int 1)))]), (eTup [(eBin dIx (eName 0) (eC (.int 2)))])])) sNext)
  (sRet (eTup [(eTup [(eBin dIx (eName 0) (eC (.int 1))), (eBin dIx (eName 0) (eC (.int 2)))]), (eTup [(eBin dIx (eName 0) (eC (.int 2))), (eBin dIx (eName 0) (eC (.int 1)))])])))))
def F_l_two : FT := mkF 1 B_l_two
def B_l_rows_of_changes : SF := (sSeq (sFor (iAny (eCall F_l_shuffled [(eName 0), (eCall F_l_pool [(eC (.int 5))])])) (tgName 1) (sSeq (sSet 2 (eCall F_l_two [(eName 1)]))
  (sSeq (sSet 3 (eCall F_two_rows [(eName 1)]))
  (sSeq (sIf (bCmp dEq (eCall F_l_draw [(eName 0), (eC (.int 8))]) (eC (.int 0))) (sSet 3 (eCallK F_two_rows [0] [(eName 1)])) sNext)
  (sIf (bNot (bTruth (eCall F_l_same [(eName 3), (eName 2)]))) (sRet (eNorm (eC (.bl false)))) sNext)))))
  (sRet (eNorm (eC (.bl true)))))
def F_l_rows_of_changes : FT := mkF 4 B_l_rows_of_changes
def B_changes_of : SF := (sRet (eUn dTuple (eLc (iAny (eBin dIx (eName 0) (eC (.int 1)))) (tgName 2) (bCmp dEq (eBin dIx (eName 2) (eC (.int 0))) (eName 1)) (eName 2) [2])))
def F_changes_of : FT := mkF 3 B_changes_of
def B_l_of : SF := (sSeq (sSet 2 (eTup []))
  (sSeq (sFor (iAny (eBin dIx (eName 0) (eC (.int 1)))) (tgName 3) (sIf (bCmp dEq (eBin dIx (eName 3) (eC (.int 0))) (eName 1)) (sSet 2 (eBin dAdd (eName 2) (eTup [(eName 3)]))) sNext))
  (sRet (eNorm (eName 2)))))
def F_l_of : FT := mkF 4 B_l_of
def B_l_kinds : SF := (sSeq (sFor (iAny (eCall F_l_shuffled [(eName 0), (eLst [(eC (.str "held")), (eC (.str "idle")), (eC (.str "loose")), (eC (.str "same"))])])) (tgName 2) (sSeq (sSet 3 (eCall F_l_of [(eName 1), (eName 2)]))
  (sSeq (sSet 4 (eCall F_changes_of [(eName 1), (eName 2)]))
  (sSeq (sIf (bCmp dEq (eCall F_l_draw [(eName 0), (eC (.int 8))]) (eC (.int 0))) (sSet 4 (eCallK F_changes_of [1, 0] [(eName 2), (eName 1)])) sNext)
  (sIf (bNot (bTruth (eCall F_l_same [(eName 4), (eName 3)]))) (sRet (eNorm (eC (.bl false)))) sNext)))))
  (sRet (eNorm (eC (.bl true)))))
def F_l_kinds : FT := mkF 5 B_l_kinds
def B_with_change : SF := (sRet (eTup [(eBin dIx (eName 0) (eC (.int 0))), (eBin dAdd (eBin dIx (eName 0) (eC (.int 1))) (eTup [(eName 1)]))]))
def F_with_change : FT := mkF 2 B_with_change
def B_without_change : SF := (sRet (eTup [(eBin dIx (eName 0) (eC (.int 0))), (eBin dAdd (eSl (eBin dIx (eName 0) (eC (.int 1))) none (some (eName 1))) (eSl (eBin dIx (eName 0) (eC (.int 1))) (some (eBin dAdd (eName 1) (eC (.int 1)))) none))]))
def F_without_change : FT := mkF 2 B_without_change
def B_l_more : SF := (sSeq (sSet 2 (eLc (iAny (eCall F_l_pool [(eUn dLen (eBin dIx (eName 1) (eC (.int 0))))])) (tgName 3) (bCmp dNotIn (eName 3) (eBin dIx (eName 1) (eC (.int 1)))) (eName 3) [3]))
  (sSeq (sFor (iAny (eSl (eCall F_l_shuffled [(eName 0), (eName 2)]) none (some (eC (.int 4))))) (tgName 3) (sSeq (sSet 4 (eTup [(eBin dIx (eName 1) (eC (.int 0))), (eBin dAdd (eBin dIx (eName 1) (eC (.int 1))) (eTup [(eName 3)]))]))
  (sSeq (sSet 5 (eCall F_with_change [(eName 1), (eName 3)]))
  (sSeq (sIf (bCmp dEq (eCall F_l_draw [(eName 0), (eC (.int 8))]) (eC (.int 0))) (sSet 5 (eCallK F_with_change [1, 0] [(eName 3), (eName 1)])) sNext)
  (sSeq (sIf (bNot (bTruth (eCall F_l_same [(eName 5), (eName 4)]))) (sRet (eNorm (eC (.bl false)))) sNext)
  (sIf (bCmp dLe (eUn dLen (eBin dIx (eName 4) (eC (.int 1)))) (eC (.int 12))) (sSeq (sIf (bNot (bTruth (eCall F_l_same [(eCall F_without_change [(eName 5), (eUn dLen (eBin dIx (eName 1) (eC (.int 1))))]), (eName 1)]))) (sRet (eNorm (eC (.bl false)))) sNext)
  (sIf (bNot (bTruth (eCall F_l_same [(eCall F_changes_of [(eName 5), (eBin dIx (eName 3) (eC (.int 0)))]), (eCall F_l_of [(eName 4), (eBin dIx (eName 3) (eC (.int 0)))])]))) (sRet (eNorm (eC (.bl false)))) sNext)) sNext))))))
  (sRet (eNorm (eC (.bl true))))))
def F_l_more : FT := mkF 6 B_l_more
def B_l_less : SF := (sRet (eTup [(eBin dIx (eName 0) (eC (.int 0))), (eBin dAdd (eSl (eBin dIx (eName 0) (eC (.int 1))) none (some (eName 1))) (eSl (eBin dIx (eName 0) (eC (.int 1))) (some (eBin dAdd (eName 1) (eC (.int 1)))) none))]))
def F_l_less : FT := mkF 2 B_l_less
def B_l_fewer : SF := (sSeq (sFor (iAny (eCall F_l_shuffled [(eName 0), (eRg mkL (iRange1 (eUn dLen (eBin dIx (eName 1) (eC (.int 1))))))])) (tgName 2) (sSeq (sSet 3 (eCall F_l_less [(eName 1), (eName 2)]))
  (sSeq (sSet 4 (eCall F_without_change [(eName 1), (eName 2)]))
  (sSeq (sIf (bCmp dEq (eCall F_l_draw [(eName 0), (eC (.int 8))]) (eC (.int 0))) (sSet 4 (eCallK F_without_change [1, 0] [(eName 2), (eName 1)])) sNext)
  (sSeq (sIf (bNot (bTruth (eCall F_l_same [(eName 4), (eName 3)]))) (sRet (eNorm (eC (.bl false)))) sNext)
  (sIf (bCmp dEq (eCall F_l_draw [(eName 0), (eC (.int 3))]) (eC (.int 0))) (sSeq (sSet 5 (eTup [(eBin dIx (eName 3) (eC (.int 0))), (eBin dAdd (eBin dIx (eName 3) (eC (.int 1))) (eTup [(eBin dIx (eBin dIx (eName 1) (eC (.int 1))) (eName 2))]))]))
  (sIf (bNot (bTruth (eCall F_l_same [(eCall F_with_change [(eName 4), (eBin dIx (eBin dIx (eName 1) (eC (.int 1))) (eName 2))]), (eName 5)]))) (sRet (eNorm (eC (.bl false)))) sNext)) sNext))))))
  (sRet (eNorm (eC (.bl true)))))
def F_l_fewer : FT := mkF 6 B_l_fewer
def B_carried_change : SF := (sSeq (sIf (bCmp dEq (eUn dLen (eName 0)) (eC (.int 2))) (sRet (eTup [(eBin dIx (eName 0) (eC (.int 0))), (eBin dIx (eName 1) (eBin dIx (eName 0) (eC (.int 1))))])) sNext)
  (sSeq (sAsg (tgSeq [2, 3]) (eUn dSorted (eLst [(eBin dIx (eName 1) (eBin dIx (eName 0) (eC (.int 1)))), (eBin dIx (eName 1) (eBin dIx (eName 0) (eC (.int 2))))])))
  (sRet (eTup [(eBin dIx (eName 0) (eC (.int 0))), (eName 2), (eName 3)]))))
def F_carried_change : FT := mkF 4 B_carried_change
def B_carried_setting : SF := (sSeq (sNew 2 (eRep (eLst [(eC .non)]) (eUn dLen (eName 1))))
  (sSeq (sFor (iEnumD (eName 1)) (tgSeq [3, 4]) (sSetI 2 (eName 4) (eBin dIx (eBin dIx (eName 0) (eC (.int 0))) (eName 3))))
  (sRet (eTup [(eUn dTuple (eName 2)), (eUn dTuple (eLc (iAny (eBin dIx (eName 0) (eC (.int 1)))) (tgName 5) bYes (eCall F_carried_change [(eName 5), (eName 1)]) [5]))]))))
def F_carried_setting : FT := mkF 6 B_carried_setting
def B_l_carried : SF := (sSeq (sNew 2 (eUn dList (eBin dIx (eName 0) (eC (.int 0)))))
  (sSeq (sFor (iRange1 (eUn dLen (eName 1))) (tgName 3) (sSetI 2 (eBin dIx (eName 1) (eName 3)) (eBin dIx (eBin dIx (eName 0) (eC (.int 0))) (eName 3))))
  (sSeq (sNew 4 (eLst []))
  (sSeq (sFor (iAny (eBin dIx (eName 0) (eC (.int 1)))) (tgName 5) (sSeq (sSet 6 (eLc (iAny (eSl (eName 5) (some (eC (.int 1))) none)) (tgName 3) bYes (eBin dIx (eName 1) (eName 3)) [3]))
  (sSeq (sIf (bAnd (bCmp dEq (eUn dLen (eName 6)) (eC (.int 2))) (bCmp dGt (eBin dIx (eName 6) (eC (.int 0))) (eBin dIx (eName 6) (eC (.int 1))))) (sSet 6 (eLst [(eBin dIx (eName 6) (eC (.int 1))), (eBin dIx (eName 6) (eC (.int 0)))])) sNext)
  (sApp 4 (eBin dAdd (eTup [(eBin dIx (eName 5) (eC (.int 0)))]) (eUn dTuple (eName 6)))))))
  (sRet (eTup [(eUn dTuple (eName 2)), (eUn dTuple (eName 4))]))))))
def F_l_carried : FT := mkF 7 B_l_carried
def B_l_back : SF := (sSeq (sNew 1 (eUn dList (eName 0)))
  (sSeq (sFor (iRange1 (eUn dLen (eName 0))) (tgName 2) (sSetI 1 (eBin dIx (eName 0) (eName 2)) (eName 2)))
  (sRet (eUn dTuple (eName 1)))))
def F_l_back : FT := mkF 3 B_l_back
def B_l_moved : SF := (sSeq (sSet 2 (eUn dLen (eBin dIx (eName 1) (eC (.int 0)))))
  (sSeq (sSet 3 (eLst [(eRg mkT (iRange1 (eName 2))), (eUn dTuple (eBin dAdd (eRg mkL (iRange2 (eC (.int 1)) (eName 2))) (eLst [(eC (.int 0))]))), (eUn dTuple (eLc (iRange1 (eName 2)) (tgName 9) bYes (eBin dSub (eBin dSub (eName 2) (eC (.int 1))) (eName 9)) [9]))]))
  (sSeq (sSet 3 (eBin dAdd (eName 3) (eLst [(eUn dTuple (eBin dAdd (eLst [(eBin dSub (eName 2) (eC (.int 1)))]) (eRg mkL (iRange1 (eBin dSub (eName 2) (eC (.int 1)))))))])))
  (sSeq (sSet 3 (eBin dAdd (eName 3) (eLc (iRange1 (eC (.int 3))) (tgName 8) bYes (eUn dTuple (eCall F_l_shuffled [(eName 0), (eRg mkL (iRange1 (eName 2)))])) [8])))
  (sSeq (sFor (iAny (eName 3)) (tgName 4) (sSeq (sSet 5 (eCall F_l_carried [(eName 1), (eName 4)]))
  (sSeq (sSet 6 (eCall F_carried_setting [(eName 1), (eName 4)]))
  (sSeq (sIf (bCmp dEq (eCall F_l_draw [(eName 0), (eC (.int 8))]) (eC (.int 0))) (sSet 6 (eCallK F_carried_setting [1, 0] [(eName 4), (eName 1)])) sNext)
  (sSeq (sIf (bNot (bTruth (eCall F_l_same [(eName 6), (eName 5)]))) (sRet (eNorm (eC (.bl false)))) sNext)
  (sSeq (sIf (bNot (bTruth (eCall F_l_same [(eCall F_carried_setting [(eName 6), (eCall F_l_back [(eName 4)])]), (eName 1)]))) (sRet (eNorm (eC (.bl false)))) sNext)
  (sSeq (sSet 7 (eBin dIx (eName 3) (eCall F_l_draw [(eName 0), (eUn dLen (eName 3))])))
  (sIf (bNot (bTruth (eCall F_l_same [(eCall F_carried_setting [(eName 6), (eName 7)]), (eCall F_l_carried [(eName 5), (eName 7)])]))) (sRet (eNorm (eC (.bl false)))) sNext))))))))
  (sRet (eNorm (eC (.bl true)))))))))
def F_l_moved : FT := mkF 10 B_l_moved
def B_l_look : SF := (sSeq (sIf (bCmp dEq (eName 2) (eC (.int 0))) (sRet (eCall F_l_kinds [(eName 0), (eName 1)])) sNext)
  (sSeq (sIf (bCmp dEq (eName 2) (eC (.int 1))) (sRet (eCall F_l_more [(eName 0), (eName 1)])) sNext)
  (sSeq (sIf (bCmp dEq (eName 2) (eC (.int 2))) (sRet (eCall F_l_fewer [(eName 0), (eName 1)])) sNext)
  (sRet (eCall F_l_moved [(eName 0), (eName 1)])))))
def F_l_look : FT := mkF 3 B_l_look
def B_l_barred : SF := (sSeq (sSet 0 (eLst [(eC (.str "sign")), (eC (.str "held")), (eC (.str "idle")), (eC (.str "loose")), (eC (.str "same")), (eC (.str "state")), (eC (.str "flag")), (eC (.str "count")), (eC (.str "on")), (eC (.str "if")), (eC (.str "and")), (eC (.str "do")), (eC (.str "no"))]))
  (sRet (eBin dAdd (eName 0) (eLst [(eC (.str "least")), (eC (.str "below")), (eC (.str "raise")), (eC (.str "clear")), (eC (.str "add")), (eC (.str "drop")), (eC (.str "tell")), (eC (.str "path")), (eC (.str "machine")), (eC (.str "program")), (eC (.str "rows"))]))))
def F_l_barred : FT := mkF 1 B_l_barred
def B_l_names : SF := (sSeq (sSet 2 (eC (.str "abcdefghijklmnopqrstuvwxyz")))
  (sSeq (sNew 3 (eLst []))
  (sSeq (sFor (iRange1 (eName 1)) (tgName 4) (sSeq (sSet 5 (eBin dIx (eName 2) (eCall F_l_draw [(eName 0), (eC (.int 26))])))
  (sSeq (sFor (iRange1 (eBin dIx (eLst [(eC (.int 0)), (eC (.int 0)), (eC (.int 1)), (eC (.int 3)), (eC (.int 7))]) (eCall F_l_draw [(eName 0), (eC (.int 5))]))) (tgName 6) (sSet 5 (eBin dAdd (eName 5) (eBin dIx (eBin dAdd (eName 2) (eC (.str "0123456789"))) (eCall F_l_draw [(eName 0), (eC (.int 36))])))))
  (sSeq (sFor (iAny (eLst [(eC (.str "x")), (eC (.str "x0")), (eC (.str "x1")), (eC (.str "y")), (eC (.str "yy")), (eC (.str "z8z"))])) (tgName 7) (sIf (bOr (bCmp dIn (eName 5) (eName 3)) (bCmp dIn (eName 5) (eCall F_l_barred []))) (sSet 5 (eName 7)) sNext))
  (sApp 3 (eName 5))))))
  (sRet (eUn dTuple (eName 3))))))
def F_l_names : FT := mkF 8 B_l_names
def B_l_setting : SF := (sRet (eTup [(eCall F_l_names [(eName 0), (eName 1)]), (eUn dTuple (eSl (eCall F_l_shuffled [(eName 0), (eCall F_l_pool [(eName 1)])]) none (some (eName 2))))]))
def F_l_setting : FT := mkF 3 B_l_setting
def B_l_settings : SF := (sSeq (sNew 1 (eLst [(eCall F_l_setting [(eName 0), (eC (.int 5)), (eC (.int 12))]), (eCall F_l_setting [(eName 0), (eC (.int 5)), (eC (.int 11))]), (eCall F_l_setting [(eName 0), (eC (.int 1)), (eCall F_l_draw [(eName 0), (eC (.int 3))])])]))
  (sSeq (sApp 1 (eCall F_l_setting [(eName 0), (eBin dAdd (eC (.int 2)) (eCall F_l_draw [(eName 0), (eC (.int 4))])), (eC (.int 0))]))
  (sSeq (sApp 1 (eCall F_l_setting [(eName 0), (eC (.int 3)), (eBin dAdd (eC (.int 10)) (eCall F_l_draw [(eName 0), (eC (.int 3))]))]))
  (sSeq (sFor (iRange1 (eC (.int 2))) (tgName 2) (sApp 1 (eCall F_l_setting [(eName 0), (eBin dAdd (eC (.int 2)) (eCall F_l_draw [(eName 0), (eC (.int 4))])), (eCall F_l_draw [(eName 0), (eC (.int 13))])])))
  (sSeq (sSet 3 (eCall F_l_names [(eName 0), (eC (.int 4))]))
  (sSeq (sApp 1 (eTup [(eName 3), (eTup [(eTup [(eC (.str "same")), (eC (.int 1)), (eC (.int 3))]), (eTup [(eC (.str "idle")), (eC (.int 2))]), (eTup [(eC (.str "same")), (eC (.int 0)), (eC (.int 3))]), (eTup [(eC (.str "idle")), (eC (.int 0))]), (eTup [(eC (.str "same")), (eC (.int 0)), (eC (.int 1))])])]))
  (sSeq (sSet 4 (eLc (iAny (eCall F_l_pool [(eC (.int 5))])) (tgName 5) (bCmp dEq (eBin dIx (eName 5) (eC (.int 0))) (eC (.str "loose"))) (eName 5) [5]))
  (sSeq (sApp 1 (eTup [(eCall F_l_names [(eName 0), (eC (.int 5))]), (eUn dTuple (eCall F_l_shuffled [(eName 0), (eBin dAdd (eName 4) (eLst [(eTup [(eC (.str "same")), (eC (.int 0)), (eC (.int 4))]), (eTup [(eC (.str "held")), (eC (.int 2))])]))]))]))
  (sSeq (sApp 1 (eTup [(eName 3), (eTup [(eTup [(eC (.str "loose")), (eC (.int 2)), (eC (.int 3))]), (eTup [(eC (.str "held")), (eC (.int 3))]), (eTup [(eC (.str "loose")), (eC (.int 0)), (eC (.int 2))]), (eTup [(eC (.str "held")), (eC (.int 1))]), (eTup [(eC (.str "loose")), (eC (.int 0)), (eC (.int 3))]), (eTup [(eC (.str "held")), (eC (.int 0))])])]))
  (sRet (eNorm (eName 1))))))))))))
def F_l_settings : FT := mkF 6 B_l_settings
def B_law : SF := (sSeq (sNew 1 (eCall F_l_jar [(eName 0)]))
  (sSeq (sSet 2 (eCall F_l_shuffled [(eName 1), (eCall F_l_settings [(eName 1)])]))
  (sSeq (sIf (bNot (bTruth (eCall F_l_rows_of_changes [(eName 1)]))) (sRet (eNorm (eC (.bl false)))) sNext)
  (sSeq (sSet 3 (eC (.int 0)))
  (sSeq (sFor (iAny (eName 2)) (tgName 4) (sFor (iAny (eCall F_l_shuffled [(eName 1), (eLst [(eC (.int 0)), (eC (.int 1)), (eC (.int 2)), (eC (.int 3))])])) (tgName 6) (sSeq (sIf (bNot (bTruth (eCall F_l_look [(eName 1), (eName 4), (eName 6)]))) (sRet (eNorm (eC (.bl false)))) sNext)
  (sSet 3 (eBin dAdd (eName 3) (eC (.int 1)))))))
  (sSeq (sFor (iRange1 (eC (.int 4))) (tgName 5) (sSeq (sSet 4 (eBin dIx (eName 2) (eCall F_l_draw [(eName 1), (eUn dLen (eName 2))])))
  (sIf (bNot (bTruth (eCall F_l_look [(eName 1), (eName 4), (eCall F_l_draw [(eName 1), (eC (.int 4))])]))) (sRet (eNorm (eC (.bl false)))) sNext)))
  (sRet (eAnd (eCall F_l_rows_of_changes [(eName 1)]) (eBin dEq (eName 3) (eC (.int 40)))))))))))
def F_law : FT := mkF 7 B_law
end K03
set_option Elab.async false
set_option linter.all false
set_option maxRecDepth 100000
set_option maxHeartbeats 4000000
set_option autoImplicit false
namespace K03
open PySem L2 L2.Pz
/-! ### the jar -/
abbrev M : Int := 162259276829213363391578010288127
def Jb (b : Nat) (jc : List D) : Prop := ∃ s c : Int, jc = [.int s, .int c] ∧ 0 ≤ s ∧ s < M ∧ 0 ≤ c ∧ c ≤ b
abbrev LIM : Nat := 1000000000
theorem Jb.mono {b b' : Nat} {jc : List D} (h : Jb b jc) (hb : b ≤ b') : Jb b' jc := by
  obtain ⟨s, c, e, h1, h2, h3, h4⟩ := h
  exact ⟨s, c, e, h1, h2, h3, by omega⟩
variable {X : XP} {Q : HV → Jr → Prop} {T : Jr} {jc : List D} {b : Nat}
theorem jar_spec (ns : List Int) (h : ∀ jc, Jb 1 jc → Q (.new jc) []) (hn : ns.length ≤ 63) : Ex X (F_l_jar [.val (.lst (ns.map D.int))] []) Q := by
  unfold F_l_jar B_l_jar
  rw [Ex_mkF]
  have l6 : Nat.log2 6 + ns.length.log2 < 1000000 := by
    have := log2_lt' (n := ns.length) (k := 7) (by omega) (by decide)
    have := log2_lt' (n := 6) (k := 7) (by decide) (by decide)
    omega
  simp [startE, dAdd, dMul, dInt2, dLen, Sx_for, l6]
  refine Sx_loop (fun i env J => ∃ x s z, env = [x, some (.val (.int s)), z] ∧ J = [] ∧ 0 ≤ s ∧ s < M) ?_ ?_ ?_
  · exact ⟨_, _, _, rfl, rfl, by omega, by show _ < (162259276829213363391578010288127 : Int); omega⟩
  · rintro i d env J hd ⟨x, s, z, rfl, rfl, h0, h1⟩
    have hM : M = 162259276829213363391578010288127 := rfl
    rw [List.getElem?_map] at hd
    obtain ⟨v, rfl⟩ : ∃ v, d = .int v := by
      cases e : ns[i]? with
      | none => rw [e] at hd; cases hd
      | some v => rw [e] at hd; exact ⟨v, by simpa using hd.symm⟩
    have a1 := log2_lt' (n := s.natAbs) (k := 200) (by omega) (by decide)
    have a2 := log2_lt' (n := 524287) (k := 200) (by decide) (by decide)
    simp [tgName, dAdd, dMul, dInt2, dLen, dAbs, dToInt, dMod, dShl]
    refine ⟨by omega, by decide, _, _, ⟨rfl, rfl⟩, ?_, ?_⟩
    · exact Int.emod_nonneg _ (by decide)
    · exact Int.emod_lt_of_pos _ (by decide)
  · rintro env J ⟨x, s, z, rfl, rfl, h0, h1⟩
    simp [big]
    exact h _ ⟨s, 1, rfl, h0, h1, by decide, by decide⟩
theorem draw_spec {m : Int} (hj : Jb b jc) (hb : b ≤ LIM) (hm : 0 < m) (h : ∀ r jc', 0 ≤ r → r < m → Jb (b + 1) jc' → Q (.val (.int r)) (jc' :: T)) : Ex X (F_l_draw [.jar 0, .val (.int m)] (jc :: T)) Q := by
  obtain ⟨s, c, rfl, h1, h2, h3, h4⟩ := hj
  unfold F_l_draw B_l_draw
  rw [Ex_mkF]
  have hL : (LIM : Nat) = 1000000000 := rfl
  have hM : M = 162259276829213363391578010288127 := rfl
  have a1 := log2_lt' (n := s.natAbs) (k := 200) (by omega) (by decide)
  have a2 := log2_lt' (n := 48112959837082048697) (k := 200) (by decide) (by decide)
  have a3 := log2_lt' (n := (c + 1).natAbs) (k := 200) (by omega) (by decide)
  have a4 := log2_lt' (n := 7919) (k := 200) (by decide) (by decide)
  simp [startE, dAdd, dMul, dInt2, dLen, dIx, dToInt, dMod, dShr, atI, ixN]
  refine ⟨by omega, by omega, hm, h _ _ (Int.emod_nonneg _ (by omega)) (Int.emod_lt_of_pos _ hm) ⟨_, _, rfl, ?_, ?_, by omega, by omega⟩⟩
  · exact Int.emod_nonneg _ (by decide)
  · exact Int.emod_lt_of_pos _ (by decide)
theorem shuf_perm {out left : List D} {k : Nat} (hk : k < left.length) : ((out ++ [left[k]]) ++ (left.take k ++ left.drop (k + 1))).Perm (out ++ left) := by
  rw [List.append_assoc]
  refine List.Perm.append_left out ?_
  have e : left = left.take k ++ left[k] :: left.drop (k + 1) := by
    rw [← List.drop_eq_getElem_cons hk, List.take_append_drop]
  have p : (left.take k ++ left[k] :: left.drop (k + 1)).Perm (left[k] :: (left.take k ++ left.drop (k + 1))) := List.perm_middle
  exact (p.symm).trans (by rw [← e])
theorem shuffled_spec {row : List D} (hr : row.length ≤ 1000) (hj : Jb b jc) (hb : b + 1000 ≤ LIM) (h : ∀ jc' out, Jb (b + 1000) jc' → out.Perm row → Q (.new out) (jc' :: T)) : Ex X (F_l_shuffled [.jar 0, .val (.lst row)] (jc :: T)) Q := by
  unfold F_l_shuffled B_l_shuffled
  rw [Ex_mkF]
  have e0 : rgOk row.length = true := by unfold rgOk; simp; omega
  simp [startE, dList, dLen, Sx_for, big, e0]
  refine Sx_loop (fun i env J => ∃ left out x4 x5 jc', env = [some (.jar 0), some (.val (.lst row)), some (.val (.lst left)), some (.jar (T.length + 1)), x4, x5] ∧ J = jc' :: (T ++ [out]) ∧ Jb (b + i) jc' ∧ out.length = i ∧ (out ++ left).Perm row) ?_ ?_ ?_
  · exact ⟨row, [], none, none, jc, rfl, rfl, hj, rfl, .refl _⟩
  · rintro i d env J hd ⟨left, out, x4, x5, jc', rfl, rfl, hj', hl, hp⟩
    have hi := (rgD_get hd).2
    have hlen := hp.length_eq
    rw [List.length_append] at hlen
    simp [tgName, dLen]
    refine draw_spec hj' (by omega) (by omega) fun r jc2 h0 h1 hj2 => ?_
    have hat := atI_in (xs := left) h0 h1
    have hr2 : r.toNat < left.length := by omega
    simp [dIx, hat, dSl, cutD_to h0, dAdd, big]
    rw [cutD_from (by omega)]
    have e1 : (r + 1).toNat = r.toNat + 1 := by omega
    simp [e1]
    exact ⟨by omega, by omega, _, _, ⟨rfl, rfl⟩, hj2.mono (by omega), by simp [hl], (shuf_perm hr2).trans hp⟩
  · rintro env J ⟨left, out, x4, x5, jc', rfl, rfl, hj', hl, hp⟩
    rw [rgD_len] at hj' hl
    have hlen := hp.length_eq
    rw [List.length_append] at hlen
    have : left = [] := List.eq_nil_of_length_eq_zero (by omega)
    subst this
    simp
    rw [outH_jar (ds := out) (by simp) (by simp)]
    simp
    exact h _ _ (hj'.mono (by omega)) (by simpa using hp)
end K03
set_option Elab.async false
set_option linter.all false
set_option maxRecDepth 100000
set_option maxHeartbeats 4000000
set_option autoImplicit false
namespace K03
open PySem L2 L2.Pz
variable {X : XP} {Q : HV → Jr → Prop} {T J : Jr} {jc : List D} {b : Nat}
/-! ### _law_same -/
def sok : Nat → D → Bool
  | _, .str x => PyData.strOk x
  | _, .int _ => true
  | k + 1, .tup ds => ds.all (sok k) && decide (ds.length ≤ 1000000)
  | _, _ => false
theorem same_spec : ∀ (k : Nat) (d : D) (X : XP) (Q : HV → Jr → Prop) (J : Jr), sok k d = true → Q (.val (.bl true)) J → Ex X (R_l_same (k + 1) [.val d, .val d] J) Q
  | k, .str x, X, Q, J, h, q => by
    have h : PyData.strOk x = true := by cases k <;> exact h
    unfold R_l_same B_l_same
    rw [Ex_mkF]
    simp [startE, dIsa, isa, isaS, tyName, truth, dEq_str h h]
    exact q
  | k, .int i, X, Q, J, h, q => by
    unfold R_l_same B_l_same
    rw [Ex_mkF]
    simp [startE, dIsa, isa, isaS, tyName, truth]
    exact q
  | 0, .tup ds, X, Q, J, h, q => by cases h
  | k + 1, .tup ds, X, Q, J, h, q => by
    have h : (ds.all (sok k) && decide (ds.length ≤ 1000000)) = true := h
    rw [Bool.and_eq_true, List.all_eq_true, decide_eq_true_eq] at h
    obtain ⟨h1, h2⟩ := h
    have e0 : rgOk ds.length = true := by unfold rgOk; simp; omega
    show Ex X (mkF 3 (B_l_same (R_l_same (k + 1))) [.val (.tup ds), .val (.tup ds)] J) Q
    unfold B_l_same
    rw [Ex_mkF]
    simp [startE, dIsa, isa, isaS, tyName, truth, dLen, Sx_for, e0]
    refine Sx_loop (fun i env J' => ∃ z, env = [some (.val (.tup ds)), some (.val (.tup ds)), z] ∧ J' = J) ⟨_, rfl, rfl⟩ ?_ ?_
    · rintro i d env J' hd ⟨z, rfl, rfl⟩
      obtain ⟨rfl, hi⟩ := rgD_get hd
      have hat := atI_nat (xs := ds) (j := i) (v := ds[i]) (by simp [hi])
      simp [tgName, dIx, hat]
      refine same_spec k _ _ _ _ (h1 _ (List.getElem_mem hi)) ?_
      simp [truth]
    · rintro env J' ⟨z, rfl, rfl⟩
      simp
      exact q
  | k, .non, X, Q, J, h, q => by cases k <;> cases h
  | k, .bl _, X, Q, J, h, q => by cases k <;> cases h
  | k, .lst _, X, Q, J, h, q => by cases k <;> cases h
theorem same_ok {d : D} (h : sok 7 d = true) (q : Q (.val (.bl true)) J) : Ex X (F_l_same [.val d, .val d] J) Q := same_spec 7 d X Q J h q
/-! ### changes -/
inductive Ch where
  | held (t : Nat) | idle (t : Nat) | same (s t : Nat) | loose (s t : Nat)
def chD : Ch → D
  | .held t => .tup [.str "held", .int t]
  | .idle t => .tup [.str "idle", .int t]
  | .same s t => .tup [.str "same", .int s, .int t]
  | .loose s t => .tup [.str "loose", .int s, .int t]
def kind : Ch → Str
  | .held _ => "held"
  | .idle _ => "idle"
  | .same _ _ => "same"
  | .loose _ _ => "loose"
def okC (n : Nat) : Ch → Prop
  | .held t => t < n
  | .idle t => t < n
  | .same s t => s < t ∧ t < n
  | .loose s t => s < t ∧ t < n
instance (n : Nat) (c : Ch) : Decidable (okC n c) := by cases c <;> unfold okC <;> infer_instance
def poolL (n : Nat) : List Ch := (List.range n).flatMap fun t => (List.range t).map (Ch.same · t) ++ [.idle t] ++ [.held t] ++ (List.range t).map (Ch.loose · t)
theorem pool_ok {n : Nat} (hn : n ≤ 5) : ∀ c ∈ poolL n, okC n c := by
  have : n = 0 ∨ n = 1 ∨ n = 2 ∨ n = 3 ∨ n = 4 ∨ n = 5 := by omega
  rcases this with rfl | rfl | rfl | rfl | rfl | rfl <;> decide
theorem pool_len {n : Nat} (hn : n ≤ 5) : (poolL n).length ≤ 30 := by
  have : n = 0 ∨ n = 1 ∨ n = 2 ∨ n = 3 ∨ n = 4 ∨ n = 5 := by omega
  rcases this with rfl | rfl | rfl | rfl | rfl | rfl <;> decide
theorem pool_spec {n : Nat} (hn : n ≤ 5) (q : Q (.val (.lst ((poolL n).map chD))) J) : Ex X (F_l_pool [.val (.int n)] J) Q := by
  unfold F_l_pool
  rw [Ex_mkF]
  have e : B_l_pool J.length (startE 4 [.val (.int n)]) J = .rt (.val (.lst ((poolL n).map chD))) J := by
    have : n = 0 ∨ n = 1 ∨ n = 2 ∨ n = 3 ∨ n = 4 ∨ n = 5 := by omega
    rcases this with rfl | rfl | rfl | rfl | rfl | rfl <;> rfl
  rw [e]
  simp
  exact q
theorem perm_map {α : Type} {f : α → D} : ∀ {out : List D} {l : List α}, out.Perm (l.map f) → ∃ l' : List α, l'.Perm l ∧ out = l'.map f
  | [], l, h => by
    have := h.length_eq
    rw [List.length_map] at this
    have : l = [] := List.eq_nil_of_length_eq_zero (by simpa using this.symm)
    subst this
    exact ⟨[], .refl _, rfl⟩
  | a :: r, l, h => by
    have ha : a ∈ l.map f := h.subset List.mem_cons_self
    obtain ⟨x, hx, rfl⟩ := List.mem_map.mp ha
    obtain ⟨l1, l2, rfl⟩ := List.append_of_mem hx
    have h2 : (f x :: r).Perm (f x :: (l1 ++ l2).map f) := h.trans (by rw [List.map_append, List.map_append, List.map_cons]; exact List.perm_middle)
    obtain ⟨l', p, e⟩ := perm_map ((List.perm_cons _).mp h2)
    exact ⟨x :: l', ((List.perm_cons x).mpr p).trans List.perm_middle.symm, by rw [e]; rfl⟩
theorem kind_ok (c : Ch) : PyData.strOk (kind c) = true := by cases c <;> with_unfolding_all rfl
theorem ch_sok (c : Ch) : sok 1 (chD c) = true := by cases c <;> simp [chD, sok] <;> decide +kernel
theorem ch_kind (c : Ch) : dIx (chD c) (.int 0) = some (.val (.str (kind c))) := by cases c <;> rfl
theorem two_spec (c : Ch) (h : ∀ d, sok 2 d = true → (∀ (X : XP) (Q : HV → Jr → Prop) J, Q (.val d) J → Ex X (F_two_rows [.val (chD c)] J) Q) → Q (.val d) J) : Ex X (F_l_two [.val (chD c)] J) Q := by
  cases c with
  | held t =>
    have e : ∀ n0 J, B_l_two n0 (startE 1 [.val (chD (.held t))]) J = .rt (.val (.tup [.tup [.int t], .tup [.int t, .int t]])) J := fun _ _ => by with_unfolding_all rfl
    have e2 : ∀ n0 J, B_two_rows n0 (startE 3 [.val (chD (.held t))]) J = .rt (.val (.tup [.tup [.int t], .tup [.int t, .int t]])) J := fun _ _ => by with_unfolding_all rfl
    unfold F_l_two; rw [Ex_mkF, e]; simp
    refine h _ (by simp [sok]) fun X Q J q => ?_
    unfold F_two_rows; rw [Ex_mkF, e2]; simpa using q
  | idle t =>
    have e : ∀ n0 J, B_l_two n0 (startE 1 [.val (chD (.idle t))]) J = .rt (.val (.tup [.tup [], .tup [.int t]])) J := fun _ _ => by with_unfolding_all rfl
    have e2 : ∀ n0 J, B_two_rows n0 (startE 3 [.val (chD (.idle t))]) J = .rt (.val (.tup [.tup [], .tup [.int t]])) J := fun _ _ => by with_unfolding_all rfl
    unfold F_l_two; rw [Ex_mkF, e]; simp
    refine h _ (by simp [sok]) fun X Q J q => ?_
    unfold F_two_rows; rw [Ex_mkF, e2]; simpa using q
  | same s t =>
    have e : ∀ n0 J, B_l_two n0 (startE 1 [.val (chD (.same s t))]) J = .rt (.val (.tup [.tup [.int s], .tup [.int t]])) J := fun _ _ => by with_unfolding_all rfl
    have e2 : ∀ n0 J, B_two_rows n0 (startE 3 [.val (chD (.same s t))]) J = .rt (.val (.tup [.tup [.int s], .tup [.int t]])) J := fun _ _ => by with_unfolding_all rfl
    unfold F_l_two; rw [Ex_mkF, e]; simp
    refine h _ (by simp [sok]) fun X Q J q => ?_
    unfold F_two_rows; rw [Ex_mkF, e2]; simpa using q
  | loose s t =>
    have e : ∀ n0 J, B_l_two n0 (startE 1 [.val (chD (.loose s t))]) J = .rt (.val (.tup [.tup [.int s, .int t], .tup [.int t, .int s]])) J := fun _ _ => by with_unfolding_all rfl
    have e2 : ∀ n0 J, B_two_rows n0 (startE 3 [.val (chD (.loose s t))]) J = .rt (.val (.tup [.tup [.int s, .int t], .tup [.int t, .int s]])) J := fun _ _ => by with_unfolding_all rfl
    unfold F_l_two; rw [Ex_mkF, e]; simp
    refine h _ (by simp [sok]) fun X Q J q => ?_
    unfold F_two_rows; rw [Ex_mkF, e2]; simpa using q
theorem sok_mono : ∀ (k : Nat) (d : D), sok k d = true → ∀ m, k ≤ m → sok m d = true
  | k, .str x, h, m, hm => by have h : PyData.strOk x = true := by cases k <;> exact h
                              cases m <;> exact h
  | k, .int x, h, m, hm => by cases m <;> rfl
  | k + 1, .tup ds, h, m + 1, hm => by
    have h : (ds.all (sok k) && decide (ds.length ≤ 1000000)) = true := h
    show (ds.all (sok m) && decide (ds.length ≤ 1000000)) = true
    rw [Bool.and_eq_true, List.all_eq_true] at h ⊢
    exact ⟨fun d hd => sok_mono k d (h.1 d hd) m (by omega), h.2⟩
  | k + 1, .tup ds, h, 0, hm => by omega
  | 0, .tup ds, h, m, hm => by cases h
  | k, .non, h, m, hm => by cases k <;> cases h
  | k, .bl _, h, m, hm => by cases k <;> cases h
  | k, .lst _, h, m, hm => by cases k <;> cases h
theorem rows_spec (hj : Jb b jc) (hb : b + 2000 ≤ LIM) (h : ∀ jc', Jb (b + 2000) jc' → Q (.val (.bl true)) (jc' :: T)) : Ex X (F_l_rows_of_changes [.jar 0] (jc :: T)) Q := by
  unfold F_l_rows_of_changes B_l_rows_of_changes
  rw [Ex_mkF]
  simp [startE, Sx_for]
  refine pool_spec (n := 5) (by decide) ?_
  have hl := pool_len (n := 5) (by decide)
  simp
  refine shuffled_spec (by simp; omega) hj (by omega) fun jc1 out hj1 hp => ?_
  obtain ⟨cs, hp', rfl⟩ := perm_map hp
  simp
  have hlen := hp'.length_eq
  refine Sx_loop (fun i env J => ∃ z1 z2 z3 jc', env = [some (.jar 0), z1, z2, z3] ∧ J = jc' :: T ∧ Jb (b + 1000 + i) jc' ∧ True) ⟨_, _, _, _, rfl, rfl, hj1, trivial⟩ ?_ ?_
  · rintro i d env J hd ⟨z1, z2, z3, jc', rfl, rfl, hj', _⟩
    rw [List.getElem?_map] at hd
    obtain ⟨c, hc, rfl⟩ : ∃ c, cs[i]? = some c ∧ d = chD c := by
      cases e : cs[i]? with
      | none => rw [e] at hd; cases hd
      | some c => rw [e] at hd; exact ⟨c, rfl, by simpa using hd.symm⟩
    have hi : i < cs.length := (List.getElem?_eq_some_iff.mp hc).1
    simp [tgName]
    refine two_spec c fun d hd two => ?_
    simp
    refine two _ _ _ ?_
    simp
    have hl2 : (poolL 5).length = (List.map chD (poolL 5)).length := (List.length_map _).symm
    refine draw_spec hj' (by omega) (by decide) fun r jc2 h0 h1 hj2 => ?_
    simp [permute]
    split
    · refine two _ _ _ ?_
      simp
      refine same_ok (sok_mono _ _ hd _ (by decide)) ?_
      simp [truth]
      exact hj2.mono (by omega)
    · refine same_ok (sok_mono _ _ hd _ (by decide)) ?_
      simp [truth]
      exact hj2.mono (by omega)
  · rintro env J ⟨z1, z2, z3, jc', rfl, rfl, hj', _⟩
    simp
    refine h _ (hj'.mono ?_)
    rw [List.length_map]
    omega
/-! ### names -/
theorem str_app {x y : Str} (hx : PyData.strOk x = true) (hy : PyData.strOk y = true) : PyData.strOk (x ++ y) = true := by
  have e : (x ++ y).cps = x.cps ++ y.cps := rfl
  unfold PyData.strOk at *
  rw [e, Array.all_append, hx, hy]
  rfl
theorem str_len {x y : Str} : (x ++ y).length = x.length + y.length := by
  have e : (x ++ y).cps = x.cps ++ y.cps := rfl
  show (x ++ y).cps.size = _
  rw [e, Array.size_append]
  rfl
def oneS (c : Nat) : Str := ⟨#[c]⟩
theorem one_ok {z : Str} (hz : PyData.strOk z = true) {c : Nat} (hc : c ∈ z.cps.toList) : PyData.strOk (oneS c) = true ∧ (oneS c).length = 1 := by
  unfold PyData.strOk at hz
  rw [Array.all_eq_true_iff_forall_mem] at hz
  have h := hz c (by simpa using hc)
  exact ⟨by unfold PyData.strOk oneS; simpa using h, rfl⟩
/-- a sign of a text, at a place within -/
theorem ix_str {z : Str} (hz : PyData.strOk z = true) (hb : z.length ≤ big) {r : Int} (h0 : 0 ≤ r) (h1 : r < z.length) : ∃ x, dIx (.str z) (.int r) = some (.val (.str x)) ∧ PyData.strOk x = true ∧ x.length = 1 := by
  have e : z.length = z.cps.toList.length := by simp; rfl
  rw [e] at h1
  refine ⟨oneS (z.cps.toList[r.toNat]'(by omega)), ?_, one_ok hz (List.getElem_mem _)⟩
  show (if z.length ≤ big then (atI z.cps.toList r).map fun c => HV.val (.str ⟨#[c]⟩) else none) = _
  rw [if_pos hb, atI_in h0 h1]
  rfl
def okN (x : Str) : Prop := PyData.strOk x = true ∧ x.length ≤ 10
theorem canAll_strs {ns : List Str} (h : ∀ x ∈ ns, okN x) : PyData.canLayAll0 (toPys (ns.map D.str)) = true := by
  induction ns with
  | nil => rfl
  | cons x r ih =>
    have h1 := (h x List.mem_cons_self).1
    have h2 := ih fun y hy => h y (List.mem_cons_of_mem _ hy)
    show (PyData.canLay0 (.str x) && PyData.canLayAll0 (toPys (r.map D.str))) = true
    rw [h2]
    unfold PyData.canLay0
    rw [h1]
    rfl
theorem depth_strs {ns : List Str} : PyData.depthAll (toPys (ns.map D.str)) ≤ 1 := by
  induction ns with
  | nil => show PyData.depthAll [] ≤ 1; simp [PyData.depthAll]
  | cons x r ih =>
    show PyData.depthAll (.str x :: toPys (r.map D.str)) ≤ 1
    simp [PyData.depthAll, PyData.depth]
    omega
theorem shp_strs {ns : List Str} (h : ∀ x ∈ ns, okN x) : shp (.lst (ns.map D.str)) = true := by
  unfold shp SeqAt.shaped
  show (PyData.canLayAll0 (toPys (ns.map D.str)) && decide (PyData.depth (.list (toPys (ns.map D.str))) ≤ 64)) = true
  rw [canAll_strs h]
  have := depth_strs (ns := ns)
  simp [PyData.depth]
  omega
theorem in_strs {x : Str} {ns : List Str} (hx : okN x) (h : ∀ x ∈ ns, okN x) : ∃ b, dIn (.str x) (.lst (ns.map D.str)) = some (.val (.bl b)) := by
  refine ⟨inAny (.str x) (ns.map D.str), ?_⟩
  show (if (shp (.str x) && shp (.lst (ns.map D.str))) = true then _ else none) = _
  rw [shp_strs h, shp_str, hx.1]
  rfl
def barL : List Str := ["sign", "held", "idle", "loose", "same", "state", "flag", "count", "on", "if", "and", "do", "no", "least", "below", "raise", "clear", "add", "drop", "tell", "path", "machine", "program", "rows"]
theorem bar_ok : ∀ x ∈ barL, okN x := by
  unfold okN barL
  decide +kernel
theorem barred_spec (q : Q (.new (barL.map D.str)) J) : Ex X (F_l_barred [] J) Q := by
  unfold F_l_barred
  rw [Ex_mkF]
  have e : ∀ n0 J, B_l_barred n0 (startE 1 []) J = .rt (.new (barL.map D.str)) J := fun _ _ => by with_unfolding_all rfl
  rw [e]
  simp
  exact q
end K03
set_option Elab.async false
set_option linter.all false
set_option maxRecDepth 100000
set_option maxHeartbeats 4000000
set_option autoImplicit false
namespace K03
open PySem L2 L2.Pz
variable {X : XP} {Q : HV → Jr → Prop} {T J : Jr} {jc : List D} {b : Nat}
abbrev let26 : Str := "abcdefghijklmnopqrstuvwxyz"
abbrev dig10 : Str := "0123456789"
theorem let_ok : PyData.strOk let26 = true ∧ let26.length = 26 := by decide +kernel
theorem dig_ok : PyData.strOk (let26 ++ dig10) = true ∧ (let26 ++ dig10).length = 36 := by decide +kernel
theorem add_let : dAdd (.str let26) (.str dig10) = some (.val (.str (let26 ++ dig10))) := by with_unfolding_all rfl
theorem spare_ok : ∀ x ∈ (["x", "x0", "x1", "y", "yy", "z8z"] : List Str), okN x := by unfold okN; decide +kernel
theorem steps_ok : ∀ r : Nat, r < 5 → ∃ k : Nat, ([D.int 0, .int 0, .int 1, .int 3, .int 7] : List D)[r]? = some (.int k) ∧ k ≤ 7 := by
  intro r hr
  have : r = 0 ∨ r = 1 ∨ r = 2 ∨ r = 3 ∨ r = 4 := by omega
  rcases this with rfl | rfl | rfl | rfl | rfl
  · exact ⟨0, rfl, by decide⟩
  · exact ⟨0, rfl, by decide⟩
  · exact ⟨1, rfl, by decide⟩
  · exact ⟨3, rfl, by decide⟩
  · exact ⟨7, rfl, by decide⟩
theorem names_spec {n : Nat} (hn : n ≤ 8) (hj : Jb b jc) (hb : b + 100 ≤ LIM) (h : ∀ (jc' : List D) (ns : List Str), Jb (b + 100) jc' → ns.length = n → (∀ x ∈ ns, okN x) → Q (.val (.tup (ns.map D.str))) (jc' :: T)) : Ex X (F_l_names [.jar 0, .val (.int n)] (jc :: T)) Q := by
  unfold F_l_names B_l_names
  rw [Ex_mkF]
  have e0 : rgOk n = true := by unfold rgOk; simp; omega
  simp [startE, Sx_for, big, e0]
  refine Sx_loop (fun i env J => ∃ (ns : List Str) (z4 z5 z6 z7 : Option HV) (jc' : List D), env = [some (.jar 0), some (.val (.int n)), some (.val (.str let26)), some (.jar (T.length + 1)), z4, z5, z6, z7] ∧ J = jc' :: (T ++ [ns.map D.str]) ∧ Jb (b + i * 10) jc' ∧ ns.length = i ∧ ∀ x ∈ ns, okN x) ?_ ?_ ?_
  · exact ⟨[], _, _, _, _, jc, rfl, rfl, hj, rfl, by simp⟩
  · rintro i d env J hd ⟨ns, z4, z5, z6, z7, jc', rfl, rfl, hj', hl, hok⟩
    have hi := (rgD_get hd).2
    simp [tgName]
    refine draw_spec hj' (by omega) (by decide) fun r jc2 h0 h1 hj2 => ?_
    obtain ⟨x, hx1, hx2, hx3⟩ := ix_str let_ok.1 (by rw [let_ok.2]; decide) h0 (by rw [let_ok.2]; exact h1)
    simp [hx1, big, Sx_for]
    refine draw_spec hj2 (by omega) (by decide) fun r2 jc3 h2 h3 hj3 => ?_
    obtain ⟨k, hk1, hk2⟩ := steps_ok r2.toNat (by omega)
    have hk3 : dIx (.lst [.int 0, .int 0, .int 1, .int 3, .int 7]) (.int r2) = some (.val (.int k)) := by
      show (atI _ r2).map HV.val = _
      rw [atI_in h2 (by simp; omega)]
      rw [List.getElem?_eq_getElem (by simp; omega)] at hk1
      simp at hk1 ⊢
      exact hk1
    have e1 : rgOk k = true := by unfold rgOk; simp; omega
    simp [hk3, e1, Sx_for]
    refine Sx_loop (fun m env J => ∃ (x : Str) (z4 z6 z7 : Option HV) (jc4 : List D), env = [some (.jar 0), some (.val (.int n)), some (.val (.str let26)), some (.jar (T.length + 1)), z4, some (.val (.str x)), z6, z7] ∧ J = jc4 :: (T ++ [ns.map D.str]) ∧ Jb (b + i * 10 + 2 + m) jc4 ∧ PyData.strOk x = true ∧ x.length = 1 + m) ?_ ?_ ?_
    · exact ⟨x, _, _, _, jc3, rfl, rfl, hj3, hx2, hx3⟩
    · rintro m d env J hd ⟨x, z4, z6, z7, jc4, rfl, rfl, hj4, hx2, hx3⟩
      have hm := (rgD_get hd).2
      simp [tgName, add_let]
      refine draw_spec hj4 (by omega) (by decide) fun r jc5 h0 h1 hj5 => ?_
      obtain ⟨y, hy1, hy2, hy3⟩ := ix_str dig_ok.1 (by rw [dig_ok.2]; decide) h0 (by rw [dig_ok.2]; exact h1)
      simp [hy1, dAdd, big]
      exact ⟨by omega, hj5.mono (by omega), str_app hx2 hy2, by rw [str_len]; omega⟩
    · rintro env J ⟨x, z4, z6, z7, jc4, rfl, rfl, hj4, hx2, hx3⟩
      rw [rgD_len] at hj4 hx3
      simp [big]
      refine Sx_loop (fun m env J => ∃ (x : Str) (z4 z6 z7 : Option HV) (jc4 : List D), env = [some (.jar 0), some (.val (.int n)), some (.val (.str let26)), some (.jar (T.length + 1)), z4, some (.val (.str x)), z6, z7] ∧ J = jc4 :: (T ++ [ns.map D.str]) ∧ Jb (b + i * 10 + 9) jc4 ∧ okN x) ?_ ?_ ?_
      · exact ⟨x, _, _, _, jc4, rfl, rfl, hj4.mono (by omega), hx2, by omega⟩
      · rintro m d env J hd ⟨x, z4, z6, z7, jc4, rfl, rfl, hj4, hx⟩
        obtain ⟨y, rfl, hy⟩ : ∃ y, d = .str y ∧ okN y := by
          have hm := List.mem_of_getElem? hd
          have : ∃ y, y ∈ (["x", "x0", "x1", "y", "yy", "z8z"] : List Str) ∧ d = D.str y := by simpa using hm
          obtain ⟨y, h1, rfl⟩ := this
          exact ⟨y, rfl, spare_ok y h1⟩
        obtain ⟨b1, hb1⟩ := in_strs hx hok
        obtain ⟨b2, hb2⟩ := in_strs hx bar_ok
        simp [tgName, hb1]
        cases b1 with
        | true => simp; exact ⟨hj4, hy⟩
        | false =>
          simp
          refine barred_spec ?_
          simp [hb2]
          cases b2 with
          | true => simp; exact ⟨hj4, hy⟩
          | false => simp; exact ⟨hj4, hx⟩
      · rintro env J ⟨x, z4, z6, z7, jc4, rfl, rfl, hj4, hx⟩
        simp [big]
        refine ⟨by omega, ns ++ [x], jc4, ⟨rfl, by simp⟩, hj4.mono (by omega), by simp [hl], ?_⟩
        intro y hy
        rcases List.mem_append.mp hy with hy | hy
        · exact hok y hy
        · simp at hy; subst hy; exact hx
  · rintro env J ⟨ns, z4, z5, z6, z7, jc', rfl, rfl, hj', hl, hok⟩
    rw [rgD_len] at hj' hl
    simp [dTuple]
    exact h _ _ (hj'.mono (by omega)) (by omega) hok
/-! ### settings -/
structure St (n : Nat) (ns : List Str) (cs : List Ch) : Prop where
  n1 : 1 ≤ n
  n5 : n ≤ 5
  len : ns.length = n
  nm : ∀ x ∈ ns, okN x
  ch : ∀ c ∈ cs, okC n c
  cl : cs.length ≤ 40
def setD (ns : List Str) (cs : List Ch) : D := .tup [.tup (ns.map .str), .tup (cs.map chD)]
theorem perm_ok {n : Nat} (hn : n ≤ 5) {cs : List Ch} (h : cs.Perm (poolL n)) : (∀ c ∈ cs, okC n c) ∧ cs.length ≤ 30 :=
  ⟨fun c hc => pool_ok hn c (h.subset hc), by rw [h.length_eq]; exact pool_len hn⟩
theorem setting_spec {n : Nat} {m : Int} (hn1 : 1 ≤ n) (hn : n ≤ 5) (hm : 0 ≤ m) (hj : Jb b jc) (hb : b + 2000 ≤ LIM) (h : ∀ (jc' : List D) (ns : List Str) (cs : List Ch), Jb (b + 2000) jc' → St n ns cs → Q (.val (setD ns cs)) (jc' :: T)) :
    Ex X (F_l_setting [.jar 0, .val (.int n), .val (.int m)] (jc :: T)) Q := by
  unfold F_l_setting B_l_setting
  rw [Ex_mkF]
  simp [startE]
  refine names_spec (by omega) hj (by omega) fun jc1 ns hj1 hl hok => ?_
  simp
  refine pool_spec (n := n) hn ?_
  have hpl := pool_len hn
  simp
  refine shuffled_spec (by rw [List.length_map]; omega) hj1 (by omega) fun jc2 out hj2 hp => ?_
  obtain ⟨cs, hp', rfl⟩ := perm_map hp
  obtain ⟨h1, h2⟩ := perm_ok hn hp'
  simp [dSl, cutD_to hm, dTuple, big]
  have := h jc2 ns (cs.take m.toNat) (hj2.mono (by omega)) ⟨hn1, hn, hl, hok, fun c hc => h1 c (List.mem_of_mem_take hc), by rw [List.length_take]; omega⟩
  rw [setD, List.map_take] at this
  exact this
theorem ix0 {ns : List Str} {cs : List Ch} : dIx (setD ns cs) (.int 0) = some (.val (.tup (ns.map .str))) := rfl
theorem ix1 {ns : List Str} {cs : List Ch} : dIx (setD ns cs) (.int 1) = some (.val (.tup (cs.map chD))) := rfl
theorem map_get {α : Type} {f : α → D} {l : List α} {i : Nat} {d : D} (h : (l.map f)[i]? = some d) : ∃ c, l[i]? = some c ∧ d = f c := by
  rw [List.getElem?_map] at h
  cases e : l[i]? with
  | none => rw [e] at h; cases h
  | some c => rw [e] at h; exact ⟨c, rfl, by simpa using h.symm⟩
theorem take_succ {α : Type} {l : List α} {i : Nat} {c : α} (h : l[i]? = some c) : l.take (i + 1) = l.take i ++ [c] := by
  rw [List.take_add_one, h]; rfl
abbrev ofL (cs : List Ch) (k : Str) : List Ch := cs.filter fun c => kind c == k
theorem of_spec {ns : List Str} {cs : List Ch} {k : Str} (hk : PyData.strOk k = true) (hc : cs.length ≤ 1000) (q : Q (.val (.tup ((ofL cs k).map chD))) J) : Ex X (F_l_of [.val (setD ns cs), .val (.str k)] J) Q := by
  unfold F_l_of B_l_of
  rw [Ex_mkF]
  simp [startE, Sx_for, big, ix1]
  refine Sx_loop (fun i env J' => ∃ z, env = [some (.val (setD ns cs)), some (.val (.str k)), some (.val (.tup ((ofL (cs.take i) k).map chD))), z] ∧ J' = J) ⟨_, rfl, rfl⟩ ?_ ?_
  · rintro i d env J' hd ⟨z, rfl, rfl⟩
    obtain ⟨c, hc1, rfl⟩ := map_get hd
    have hi : i < cs.length := (List.getElem?_eq_some_iff.mp hc1).1
    have hl : (ofL (cs.take i) k).length ≤ i := Nat.le_trans (List.length_filter_le _ _) (by rw [List.length_take]; omega)
    simp [tgName, ch_kind, dEq_str (kind_ok c) hk, take_succ hc1]
    intro e
    unfold ofL at hl ⊢
    simp [dAdd, big, e]
    omega
  · rintro env J' ⟨z, rfl, rfl⟩
    simpa using q
theorem changes_of_spec {ns : List Str} {cs : List Ch} {k : Str} (hk : PyData.strOk k = true) (hc : cs.length ≤ 1000) (q : Q (.val (.tup ((ofL cs k).map chD))) J) : Ex X (F_changes_of [.val (setD ns cs), .val (.str k)] J) Q := by
  unfold F_changes_of B_changes_of
  rw [Ex_mkF]
  simp [startE]
  refine Ex_lcX ?_
  simp [ix1]
  refine Ex_lcLoop (fun i acc J' => acc = (ofL (cs.take i) k).map chD ∧ J' = J) ⟨rfl, rfl⟩ ?_ ?_
  · rintro i d acc J' hd ⟨rfl, rfl⟩
    obtain ⟨c, hc1, rfl⟩ := map_get hd
    have hi : i < cs.length := (List.getElem?_eq_some_iff.mp hc1).1
    have hl : (ofL (cs.take i) k).length ≤ i := Nat.le_trans (List.length_filter_le _ _) (by rw [List.length_take]; omega)
    simp [tgName, wipeE, ch_kind, dEq_str (kind_ok c) hk, take_succ hc1, List.filter_append]
    intro e
    unfold ofL at hl ⊢
    simp [big, e]
    omega
  · rintro acc J' ⟨rfl, rfl⟩
    rw [List.length_map, List.take_length]
    simp [dTuple]
    exact q
end K03
set_option Elab.async false
set_option linter.all false
set_option maxRecDepth 100000
set_option maxHeartbeats 4000000
set_option autoImplicit false
namespace K03
open PySem L2 L2.Pz
variable {X : XP} {Q : HV → Jr → Prop} {T J : Jr} {jc : List D} {b : Nat} {n : Nat} {ns : List Str} {cs : List Ch}
theorem chs_sok (hc : cs.length ≤ 1000) : sok 2 (.tup (cs.map chD)) = true := by
  show ((cs.map chD).all (sok 1) && decide ((cs.map chD).length ≤ 1000000)) = true
  rw [Bool.and_eq_true, List.all_eq_true]
  refine ⟨fun d hd => ?_, by simp; omega⟩
  obtain ⟨c, _, rfl⟩ := List.mem_map.mp hd
  exact ch_sok c
theorem nms_sok (hn : ns.length ≤ 1000) (h : ∀ x ∈ ns, okN x) : sok 2 (.tup (ns.map D.str)) = true := by
  show ((ns.map D.str).all (sok 1) && decide ((ns.map D.str).length ≤ 1000000)) = true
  rw [Bool.and_eq_true, List.all_eq_true]
  refine ⟨fun d hd => ?_, by simp; omega⟩
  obtain ⟨x, hx, rfl⟩ := List.mem_map.mp hd
  exact (h x hx).1
theorem set_sok (hn : ns.length ≤ 1000) (h : ∀ x ∈ ns, okN x) (hc : cs.length ≤ 1000) : sok 7 (setD ns cs) = true := by
  refine sok_mono 3 _ ?_ 7 (by decide)
  show (sok 2 (.tup (ns.map D.str)) && (sok 2 (.tup (cs.map chD)) && true) && decide (([.tup (ns.map D.str), .tup (cs.map chD)] : List D).length ≤ 1000000)) = true
  rw [nms_sok hn h, chs_sok hc]
  simp
theorem St.sok (S : St n ns cs) : K03.sok 7 (setD ns cs) = true := set_sok (by have := S.len; have := S.n5; omega) S.nm (by have := S.cl; omega)
theorem with_spec {c : Ch} (hc : cs.length ≤ 1000) (q : Q (.val (setD ns (cs ++ [c]))) J) : Ex X (F_with_change [.val (setD ns cs), .val (chD c)] J) Q := by
  unfold F_with_change B_with_change
  rw [Ex_mkF]
  simp [startE, ix0, ix1, dAdd, big]
  refine ⟨by omega, ?_⟩
  unfold setD at q
  simpa using q
theorem without_spec {i : Int} (h0 : 0 ≤ i) (hc : cs.length ≤ 1000) (q : Q (.val (setD ns (cs.take i.toNat ++ cs.drop (i.toNat + 1)))) J) : Ex X (F_without_change [.val (setD ns cs), .val (.int i)] J) Q := by
  unfold F_without_change B_without_change
  rw [Ex_mkF]
  have e1 : (i + 1).toNat = i.toNat + 1 := by omega
  simp [startE, ix0, ix1, dAdd, big, dSl, cutD_to h0, cutD_from (i := i + 1) (by omega), e1]
  refine ⟨by omega, ?_⟩
  unfold setD at q
  simpa using q
theorem less_spec {i : Int} (h0 : 0 ≤ i) (hc : cs.length ≤ 1000) (q : Q (.val (setD ns (cs.take i.toNat ++ cs.drop (i.toNat + 1)))) J) : Ex X (F_l_less [.val (setD ns cs), .val (.int i)] J) Q := by
  unfold F_l_less B_l_less
  rw [Ex_mkF]
  have e1 : (i + 1).toNat = i.toNat + 1 := by omega
  simp [startE, ix0, ix1, dAdd, big, dSl, cutD_to h0, cutD_from (i := i + 1) (by omega), e1]
  refine ⟨by omega, ?_⟩
  unfold setD at q
  simpa using q
/-! ### the kinds -/
abbrev kinds : List Str := ["held", "idle", "loose", "same"]
theorem kinds_ok : ∀ k ∈ kinds, PyData.strOk k = true := by decide +kernel
theorem kinds_spec (S : St n ns cs) (hj : Jb b jc) (hb : b + 2000 ≤ LIM) (h : ∀ jc', Jb (b + 2000) jc' → Q (.val (.bl true)) (jc' :: T)) : Ex X (F_l_kinds [.jar 0, .val (setD ns cs)] (jc :: T)) Q := by
  have hcl := S.cl
  unfold F_l_kinds B_l_kinds
  rw [Ex_mkF]
  simp [startE, Sx_for, big]
  refine shuffled_spec (by simp) hj (by omega) fun jc1 out hj1 hp => ?_
  obtain ⟨ks, hp', rfl⟩ := perm_map (f := D.str) (l := kinds) hp
  simp
  have hlen := hp'.length_eq
  have hlen : ks.length = 4 := hlen
  refine Sx_loop (fun i env J => ∃ (z2 z3 z4 : Option HV) (jc' : List D), env = [some (.jar 0), some (.val (setD ns cs)), z2, z3, z4] ∧ J = jc' :: T ∧ Jb (b + 1000 + i) jc' ∧ True) ⟨_, _, _, _, rfl, rfl, hj1, trivial⟩ ?_ ?_
  · rintro i d env J hd ⟨z2, z3, z4, jc', rfl, rfl, hj', _⟩
    obtain ⟨k, hk1, rfl⟩ := map_get hd
    have hi : i < ks.length := (List.getElem?_eq_some_iff.mp hk1).1
    have hk : PyData.strOk k = true := kinds_ok k (hp'.subset (List.mem_of_getElem? hk1))
    simp [tgName]
    refine of_spec hk (by omega) ?_
    simp
    refine changes_of_spec hk (by omega) ?_
    simp
    have hs : sok 7 (.tup ((ofL cs k).map chD)) = true := sok_mono 2 _ (chs_sok (Nat.le_trans (List.length_filter_le _ _) (by omega))) 7 (by decide)
    refine draw_spec hj' (by omega) (by decide) fun r jc2 h0 h1 hj2 => ?_
    simp [permute]
    split
    · refine changes_of_spec hk (by omega) ?_
      simp
      refine same_ok hs ?_
      simp [truth]
      exact hj2.mono (by omega)
    · refine same_ok hs ?_
      simp [truth]
      exact hj2.mono (by omega)
  · rintro env J ⟨z2, z3, z4, jc', rfl, rfl, hj', _⟩
    simp
    refine h _ (hj'.mono ?_)
    rw [List.length_map]
    omega
end K03
set_option Elab.async false
set_option linter.all false
set_option maxRecDepth 100000
set_option maxHeartbeats 4000000
set_option autoImplicit false
namespace K03
open PySem L2 L2.Pz
variable {X : XP} {Q : HV → Jr → Prop} {T J : Jr} {jc : List D} {b : Nat} {n : Nat} {ns : List Str} {cs : List Ch}
@[simp] theorem truth_bl {q : Bool} : truth (.bl q) = some q := rfl
theorem ch_can (c : Ch) : PyData.canLay0 (toPy (chD c)) = true := by cases c <;> with_unfolding_all rfl
theorem ch_depth (c : Ch) : PyData.depth (toPy (chD c)) ≤ 3 := by
  cases c <;> (simp [chD, toPy, toPys, PyData.depth, PyData.depthAll] <;> omega)
theorem chs_can : PyData.canLayAll0 (toPys (cs.map chD)) = true := by
  induction cs with
  | nil => rfl
  | cons c r ih =>
    show (PyData.canLay0 (toPy (chD c)) && PyData.canLayAll0 (toPys (r.map chD))) = true
    rw [ch_can, ih]
    rfl
theorem chs_depth : PyData.depthAll (toPys (cs.map chD)) ≤ 3 := by
  induction cs with
  | nil => show PyData.depthAll [] ≤ 3; simp [PyData.depthAll]
  | cons c r ih =>
    show PyData.depthAll (toPy (chD c) :: toPys (r.map chD)) ≤ 3
    have := ch_depth c
    simp [PyData.depthAll]
    omega
theorem shp_ch (c : Ch) : shp (chD c) = true := by
  unfold shp SeqAt.shaped
  rw [ch_can]
  have := ch_depth c
  simp
  omega
theorem shp_chs : shp (.tup (cs.map chD)) = true := by
  unfold shp SeqAt.shaped
  show (PyData.canLayAll0 (toPys (cs.map chD)) && decide (PyData.depth (.tuple (toPys (cs.map chD))) ≤ 64)) = true
  rw [chs_can]
  have := chs_depth (cs := cs)
  simp [PyData.depth]
  omega
theorem notin_chs (c : Ch) (cs : List Ch) : ∃ b, dNotIn (chD c) (.tup (cs.map chD)) = some (.val (.bl b)) := by
  refine ⟨!inAny (chD c) (cs.map chD), ?_⟩
  unfold dNotIn dIn
  dsimp only
  rw [shp_ch, shp_chs]
  rfl
theorem cl_app {c : Ch} : (cs ++ [c]).take cs.length ++ (cs ++ [c]).drop (cs.length + 1) = cs := by simp
theorem more_spec (S : St n ns cs) (hj : Jb b jc) (hb : b + 2000 ≤ LIM) (h : ∀ jc', Jb (b + 2000) jc' → Q (.val (.bl true)) (jc' :: T)) : Ex X (F_l_more [.jar 0, .val (setD ns cs)] (jc :: T)) Q := by
  have hcl := S.cl
  have hn5 := S.n5
  have hS := S.sok
  unfold F_l_more B_l_more
  rw [Ex_mkF]
  simp [startE, Sx_for, big]
  refine Ex_lcX ?_
  simp [ix0, dLen, S.len]
  refine pool_spec (n := n) hn5 ?_
  have hpl := pool_len hn5
  simp
  refine Ex_lcLoop (fun i acc J' => ∃ fs : List Ch, acc = fs.map chD ∧ J' = jc :: T ∧ fs.length ≤ i ∧ ∀ c ∈ fs, okC n c) ⟨[], rfl, rfl, by simp, by simp⟩ ?_ ?_
  · rintro i d acc J' hd ⟨fs, rfl, rfl, hl, hok⟩
    obtain ⟨c, hc1, rfl⟩ := map_get hd
    have hi : i < (poolL n).length := (List.getElem?_eq_some_iff.mp hc1).1
    obtain ⟨bb, hbb⟩ := notin_chs c cs
    simp [tgName, wipeE, ix1, hbb]
    have okc := pool_ok hn5 c (List.mem_of_getElem? hc1)
    cases bb with
    | false => simp; exact ⟨fs, rfl, by omega, hok⟩
    | true =>
      simp [big]
      refine ⟨by omega, fs ++ [c], by simp, by simp; omega, ?_⟩
      intro c' hc'
      rcases List.mem_append.mp hc' with hc' | hc'
      · exact hok c' hc'
      · simp at hc'; subst hc'; exact okc
  · rintro acc J' ⟨fs, rfl, rfl, hl, hok⟩
    rw [List.length_map] at hl
    simp
    refine shuffled_spec (by rw [List.length_map]; omega) hj (by omega) fun jc1 out hj1 hp => ?_
    obtain ⟨fs', hp', rfl⟩ := perm_map hp
    have hok' : ∀ c ∈ fs', okC n c := fun c hc => hok c (hp'.subset hc)
    simp [dSl, cutD_to]
    have e4 : List.take 4 (List.map chD fs') = (fs'.take 4).map chD := List.map_take.symm
    rw [e4]
    refine Sx_loop (fun i env J => ∃ (z2 z3 z4 z5 : Option HV) (jc' : List D), env = [some (.jar 0), some (.val (setD ns cs)), z2, z3, z4, z5] ∧ J = jc' :: T ∧ Jb (b + 1000 + i) jc' ∧ True) ⟨_, _, _, _, _, rfl, rfl, hj1, trivial⟩ ?_ ?_
    · rintro i d env J hd ⟨z2, z3, z4, z5, jc', rfl, rfl, hj', _⟩
      obtain ⟨c, hc1, rfl⟩ := map_get hd
      have hi : i < (fs'.take 4).length := (List.getElem?_eq_some_iff.mp hc1).1
      rw [List.length_take] at hi
      have hdue : sok 7 (setD ns (cs ++ [c])) = true := set_sok (by have := S.len; omega) S.nm (by simp; omega)
      have edue : (.tup [.tup (ns.map .str), .tup (cs.map chD ++ [chD c])] : D) = setD ns (cs ++ [c]) := by unfold setD; simp
      simp [tgName, ix0, ix1, dAdd, big]
      refine ⟨by omega, ?_⟩
      rw [edue]
      refine with_spec (by omega) ?_
      simp
      refine draw_spec hj' (by omega) (by decide) fun r jc2 h0 h1 hj2 => ?_
      simp [permute]
      have hof : sok 7 (.tup ((ofL (cs ++ [c]) (kind c)).map chD)) = true := sok_mono 2 _ (chs_sok (Nat.le_trans (List.length_filter_le _ _) (by simp; omega))) 7 (by decide)
      split
      · refine with_spec (by omega) ?_
        simp
        refine same_ok hdue ?_
        simp [ix1, dLen, dLe, dInt2, yes2]
        split
        · refine without_spec (by omega) (by simp; omega) ?_
          simp [cl_app]
          refine same_ok hS ?_
          simp [ch_kind]
          refine changes_of_spec (kind_ok c) (by simp; omega) ?_
          simp only [ch_kind, OpQ_some, norm_val]
          refine of_spec (kind_ok c) (by simp; omega) ?_
          simp only [norm_val]
          refine same_ok hof ?_
          simp
          exact hj2.mono (by omega)
        · exact hj2.mono (by omega)
      · refine same_ok hdue ?_
        simp [ix1, dLen, dLe, dInt2, yes2]
        split
        · refine without_spec (by omega) (by simp; omega) ?_
          simp [cl_app]
          refine same_ok hS ?_
          simp [ch_kind]
          refine changes_of_spec (kind_ok c) (by simp; omega) ?_
          simp only [ch_kind, OpQ_some, norm_val]
          refine of_spec (kind_ok c) (by simp; omega) ?_
          simp only [norm_val]
          refine same_ok hof ?_
          simp
          exact hj2.mono (by omega)
        · exact hj2.mono (by omega)
    · rintro env J ⟨z2, z3, z4, z5, jc', rfl, rfl, hj', _⟩
      simp
      refine h _ (hj'.mono ?_)
      rw [List.length_map, List.length_take]
      omega
theorem fewer_spec (S : St n ns cs) (hj : Jb b jc) (hb : b + 2000 ≤ LIM) (h : ∀ jc', Jb (b + 2000) jc' → Q (.val (.bl true)) (jc' :: T)) : Ex X (F_l_fewer [.jar 0, .val (setD ns cs)] (jc :: T)) Q := by
  have hcl := S.cl
  have hn5 := S.n5
  unfold F_l_fewer B_l_fewer
  rw [Ex_mkF]
  have e0 : rgOk cs.length = true := by unfold rgOk; simp; omega
  simp [startE, Sx_for, ix1, dLen, e0, rgD_len]
  refine ⟨by omega, ?_⟩
  refine shuffled_spec (by rw [rgD_len]; omega) hj (by omega) fun jc1 out hj1 hp => ?_
  have hlen := hp.length_eq
  rw [rgD_len] at hlen
  simp
  refine Sx_loop (fun i env J => ∃ (z2 z3 z4 z5 : Option HV) (jc' : List D), env = [some (.jar 0), some (.val (setD ns cs)), z2, z3, z4, z5] ∧ J = jc' :: T ∧ Jb (b + 1000 + i * 2) jc' ∧ True) ⟨_, _, _, _, _, rfl, rfl, hj1, trivial⟩ ?_ ?_
  · rintro i d env J hd ⟨z2, z3, z4, z5, jc', rfl, rfl, hj', _⟩
    have hi : i < out.length := (List.getElem?_eq_some_iff.mp hd).1
    obtain ⟨m, hm, rfl⟩ : ∃ m : Nat, m < cs.length ∧ d = .int m := by
      have := hp.subset (List.mem_of_getElem? hd)
      obtain ⟨k, hk⟩ := List.getElem?_of_mem this
      obtain ⟨rfl, hk2⟩ := rgD_get hk
      exact ⟨k, hk2, by simp⟩
    have hle : (cs.take m ++ cs.drop (m + 1)).length ≤ 1000 := by simp; omega
    have hs : sok 7 (setD ns (cs.take m ++ cs.drop (m + 1))) = true := set_sok (by have := S.len; omega) S.nm hle
    simp [tgName]
    refine less_spec (by omega) (by omega) ?_
    simp
    refine without_spec (by omega) (by omega) ?_
    simp
    refine draw_spec hj' (by omega) (by decide) fun r jc2 h0 h1 hj2 => ?_
    have hat := atI_nat (xs := cs.map chD) (j := m) (v := chD cs[m]) (by simp [hm])
    have hix : dIx (.tup (cs.map chD)) (.int m) = some (.val (chD cs[m])) := by
      show (atI _ _).map HV.val = _
      rw [hat]
      rfl
    have hadd : dAdd (.tup ((cs.take m ++ cs.drop (m + 1)).map chD)) (.tup [chD cs[m]]) = some (.val (.tup ((cs.take m ++ cs.drop (m + 1)).map chD ++ [chD cs[m]]))) := by
      show (if _ then _ else none) = _
      rw [if_pos (by rw [List.length_map]; show _ + 1 ≤ 16777216; omega)]
    have edue : (.tup [.tup (ns.map .str), .tup ((cs.take m ++ cs.drop (m + 1)).map chD ++ [chD cs[m]])] : D) = setD ns (cs.take m ++ cs.drop (m + 1) ++ [cs[m]]) := by unfold setD; simp
    have hs2 : sok 7 (setD ns (cs.take m ++ cs.drop (m + 1) ++ [cs[m]])) = true := set_sok (by have := S.len; omega) S.nm (by simp; omega)
    simp [permute]
    split
    · refine without_spec (by omega) (by omega) ?_
      simp
      refine same_ok hs ?_
      simp
      refine draw_spec hj2 (by omega) (by decide) fun r2 jc3 h2 h3 hj3 => ?_
      simp
      split
      · simp only [ix0, ix1, OpQ_some, toVal_val, deref_val, hix, hadd, norm_val]
        refine ⟨by decide, by decide, ?_⟩
        rw [edue]
        refine with_spec hle ?_
        simp only [norm_val]
        refine same_ok hs2 ?_
        simp
        exact hj3.mono (by omega)
      · exact hj3.mono (by omega)
    · refine same_ok hs ?_
      simp
      refine draw_spec hj2 (by omega) (by decide) fun r2 jc3 h2 h3 hj3 => ?_
      simp
      split
      · simp only [ix0, ix1, OpQ_some, toVal_val, deref_val, hix, hadd, norm_val]
        refine ⟨by decide, by decide, ?_⟩
        rw [edue]
        refine with_spec hle ?_
        simp only [norm_val]
        refine same_ok hs2 ?_
        simp
        exact hj3.mono (by omega)
      · exact hj3.mono (by omega)
  · rintro env J ⟨z2, z3, z4, z5, jc', rfl, rfl, hj', _⟩
    simp
    refine h _ (hj'.mono ?_)
    omega
end K03
set_option Elab.async false
set_option linter.all false
set_option maxRecDepth 100000
set_option maxHeartbeats 4000000
set_option autoImplicit false
namespace K03
open PySem L2 L2.Pz
variable {X : XP} {Q : HV → Jr → Prop} {T J : Jr} {jc : List D} {b : Nat} {n : Nat} {ns : List Str} {cs : List Ch} {ps : List Nat}
/-! ### places -/
structure IsP (n : Nat) (ps : List Nat) : Prop where
  len : ps.length = n
  lt : ∀ x ∈ ps, x < n
  nd : ps.Nodup
  all : ∀ j, j < n → j ∈ ps
theorem isP_of {n : Nat} {ps : List Nat} (h : ps.Perm (List.range n)) : IsP n ps :=
  ⟨by rw [h.length_eq, List.length_range], fun x hx => List.mem_range.mp (h.subset hx), h.nodup_iff.mpr List.nodup_range, fun j hj => h.symm.subset (List.mem_range.mpr hj)⟩
def pl (ps : List Nat) (s : Nat) : Nat := ps.getD s 0
def natD (k : Nat) : D := .int k
def plD (ps : List Nat) : D := .tup (ps.map natD)
theorem pl_get {s : Nat} (hs : s < ps.length) : ps[s]? = some (pl ps s) := by simp [pl, hs]
theorem pl_lt (P : IsP n ps) {s : Nat} (hs : s < n) : pl ps s < n := P.lt _ (List.mem_of_getElem? (pl_get (by rw [P.len]; exact hs)))
theorem pl_inj (P : IsP n ps) {s t : Nat} (hs : s < n) (ht : t < n) (h : pl ps s = pl ps t) : s = t := by
  have h1 := pl_get (ps := ps) (s := s) (by rw [P.len]; exact hs)
  have h2 := pl_get (ps := ps) (s := t) (by rw [P.len]; exact ht)
  obtain ⟨a1, a2⟩ := List.getElem?_eq_some_iff.mp h1
  obtain ⟨b1, b2⟩ := List.getElem?_eq_some_iff.mp h2
  exact (List.getElem_inj P.nd).mp (a2.trans (h.trans b2.symm))
theorem pl_surj (P : IsP n ps) {j : Nat} (hj : j < n) : ∃ s, s < n ∧ pl ps s = j := by
  obtain ⟨s, hs⟩ := List.getElem?_of_mem (P.all j hj)
  obtain ⟨a1, a2⟩ := List.getElem?_eq_some_iff.mp hs
  have := pl_get a1
  rw [hs] at this
  exact ⟨s, by rw [← P.len]; exact a1, (Option.some.inj this).symm⟩
/-- where j came from -/
def bk (ps : List Nat) (j : Nat) : Nat := ps.idxOf j
theorem bk_pl (P : IsP n ps) {s : Nat} (hs : s < n) : bk ps (pl ps s) = s := by
  have h1 := pl_get (ps := ps) (s := s) (by rw [P.len]; exact hs)
  have hm := List.mem_of_getElem? h1
  have hl : bk ps (pl ps s) < ps.length := List.idxOf_lt_length_of_mem hm
  have h2 : ps[bk ps (pl ps s)]? = some (pl ps s) := by
    rw [List.getElem?_eq_getElem hl]
    exact congrArg some (List.getElem_idxOf hl)
  refine pl_inj P (by rw [← P.len]; exact hl) hs ?_
  rw [pl_get hl] at h2
  exact Option.some.inj h2
def inv (ps : List Nat) : List Nat := (List.range ps.length).map (bk ps)
theorem inv_pl (P : IsP n ps) {j : Nat} (hj : j < n) : pl (inv ps) j = bk ps j := by
  unfold pl inv
  have : j < ps.length := by rw [P.len]; exact hj
  simp [this]
theorem bk_lt (P : IsP n ps) {j : Nat} (hj : j < n) : bk ps j < n := by
  obtain ⟨s, hs, rfl⟩ := pl_surj P hj
  rw [bk_pl P hs]
  exact hs
theorem pl_bk (P : IsP n ps) {j : Nat} (hj : j < n) : pl ps (bk ps j) = j := by
  obtain ⟨s, hs, rfl⟩ := pl_surj P hj
  rw [bk_pl P hs]
theorem inv_ok (P : IsP n ps) : IsP n (inv ps) := by
  refine ⟨by unfold inv; simp [P.len], fun x hx => ?_, ?_, fun s hs => ?_⟩
  · unfold inv at hx
    obtain ⟨j, hj, rfl⟩ := List.mem_map.mp hx
    rw [List.mem_range, P.len] at hj
    exact bk_lt P hj
  · unfold inv List.Nodup
    rw [List.pairwise_map]
    refine List.Pairwise.imp_of_mem ?_ List.nodup_range
    intro a c ha hc hne e
    rw [List.mem_range, P.len] at ha hc
    exact hne (by rw [← pl_bk P ha, ← pl_bk P hc, e])
  · unfold inv
    refine List.mem_map.mpr ⟨pl ps s, List.mem_range.mpr (by rw [P.len]; exact pl_lt P hs), bk_pl P hs⟩
/-- a list that is filled by places -/
theorem fill_eq (P : IsP n ps) {L : List D} {f : Nat → D} (hl : L.length = n) (h : ∀ s, s < n → L[pl ps s]? = some (f s)) : L = (List.range n).map fun j => f (bk ps j) := by
  refine List.ext_getElem? fun j => ?_
  rw [List.getElem?_map]
  by_cases hj : j < n
  · rw [List.getElem?_range hj]
    have := h _ (bk_lt P hj)
    rw [pl_bk P hj] at this
    rw [this]
    rfl
  · rw [List.getElem?_eq_none (by omega), List.getElem?_eq_none (by simp; omega)]
    rfl
theorem fill_step (P : IsP n ps) {L : List D} {f : Nat → D} {i : Nat} (hi : i < n) (hl : L.length = n) (h : ∀ s, s < i → L[pl ps s]? = some (f s)) : ∀ s, s < i + 1 → (L.set (pl ps i) (f i))[pl ps s]? = some (f s) := by
  intro s hs
  by_cases e : s = i
  · subst e
    rw [List.getElem?_set_self (by rw [hl]; exact pl_lt P hi)]
  · rw [List.getElem?_set_ne fun z => e (pl_inj P hi (by omega) z).symm]
    exact h s (by omega)
def carN (ps : List Nat) (ns : List Str) : List Str := (List.range ns.length).map fun j => ns.getD (bk ps j) ""
def carC (ps : List Nat) : Ch → Ch
  | .held t => .held (pl ps t)
  | .idle t => .idle (pl ps t)
  | .same s t => if pl ps s ≤ pl ps t then .same (pl ps s) (pl ps t) else .same (pl ps t) (pl ps s)
  | .loose s t => if pl ps s ≤ pl ps t then .loose (pl ps s) (pl ps t) else .loose (pl ps t) (pl ps s)
theorem carC_ok (P : IsP n ps) {c : Ch} (h : okC n c) : okC n (carC ps c) := by
  cases c with
  | held t => exact pl_lt P h
  | idle t => exact pl_lt P h
  | same s t =>
    have h1 := pl_lt P (show s < n by have := h.1; have := h.2; omega)
    have h2 := pl_lt P h.2
    have hne : pl ps s ≠ pl ps t := fun e => by have := pl_inj P (by have := h.1; have := h.2; omega) h.2 e; have := h.1; omega
    show okC n (if pl ps s ≤ pl ps t then .same (pl ps s) (pl ps t) else .same (pl ps t) (pl ps s))
    split
    · exact ⟨by omega, h2⟩
    · exact ⟨by omega, h1⟩
  | loose s t =>
    have h1 := pl_lt P (show s < n by have := h.1; have := h.2; omega)
    have h2 := pl_lt P h.2
    have hne : pl ps s ≠ pl ps t := fun e => by have := pl_inj P (by have := h.1; have := h.2; omega) h.2 e; have := h.1; omega
    show okC n (if pl ps s ≤ pl ps t then .loose (pl ps s) (pl ps t) else .loose (pl ps t) (pl ps s))
    split
    · exact ⟨by omega, h2⟩
    · exact ⟨by omega, h1⟩
theorem carC_back (P : IsP n ps) {c : Ch} (h : okC n c) : carC (inv ps) (carC ps c) = c := by
  have e : ∀ s, s < n → pl (inv ps) (pl ps s) = s := fun s hs => by rw [inv_pl P (pl_lt P hs), bk_pl P hs]
  cases c with
  | held t => show Ch.held _ = _; rw [e t h]
  | idle t => show Ch.idle _ = _; rw [e t h]
  | same s t =>
    have hs : s < n := by have := h.1; have := h.2; omega
    have h1 := h.1
    show carC (inv ps) (if pl ps s ≤ pl ps t then .same (pl ps s) (pl ps t) else .same (pl ps t) (pl ps s)) = _
    split
    · show (if pl (inv ps) (pl ps s) ≤ pl (inv ps) (pl ps t) then _ else _) = _
      rw [e s hs, e t h.2, if_pos (by omega)]
    · show (if pl (inv ps) (pl ps t) ≤ pl (inv ps) (pl ps s) then _ else _) = _
      rw [e s hs, e t h.2, if_neg (by omega)]
  | loose s t =>
    have hs : s < n := by have := h.1; have := h.2; omega
    have h1 := h.1
    show carC (inv ps) (if pl ps s ≤ pl ps t then .loose (pl ps s) (pl ps t) else .loose (pl ps t) (pl ps s)) = _
    split
    · show (if pl (inv ps) (pl ps s) ≤ pl (inv ps) (pl ps t) then _ else _) = _
      rw [e s hs, e t h.2, if_pos (by omega)]
    · show (if pl (inv ps) (pl ps t) ≤ pl (inv ps) (pl ps s) then _ else _) = _
      rw [e s hs, e t h.2, if_neg (by omega)]
theorem carN_len : (carN ps ns).length = ns.length := by unfold carN; simp
theorem getD_mem {l : List Str} {i : Nat} (hi : i < l.length) : l.getD i "" ∈ l := by
  rw [List.getD_eq_getElem?_getD, List.getElem?_eq_getElem hi]
  exact List.getElem_mem hi
theorem carN_ok (P : IsP n ps) (hn : ns.length = n) (h : ∀ x ∈ ns, okN x) : ∀ x ∈ carN ps ns, okN x := by
  intro x hx
  unfold carN at hx
  obtain ⟨j, hj, rfl⟩ := List.mem_map.mp hx
  rw [List.mem_range, hn] at hj
  exact h _ (getD_mem (by rw [hn]; exact bk_lt P hj))
theorem carN_back (P : IsP n ps) (hn : ns.length = n) : carN (inv ps) (carN ps ns) = ns := by
  refine List.ext_getElem? fun j => ?_
  unfold carN
  rw [List.getElem?_map]
  by_cases hj : j < n
  · have hb : bk (inv ps) j = pl ps j := by
      have e := bk_pl (inv_ok P) (pl_lt P hj)
      rw [inv_pl P (pl_lt P hj), bk_pl P hj] at e
      exact e
    rw [List.getElem?_range (by simp; omega)]
    simp only [Option.map_some]
    rw [hb]
    have hp := pl_lt P hj
    rw [List.getD_eq_getElem?_getD, List.getElem?_map, List.getElem?_range (by omega)]
    simp only [Option.map_some, Option.getD_some]
    rw [bk_pl P hj, List.getD_eq_getElem?_getD, List.getElem?_eq_getElem (by omega)]
    rfl
  · rw [List.getElem?_eq_none (l := List.range _) (by simp; omega), List.getElem?_eq_none (by omega)]
    rfl
theorem St.car (S : St n ns cs) (P : IsP n ps) : St n (carN ps ns) (cs.map (carC ps)) :=
  ⟨S.n1, S.n5, by rw [carN_len, S.len], carN_ok P S.len S.nm, fun c hc => by obtain ⟨c', h1, rfl⟩ := List.mem_map.mp hc; exact carC_ok P (S.ch c' h1), by rw [List.length_map]; exact S.cl⟩
theorem car_back (S : St n ns cs) (P : IsP n ps) : setD (carN (inv ps) (carN ps ns)) ((cs.map (carC ps)).map (carC (inv ps))) = setD ns cs := by
  rw [carN_back P S.len, List.map_map]
  have : cs.map (carC (inv ps) ∘ carC ps) = cs := by
    conv => rhs; rw [← List.map_id cs]
    exact List.map_congr_left fun c hc => carC_back P (S.ch c hc)
  rw [this]
theorem pl_ix {s : Nat} (hs : s < ps.length) : dIx (plD ps) (.int s) = some (.val (.int (pl ps s))) := by
  show (atI (ps.map natD) s).map HV.val = _
  rw [atI_nat (v := natD (pl ps s)) (by rw [List.getElem?_map, pl_get hs]; rfl)]
  rfl
theorem ns_ix {s : Nat} (hs : s < ns.length) : dIx (.tup (ns.map D.str)) (.int s) = some (.val (.str (ns.getD s ""))) := by
  show (atI (ns.map D.str) s).map HV.val = _
  rw [atI_nat (v := D.str (ns.getD s "")) (by rw [List.getElem?_map, List.getD_eq_getElem?_getD, List.getElem?_eq_getElem hs]; rfl)]
  rfl
theorem ch_len (c : Ch) : dLen (chD c) = some (.val (.int (match c with | .held _ => 2 | .idle _ => 2 | .same _ _ => 3 | .loose _ _ => 3))) := by cases c <;> rfl
theorem cc_spec {c : Ch} (P : IsP n ps) (h : okC n c) (q : Q (.val (chD (carC ps c))) J) : Ex X (F_carried_change [.val (chD c), .val (plD ps)] J) Q := by
  have hp := P.len
  unfold F_carried_change B_carried_change
  rw [Ex_mkF]
  cases c with
  | held t =>
    have h : t < n := h
    have e1 : dIx (chD (.held t)) (.int 1) = some (.val (.int t)) := rfl
    simp [startE, ch_len, ch_kind, e1, pl_ix (ps := ps) (s := t) (by omega), big]
    exact q
  | idle t =>
    have h : t < n := h
    have e1 : dIx (chD (.idle t)) (.int 1) = some (.val (.int t)) := rfl
    simp [startE, ch_len, ch_kind, e1, pl_ix (ps := ps) (s := t) (by omega), big]
    exact q
  | same s t =>
    have h1 := h.1
    have h2 := h.2
    have e1 : dIx (chD (.same s t)) (.int 1) = some (.val (.int s)) := rfl
    have e2 : dIx (chD (.same s t)) (.int 2) = some (.val (.int t)) := rfl
    have q : Q (.val (chD (if pl ps s ≤ pl ps t then .same (pl ps s) (pl ps t) else .same (pl ps t) (pl ps s)))) J := q
    simp [startE, ch_len, ch_kind, e1, e2, pl_ix (ps := ps) (s := s) (by omega), pl_ix (ps := ps) (s := t) (by omega), big, dSorted, asInts, isort, insI]
    by_cases hc : pl ps s ≤ pl ps t
    · rw [if_pos hc] at q
      simp [hc, tgSeq, tgs]
      exact q
    · rw [if_neg hc] at q
      simp [hc, tgSeq, tgs]
      exact q
  | loose s t =>
    have h1 := h.1
    have h2 := h.2
    have e1 : dIx (chD (.loose s t)) (.int 1) = some (.val (.int s)) := rfl
    have e2 : dIx (chD (.loose s t)) (.int 2) = some (.val (.int t)) := rfl
    have q : Q (.val (chD (if pl ps s ≤ pl ps t then .loose (pl ps s) (pl ps t) else .loose (pl ps t) (pl ps s)))) J := q
    simp [startE, ch_len, ch_kind, e1, e2, pl_ix (ps := ps) (s := s) (by omega), pl_ix (ps := ps) (s := t) (by omega), big, dSorted, asInts, isort, insI]
    by_cases hc : pl ps s ≤ pl ps t
    · rw [if_pos hc] at q
      simp [hc, tgSeq, tgs]
      exact q
    · rw [if_neg hc] at q
      simp [hc, tgSeq, tgs]
      exact q
end K03
set_option Elab.async false
set_option linter.all false
set_option maxRecDepth 100000
set_option maxHeartbeats 4000000
set_option autoImplicit false
namespace K03
open PySem L2 L2.Pz
variable {X : XP} {Q : HV → Jr → Prop} {T J : Jr} {jc : List D} {b : Nat} {n : Nat} {ns : List Str} {cs : List Ch} {ps : List Nat}
theorem pair_get {ds : List D} {k i : Nat} {d : D} (h : (pairUp k ds)[i]? = some d) : ∃ e, ds[i]? = some e ∧ d = .tup [.int ((k + i : Nat) : Int), e] := by
  have hi : i < ds.length := by
    have := (List.getElem?_eq_some_iff.mp h).1
    rw [pairUp_len] at this
    exact this
  have := pairUp_get ds k i ds[i] (List.getElem?_eq_getElem hi)
  rw [this] at h
  exact ⟨_, List.getElem?_eq_getElem hi, (Option.some.inj h).symm⟩
@[simp] theorem Ex_yes {env : En} {Q : Bool → Jr → Prop} : Ex X (bYes env J) Q ↔ Q true J := Ex_ok
theorem ixL0 {x y : D} : dIx (.lst [x, y]) (.int 0) = some (.val x) := rfl
theorem ixL1 {x y : D} : dIx (.lst [x, y]) (.int 1) = some (.val y) := rfl
def carD (ps : List Nat) (c : Ch) : D := chD (carC ps c)
theorem carD_map : (cs.map (carC ps)).map chD = cs.map (carD ps) := by rw [List.map_map]; rfl
@[simp] theorem cset {x y : List D} : (J ++ [x]).set J.length y = J ++ [y] := by simp
@[simp] theorem cget {x : List D} : (J ++ [x])[J.length]? = some x := by simp
@[simp] theorem cset2a {x y z : List D} : (J ++ [x, y]).set J.length z = J ++ [z, y] := by simp
@[simp] theorem cset2b {x y z : List D} : (J ++ [x, y]).set (J.length + 1) z = J ++ [x, z] := by simp
@[simp] theorem cget2a {x y : List D} : (J ++ [x, y])[J.length]? = some x := by simp
@[simp] theorem cget2b {x y : List D} : (J ++ [x, y])[J.length + 1]? = some y := by simp
def nmD (ns : List Str) (s : Nat) : D := .str (ns.getD s "")
theorem carN_D (hn : ns.length = n) : (carN ps ns).map D.str = (List.range n).map fun j => nmD ns (bk ps j) := by
  unfold carN nmD
  rw [List.map_map, hn]
  rfl
theorem ix_fill {L : List D} (P : IsP n ps) (hl : L.length = n) {s : Nat} (hs : s < n) : ixN L.length (pl ps s) = some (pl ps s) := by
  rw [ixN_in (by omega) (by have := pl_lt P hs; omega)]
  simp
theorem car_spec (S : St n ns cs) (P : IsP n ps) (q : Q (.val (setD (carN ps ns) (cs.map (carC ps)))) J) : Ex X (F_carried_setting [.val (setD ns cs), .val (plD ps)] J) Q := by
  have hn5 := S.n5
  have hcl := S.cl
  have hp := P.len
  unfold F_carried_setting B_carried_setting
  rw [Ex_mkF]
  have e0 : repOk 1 n = true := by unfold repOk; simp [big]; omega
  have e1 : dLen (plD ps) = some (.val (.int n)) := by show some (HV.val (.int ((ps.map natD).length))) = _; rw [List.length_map, hp]
  have e2 : itemsOf (.val (plD ps)) = some (ps.map natD) := rfl
  simp [startE, e1, e0, big, Sx_for, e2]
  refine Sx_loop (fun i env J' => ∃ (L : List D) (z3 z4 : Option HV), env = [some (.val (setD ns cs)), some (.val (plD ps)), some (.jar J.length), z3, z4, none] ∧ J' = J ++ [L] ∧ L.length = n ∧ ∀ s, s < i → L[pl ps s]? = some (nmD ns s)) ?_ ?_ ?_
  · exact ⟨_, _, _, rfl, rfl, by simp, by simp⟩
  · rintro i d env J' hd ⟨L, z3, z4, rfl, rfl, hl, hf⟩
    obtain ⟨e, he, rfl⟩ := pair_get hd
    obtain ⟨k, hk, rfl⟩ := map_get he
    have hi : i < n := by rw [← hp]; exact (List.getElem?_eq_some_iff.mp hk).1
    have hk2 : k = pl ps i := by rw [pl_get (by omega)] at hk; exact (Option.some.inj hk).symm
    subst hk2
    have e3 := ns_ix (ns := ns) (s := i) (by rw [S.len]; exact hi)
    simp [tgSeq, tgs, ix0, e3, natD, ix_fill P hl hi]
    exact ⟨hl, fill_step P hi hl hf⟩
  · rintro env J' ⟨L, z3, z4, rfl, rfl, hl, hf⟩
    rw [pairUp_len, List.length_map, hp] at hf
    have eL := fill_eq P hl hf
    rw [← carN_D S.len] at eL
    subst eL
    simp [dTuple]
    refine Ex_lcX ?_
    simp [ix1]
    refine Ex_lcLoop (fun i acc J' => acc = (cs.map (carD ps)).take i ∧ J' = J ++ [(carN ps ns).map D.str]) ⟨rfl, rfl⟩ ?_ ?_
    · rintro i d acc J' hd ⟨rfl, rfl⟩
      obtain ⟨c, hc1, rfl⟩ := map_get hd
      have hi : i < cs.length := (List.getElem?_eq_some_iff.mp hc1).1
      simp [tgName, wipeE]
      refine cc_spec P (S.ch c (List.mem_of_getElem? hc1)) ?_
      have hm : (cs.map (carD ps))[i]? = some (carD ps c) := by rw [List.getElem?_map, hc1]; rfl
      simp [big, take_succ hm]
      exact ⟨by omega, rfl⟩
    · rintro acc J' ⟨rfl, rfl⟩
      rw [List.length_map, List.take_of_length_le (by simp)]
      simp [big]
      unfold setD at q
      rw [carD_map] at q
      exact q
theorem carl_spec (S : St n ns cs) (P : IsP n ps) (q : Q (.val (setD (carN ps ns) (cs.map (carC ps)))) J) : Ex X (F_l_carried [.val (setD ns cs), .val (plD ps)] J) Q := by
  have hn5 := S.n5
  have hcl := S.cl
  have hp := P.len
  unfold F_l_carried B_l_carried
  rw [Ex_mkF]
  have e0 : rgOk n = true := by unfold rgOk; simp; omega
  have e1 : dLen (plD ps) = some (.val (.int n)) := by show some (HV.val (.int ((ps.map natD).length))) = _; rw [List.length_map, hp]
  simp [startE, e1, e0, big, Sx_for, ix0, dList]
  refine Sx_loop (fun i env J' => ∃ (L : List D) (z3 : Option HV), env = [some (.val (setD ns cs)), some (.val (plD ps)), some (.jar J.length), z3, none, none, none] ∧ J' = J ++ [L] ∧ L.length = n ∧ ∀ s, s < i → L[pl ps s]? = some (nmD ns s)) ?_ ?_ ?_
  · exact ⟨_, _, rfl, rfl, by simp [S.len], by simp⟩
  · rintro i d env J' hd ⟨L, z3, rfl, rfl, hl, hf⟩
    obtain ⟨rfl, hi⟩ := rgD_get hd
    have e3 := ns_ix (ns := ns) (s := i) (by rw [S.len]; exact hi)
    have e4 := pl_ix (ps := ps) (s := i) (by omega)
    simp [tgName, ix0, e3, e4, ix_fill P hl hi]
    exact ⟨hl, fill_step P hi hl hf⟩
  · rintro env J' ⟨L, z3, rfl, rfl, hl, hf⟩
    rw [rgD_len] at hf
    have eL := fill_eq P hl hf
    rw [← carN_D S.len] at eL
    subst eL
    simp [big, Sx_for, ix1]
    refine Sx_loop (fun i env J' => ∃ (z3 z5 z6 : Option HV), env = [some (.val (setD ns cs)), some (.val (plD ps)), some (.jar J.length), z3, some (.jar (J.length + 1)), z5, z6] ∧ J' = J ++ [(carN ps ns).map D.str, (cs.map (carD ps)).take i]) ?_ ?_ ?_
    · exact ⟨_, _, _, rfl, rfl⟩
    · rintro i d env J' hd ⟨z3, z5, z6, rfl, rfl⟩
      obtain ⟨c, hc1, rfl⟩ := map_get hd
      have hi : i < cs.length := (List.getElem?_eq_some_iff.mp hc1).1
      have okc := S.ch c (List.mem_of_getElem? hc1)
      simp [tgName]
      refine Ex_lcX ?_
      have hm : (cs.map (carD ps))[i]? = some (carD ps c) := by rw [List.getElem?_map, hc1]; rfl
      rw [take_succ hm]
      simp [wipeE]
      cases c with
      | held t =>
        have okc : t < n := okc
        have e1 : dSl (chD (.held t)) (some 1) none = some (.val (.tup [.int t])) := by with_unfolding_all rfl
        simp [e1, lcLoop, tgName, pl_ix (ps := ps) (s := t) (by omega), big, dLen, ch_kind, dTuple, dAdd, toVal]
        exact ⟨by omega, rfl⟩
      | idle t =>
        have okc : t < n := okc
        have e1 : dSl (chD (.idle t)) (some 1) none = some (.val (.tup [.int t])) := by with_unfolding_all rfl
        simp [e1, lcLoop, tgName, pl_ix (ps := ps) (s := t) (by omega), big, dLen, ch_kind, dTuple, dAdd, toVal]
        exact ⟨by omega, rfl⟩
      | same s t =>
        have o1 := okc.1
        have o2 := okc.2
        have e1 : dSl (chD (.same s t)) (some 1) none = some (.val (.tup [.int s, .int t])) := by with_unfolding_all rfl
        have ec : carD ps (.same s t) = chD (if pl ps s ≤ pl ps t then .same (pl ps s) (pl ps t) else .same (pl ps t) (pl ps s)) := rfl
        simp [e1, lcLoop, tgName, pl_ix (ps := ps) (s := s) (by omega), pl_ix (ps := ps) (s := t) (by omega), big, dLen, ch_kind, dTuple, dAdd, ixL0, ixL1, dGt, dInt2, yes2]
        by_cases hc : pl ps s ≤ pl ps t
        · rw [if_pos hc] at ec
          rw [if_neg (by omega)]
          exact ⟨by omega, ec.symm⟩
        · rw [if_neg hc] at ec
          rw [if_pos (by omega)]
          exact ⟨by omega, ec.symm⟩
      | loose s t =>
        have o1 := okc.1
        have o2 := okc.2
        have e1 : dSl (chD (.loose s t)) (some 1) none = some (.val (.tup [.int s, .int t])) := by with_unfolding_all rfl
        have ec : carD ps (.loose s t) = chD (if pl ps s ≤ pl ps t then .loose (pl ps s) (pl ps t) else .loose (pl ps t) (pl ps s)) := rfl
        simp [e1, lcLoop, tgName, pl_ix (ps := ps) (s := s) (by omega), pl_ix (ps := ps) (s := t) (by omega), big, dLen, ch_kind, dTuple, dAdd, ixL0, ixL1, dGt, dInt2, yes2]
        by_cases hc : pl ps s ≤ pl ps t
        · rw [if_pos hc] at ec
          rw [if_neg (by omega)]
          exact ⟨by omega, ec.symm⟩
        · rw [if_neg hc] at ec
          rw [if_pos (by omega)]
          exact ⟨by omega, ec.symm⟩
    · rintro env J' ⟨z3, z5, z6, rfl, rfl⟩
      rw [List.length_map, List.take_of_length_le (by simp)]
      simp [dTuple, big]
      unfold setD at q
      rw [carD_map] at q
      exact q
theorem back_spec (hn : n ≤ 5) (P : IsP n ps) (q : Q (.val (plD (inv ps))) J) : Ex X (F_l_back [.val (plD ps)] J) Q := by
  have hp := P.len
  unfold F_l_back B_l_back
  rw [Ex_mkF]
  have e0 : rgOk n = true := by unfold rgOk; simp; omega
  have e1 : dLen (plD ps) = some (.val (.int n)) := by show some (HV.val (.int ((ps.map natD).length))) = _; rw [List.length_map, hp]
  have e2 : dList (plD ps) = some (.new (ps.map natD)) := rfl
  simp [startE, e1, e0, big, Sx_for, e2]
  refine Sx_loop (fun i env J' => ∃ (L : List D) (z2 : Option HV), env = [some (.val (plD ps)), some (.jar J.length), z2] ∧ J' = J ++ [L] ∧ L.length = n ∧ ∀ s, s < i → L[pl ps s]? = some (natD s)) ?_ ?_ ?_
  · exact ⟨_, _, rfl, rfl, by simp [hp], by simp⟩
  · rintro i d env J' hd ⟨L, z2, rfl, rfl, hl, hf⟩
    obtain ⟨rfl, hi⟩ := rgD_get hd
    have e4 := pl_ix (ps := ps) (s := i) (by omega)
    simp [tgName, e4, ix_fill P hl hi]
    exact ⟨hl, fill_step P hi hl hf⟩
  · rintro env J' ⟨L, z2, rfl, rfl, hl, hf⟩
    rw [rgD_len] at hf
    have eL := fill_eq P hl hf
    have e3 : L = (inv ps).map natD := by rw [eL]; unfold inv; rw [List.map_map, hp]; rfl
    subst e3
    simp [dTuple]
    exact q
end K03
set_option Elab.async false
set_option linter.all false
set_option maxRecDepth 100000
set_option maxHeartbeats 4000000
set_option autoImplicit false
namespace K03
open PySem L2 L2.Pz
variable {X : XP} {Q : HV → Jr → Prop} {T J : Jr} {jc : List D} {b : Nat} {n : Nat} {ns : List Str} {cs : List Ch} {ps : List Nat}
def fix3 (n : Nat) : List (List Nat) := [List.range n, List.range' 1 (n - 1) ++ [0], (List.range n).reverse]
def fix4 (n : Nat) : List Nat := (n - 1) :: List.range (n - 1)
theorem five (h1 : 1 ≤ n) (h5 : n ≤ 5) : n = 1 ∨ n = 2 ∨ n = 3 ∨ n = 4 ∨ n = 5 := by omega
theorem fix3_ok (h1 : 1 ≤ n) (h5 : n ≤ 5) : ∀ w ∈ fix3 n, IsP n w := by
  have : ∀ w ∈ fix3 n, w.Perm (List.range n) := by
    rcases five h1 h5 with rfl | rfl | rfl | rfl | rfl <;> decide
  exact fun w hw => isP_of (this w hw)
theorem fix4_ok (h1 : 1 ≤ n) (h5 : n ≤ 5) : IsP n (fix4 n) := by
  have : (fix4 n).Perm (List.range n) := by
    rcases five h1 h5 with rfl | rfl | rfl | rfl | rfl <;> decide
  exact isP_of this
abbrev EW3 : EF := eLst [(eRg mkT (iRange1 (eName 2))), (eUn dTuple (eBin dAdd (eRg mkL (iRange2 (eC (.int 1)) (eName 2))) (eLst [(eC (.int 0))]))), (eUn dTuple (eLc (iRange1 (eName 2)) (tgName 9) bYes (eBin dSub (eBin dSub (eName 2) (eC (.int 1))) (eName 9)) [9]))]
abbrev EW1 : EF := eLst [(eUn dTuple (eBin dAdd (eLst [(eBin dSub (eName 2) (eC (.int 1)))]) (eRg mkL (iRange1 (eBin dSub (eName 2) (eC (.int 1)))))))]
theorem ways3 (h1 : 1 ≤ n) (h5 : n ≤ 5) {z0 z1 z3 z4 z5 z6 z7 z8 z9 : Option HV} : EW3 [z0, z1, some (.val (.int n)), z3, z4, z5, z6, z7, z8, z9] J = .ok (.new ((fix3 n).map plD)) J := by
  rcases five h1 h5 with rfl | rfl | rfl | rfl | rfl <;> with_unfolding_all rfl
theorem ways1 (h1 : 1 ≤ n) (h5 : n ≤ 5) {z0 z1 z3 z4 z5 z6 z7 z8 z9 : Option HV} : EW1 [z0, z1, some (.val (.int n)), z3, z4, z5, z6, z7, z8, z9] J = .ok (.new ([fix4 n].map plD)) J := by
  rcases five h1 h5 with rfl | rfl | rfl | rfl | rfl <;> with_unfolding_all rfl
theorem St.nlen (S : St n ns cs) : dLen (.tup (ns.map D.str)) = some (.val (.int n)) := by
  show some (HV.val (.int ((ns.map D.str).length))) = _
  rw [List.length_map, S.len]
theorem ex_eq {f : EF} {env : En} {J J2 : Jr} {h : HV} {Q : HV → Jr → Prop} (e : f env J = .ok h J2) (q : Q h J2) : Ex X (f env J) Q := by
  rw [e]
  exact Ex_ok.mpr q
theorem plD_lst {ws : List (List Nat)} {i : Nat} (hi : i < ws.length) : dIx (.lst (ws.map plD)) (.int i) = some (.val (plD ws[i])) := by
  show (atI (ws.map plD) i).map HV.val = _
  rw [atI_nat (v := plD ws[i]) (by simp [hi])]
  rfl
theorem moved_spec (S : St n ns cs) (hj : Jb b jc) (hb : b + 5000 ≤ LIM) (h : ∀ jc', Jb (b + 5000) jc' → Q (.val (.bl true)) (jc' :: T)) : Ex X (F_l_moved [.jar 0, .val (setD ns cs)] (jc :: T)) Q := by
  have hcl := S.cl
  have hn5 := S.n5
  have hn1 := S.n1
  unfold F_l_moved B_l_moved
  rw [Ex_mkF, Sx_seq, Sx_set]
  simp only [startE, Ex_un, Ex_bin, Ex_name, Ex_c]
  simp [ix0, S.nlen, -Ex_lst, -Sx_seq, -Sx_set]
  rw [Sx_seq, Sx_set]
  refine ex_eq (ways3 hn1 hn5) ?_
  simp only [norm_new, List.set_cons_succ, List.set_cons_zero]
  rw [Sx_seq, Sx_set, Ex_bin]
  simp only [Ex_name, List.getElem?_cons_succ, List.getElem?_cons_zero, nmQ_some]
  refine ex_eq (ways1 hn1 hn5) ?_
  have ha : dAdd (.lst ((fix3 n).map plD)) (.lst ([fix4 n].map plD)) = some (.new ((fix3 n ++ [fix4 n]).map plD)) := rfl
  have hW : ∀ w ∈ fix3 n ++ [fix4 n], IsP n w := by
    intro w hw
    rcases List.mem_append.mp hw with hw | hw
    · exact fix3_ok hn1 hn5 w hw
    · simp at hw; subst hw; exact fix4_ok hn1 hn5
  have hW4 : (fix3 n ++ [fix4 n]).length = 4 := rfl
  generalize fix3 n ++ [fix4 n] = W4 at *
  simp only [deref_val, deref_new, ha, OpQ_some, norm_new, List.set_cons_succ, List.set_cons_zero]
  rw [Sx_seq, Sx_set, Ex_bin]
  simp only [Ex_name, List.getElem?_cons_succ, List.getElem?_cons_zero, nmQ_some]
  refine Ex_lcX ?_
  have e3 : rgOk 3 = true := by decide
  have en : rgOk n = true := by unfold rgOk; simp; omega
  simp [e3]
  refine Ex_lcLoop (fun i acc J' => ∃ (ws : List (List Nat)) (jc' : List D), acc = ws.map plD ∧ J' = jc' :: T ∧ ws.length = i ∧ (∀ w ∈ ws, IsP n w) ∧ Jb (b + i * 1000) jc') ⟨[], jc, rfl, rfl, rfl, by simp, hj⟩ ?_ ?_
  · rintro i d acc J' hd ⟨ws, jc', rfl, rfl, hl, hws, hj'⟩
    have hi := (rgD_get hd).2
    have hi : i < 3 := hi
    simp [tgName, wipeE, en, rgD_len]
    refine ⟨by omega, ?_⟩
    refine shuffled_spec (by rw [rgD_len]; omega) hj' (by omega) fun jc2 out hj2 hp => ?_
    have er : rgD 0 n = (List.range n).map natD := by unfold rgD; exact List.map_congr_left fun k _ => by simp [natD]
    rw [er] at hp
    obtain ⟨w, hp', rfl⟩ := perm_map hp
    simp [dTuple, big]
    refine ⟨by omega, ws ++ [w], by simp [plD], by simp [hl], ?_, hj2.mono (by omega)⟩
    intro w' hw'
    rcases List.mem_append.mp hw' with hw' | hw'
    · exact hws w' hw'
    · simp at hw'; subst hw'; exact isP_of hp'
  · rintro acc J' ⟨ws, jc1, rfl, rfl, hl, hws, hj1⟩
    have hl : ws.length = 3 := hl
    have hj1 : Jb (b + 3 * 1000) jc1 := hj1
    have hb2 : dAdd (.lst (W4.map plD)) (.lst (ws.map plD)) = some (.new ((W4 ++ ws).map plD)) := by
      show (if _ then _ else none) = _
      rw [if_pos (by simp [big]; omega), List.map_append]
    have hW2 : ∀ w ∈ W4 ++ ws, IsP n w := fun w hw => (List.mem_append.mp hw).elim (hW w) (hws w)
    have hW7 : (W4 ++ ws).length = 7 := by simp; omega
    generalize W4 ++ ws = W at *
    simp only [deref_val, deref_new, hb2, OpQ_some, norm_new, List.set_cons_succ, List.set_cons_zero]
    simp [Sx_for]
    refine Sx_loop (fun i env J => ∃ (z4 z5 z6 z7 z8 z9 : Option HV) (jc' : List D), env = [some (.jar 0), some (.val (setD ns cs)), some (.val (.int n)), some (.val (.lst (W.map plD))), z4, z5, z6, z7, z8, z9] ∧ J = jc' :: T ∧ Jb (b + 3000 + i * 2) jc' ∧ True) ⟨_, _, _, _, _, _, _, rfl, rfl, hj1, trivial⟩ ?_ ?_
    · rintro i d env J hd ⟨z4, z5, z6, z7, z8, z9, jc', rfl, rfl, hj', _⟩
      obtain ⟨ps, hps, rfl⟩ := map_get hd
      have hi : i < W.length := (List.getElem?_eq_some_iff.mp hps).1
      have P := hW2 _ (List.mem_of_getElem? hps)
      have S1 := S.car P
      have hlist : dLen (.lst (W.map plD)) = some (.val (.int W.length)) := by show some (HV.val (.int ((W.map plD).length))) = _; rw [List.length_map]
      simp [tgName]
      refine carl_spec S P ?_
      simp
      refine car_spec S P ?_
      simp
      refine draw_spec hj' (by omega) (by decide) fun r jc2 h0 h1 hj2 => ?_
      simp [permute]
      split
      · refine car_spec S P ?_
        simp
        refine same_ok S1.sok ?_
        simp
        refine back_spec hn5 P ?_
        simp
        refine car_spec S1 (inv_ok P) ?_
        rw [car_back S P]
        simp
        refine same_ok S.sok ?_
        simp
        rw [hlist]
        simp
        refine draw_spec hj2 (by omega) (by omega) fun r2 jc3 h2 h3 hj3 => ?_
        obtain ⟨k, rfl⟩ := Int.eq_ofNat_of_zero_le h2
        have hk : k < W.length := by omega
        have P2 := hW2 _ (List.getElem_mem hk)
        simp [plD_lst hk]
        refine car_spec S1 P2 ?_
        simp only [norm_val]
        refine carl_spec S1 P2 ?_
        simp only [norm_val]
        refine same_ok (S1.car P2).sok ?_
        simp
        exact hj3.mono (by omega)
      · refine same_ok S1.sok ?_
        simp
        refine back_spec hn5 P ?_
        simp
        refine car_spec S1 (inv_ok P) ?_
        rw [car_back S P]
        simp
        refine same_ok S.sok ?_
        simp
        rw [hlist]
        simp
        refine draw_spec hj2 (by omega) (by omega) fun r2 jc3 h2 h3 hj3 => ?_
        obtain ⟨k, rfl⟩ := Int.eq_ofNat_of_zero_le h2
        have hk : k < W.length := by omega
        have P2 := hW2 _ (List.getElem_mem hk)
        simp [plD_lst hk]
        refine car_spec S1 P2 ?_
        simp only [norm_val]
        refine carl_spec S1 P2 ?_
        simp only [norm_val]
        refine same_ok (S1.car P2).sok ?_
        simp
        exact hj3.mono (by omega)
    · rintro env J ⟨z4, z5, z6, z7, z8, z9, jc', rfl, rfl, hj', _⟩
      simp
      refine h _ (hj'.mono ?_)
      rw [List.length_map]
      omega
end K03
set_option Elab.async false
set_option linter.all false
set_option maxRecDepth 100000
set_option maxHeartbeats 4000000
set_option autoImplicit false
namespace K03
open PySem L2 L2.Pz
variable {X : XP} {Q : HV → Jr → Prop} {T J : Jr} {jc : List D} {b : Nat} {n : Nat} {ns : List Str} {cs : List Ch} {ps : List Nat}
theorem look_spec {p : Int} (S : St n ns cs) (hj : Jb b jc) (hb : b + 5000 ≤ LIM) (h : ∀ jc', Jb (b + 5000) jc' → Q (.val (.bl true)) (jc' :: T)) : Ex X (F_l_look [.jar 0, .val (setD ns cs), .val (.int p)] (jc :: T)) Q := by
  unfold F_l_look B_l_look
  rw [Ex_mkF]
  simp [startE]
  split
  · refine kinds_spec S hj (by omega) fun jc' hj' => ?_
    simp
    exact h _ (hj'.mono (by omega))
  · split
    · refine more_spec S hj (by omega) fun jc' hj' => ?_
      simp
      exact h _ (hj'.mono (by omega))
    · split
      · refine fewer_spec S hj (by omega) fun jc' hj' => ?_
        simp
        exact h _ (hj'.mono (by omega))
      · refine moved_spec S hj (by omega) fun jc' hj' => ?_
        simp
        exact h _ hj'
@[simp] theorem dAdd_int {i j : Int} : dAdd (.int i) (.int j) = some (.val (.int (i + j))) := rfl
/-- a setting's data -/
def IsS (d : D) : Prop := ∃ (n : Nat) (ns : List Str) (cs : List Ch), d = setD ns cs ∧ St n ns cs
theorem St.is (S : St n ns cs) : IsS (setD ns cs) := ⟨n, ns, cs, rfl, S⟩
def csA : List Ch := [.same 1 3, .idle 2, .same 0 3, .idle 0, .same 0 1]
def csB : List Ch := [.loose 2 3, .held 3, .loose 0 2, .held 1, .loose 0 3, .held 0]
def loose5 : List Ch := (poolL 5).filter fun c => kind c == "loose"
def csC : List Ch := loose5 ++ [.same 0 4, .held 2]
theorem csC_ok : (∀ c ∈ csC, okC 5 c) ∧ csC.length ≤ 40 := by decide +kernel
theorem settings_spec (hj : Jb b jc) (hb : b + 30000 ≤ LIM) (h : ∀ jc' out, Jb (b + 30000) jc' → (∀ d ∈ out, IsS d) → out.length = 10 → Q (.new out) (jc' :: T)) : Ex X (F_l_settings [.jar 0] (jc :: T)) Q := by
  unfold F_l_settings B_l_settings
  rw [Ex_mkF]
  simp [startE]
  refine setting_spec (n := 5) (by decide) (by decide) (by decide) hj (by omega) fun j1 n1 c1 hj1 S1 => ?_
  simp
  refine setting_spec (n := 5) (by decide) (by decide) (by decide) hj1 (by omega) fun j2 n2 c2 hj2 S2 => ?_
  simp
  refine draw_spec hj2 (by omega) (by decide) fun r3 j3 h3 h3' hj3 => ?_
  simp
  refine setting_spec (n := 1) (by decide) (by decide) h3 hj3 (by omega) fun j4 n4 c4 hj4 S4 => ?_
  simp [big]
  refine draw_spec hj4 (by omega) (by decide) fun r5 j5 h5 h5' hj5 => ?_
  simp
  obtain ⟨k5, rfl⟩ := Int.eq_ofNat_of_zero_le h5
  have e5 : (2 : Int) + (k5 : Int) = ((2 + k5 : Nat) : Int) := by omega
  rw [e5]
  refine setting_spec (n := 2 + k5) (by omega) (by omega) (by decide) hj5 (by omega) fun j6 n6 c6 hj6 S6 => ?_
  simp
  refine draw_spec hj6 (by omega) (by decide) fun r7 j7 h7 h7' hj7 => ?_
  simp
  refine setting_spec (n := 3) (by decide) (by decide) (by omega) hj7 (by omega) fun j8 n8 c8 hj8 S8 => ?_
  have e2 : rgOk 2 = true := by decide
  simp [Sx_for, e2]
  have base : ∀ d ∈ ([setD n1 c1, setD n2 c2, setD n4 c4, setD n6 c6, setD n8 c8] : List D), IsS d := by
    intro d hd
    simp at hd
    rcases hd with rfl | rfl | rfl | rfl | rfl
    · exact S1.is
    · exact S2.is
    · exact S4.is
    · exact S6.is
    · exact S8.is
  refine Sx_loop (fun i env J => ∃ (out : List D) (z2 : Option HV) (jc' : List D), env = [some (.jar 0), some (.jar (T.length + 1)), z2, none, none, none] ∧ J = jc' :: (T ++ [out]) ∧ Jb (b + 10010 + i * 2010) jc' ∧ (∀ d ∈ out, IsS d) ∧ out.length = 5 + i) ⟨_, _, _, rfl, rfl, hj8.mono (by omega), base, rfl⟩ ?_ ?_
  · rintro i d env J hd ⟨out, z2, jc', rfl, rfl, hj', hs, hl⟩
    have hi := (rgD_get hd).2
    have hi : i < 2 := hi
    simp [tgName]
    refine draw_spec hj' (by omega) (by decide) fun r1 jc1 h1 h1' hj1 => ?_
    simp
    refine draw_spec hj1 (by omega) (by decide) fun r2 jc2 h2 h2' hj2 => ?_
    simp
    obtain ⟨k, rfl⟩ := Int.eq_ofNat_of_zero_le h1
    have e5 : (2 : Int) + (k : Int) = ((2 + k : Nat) : Int) := by omega
    rw [e5]
    refine setting_spec (n := 2 + k) (by omega) (by omega) h2 hj2 (by omega) fun jc3 n3 c3 hj3 S3 => ?_
    simp [big]
    refine ⟨by omega, _, _, ⟨rfl, rfl⟩, hj3.mono (by omega), ?_, by simp; omega⟩
    intro d hd
    rcases List.mem_append.mp hd with hd | hd
    · exact hs d hd
    · simp at hd; subst hd; exact S3.is
  · rintro env J ⟨out, z2, jc', rfl, rfl, hj', hs, hl⟩
    have hl : out.length = 7 := hl
    have hj' : Jb (b + 10010 + 2 * 2010) jc' := hj'
    simp
    refine names_spec (n := 4) (by decide) hj' (by omega) fun jc1 m4 hj1 hm4 ok4 => ?_
    have SA : St 4 m4 csA := ⟨by decide, by decide, hm4, ok4, by decide, by decide⟩
    have SB : St 4 m4 csB := ⟨by decide, by decide, hm4, ok4, by decide, by decide⟩
    simp [big]
    refine ⟨by omega, ?_⟩
    refine Ex_lcX ?_
    simp [wipeE]
    refine pool_spec (n := 5) (by decide) ?_
    simp
    refine Ex_lcLoop (fun i acc J' => acc = (((poolL 5).take i).filter fun c => kind c == "loose").map chD ∧ J' = jc1 :: (T ++ [out ++ [setD m4 csA]])) ⟨rfl, rfl⟩ ?_ ?_
    · rintro i d acc J' hd ⟨rfl, rfl⟩
      obtain ⟨c, hc1, rfl⟩ := map_get hd
      have hi : i < (poolL 5).length := (List.getElem?_eq_some_iff.mp hc1).1
      have hpl := pool_len (n := 5) (by decide)
      have hll : (((poolL 5).take i).filter fun c => kind c == "loose").length ≤ i := Nat.le_trans (List.length_filter_le _ _) (by rw [List.length_take]; omega)
      have hk : PyData.strOk ("loose" : Str) = true := by decide +kernel
      simp [tgName, ch_kind, dEq_str (kind_ok c) hk, take_succ hc1, List.filter_append]
      intro e
      simp [e, big]
      omega
    · rintro acc J' ⟨rfl, rfl⟩
      rw [List.length_map, List.take_length]
      simp
      refine names_spec (n := 5) (by decide) hj1 (by omega) fun jc2 m5 hj2 hm5 ok5 => ?_
      have hC : dAdd (.lst (loose5.map chD)) (.lst [.tup [.str "same", .int 0, .int 4], .tup [.str "held", .int 2]]) = some (.new (csC.map chD)) := by with_unfolding_all rfl
      unfold loose5 at hC
      simp [hC]
      refine shuffled_spec (by rw [List.length_map]; have := csC_ok.2; omega) hj2 (by omega) fun jc3 o3 hj3 hp => ?_
      obtain ⟨c3, hp', rfl⟩ := perm_map hp
      have SC : St 5 m5 c3 := ⟨by decide, by decide, hm5, ok5, fun c hc => csC_ok.1 c (hp'.subset hc), by rw [hp'.length_eq]; exact csC_ok.2⟩
      simp [dTuple, big]
      refine ⟨by omega, by omega, ?_⟩
      rw [outH_jar (Nat.le_refl _) cell_get1, Ex_ok]
      have ht : ∀ x : List D, (jc3 :: (T ++ [x])).take (T.length + 1) = jc3 :: T := fun x => by simp
      rw [ht]
      refine h _ _ (hj3.mono (by omega)) ?_ (by simp; omega)
      intro d hd
      rcases List.mem_append.mp hd with hd | hd
      · exact hs d hd
      · have hd : d = setD m4 csA ∨ d = setD m5 c3 ∨ d = setD m4 csB := by
          rcases List.mem_cons.mp hd with hd | hd
          · exact .inl hd
          · rcases List.mem_cons.mp hd with hd | hd
            · exact .inr (.inl hd)
            · exact .inr (.inr (List.mem_singleton.mp hd))
        rcases hd with rfl | rfl | rfl
        · exact SA.is
        · exact SC.is
        · exact SB.is
theorem law_true (is : List Int) (hn : is.length ≤ 63) : F_law [.val (.lst (is.map D.int))] [] = .ok (.val (.bl true)) [] := by
  suffices h : Ex nX (F_law [.val (.lst (is.map D.int))] []) fun h J => h = .val (.bl true) ∧ J = [] by
    cases e : F_law [.val (.lst (is.map D.int))] [] with
    | ok a J => rw [e] at h; obtain ⟨h1, h2⟩ := Ex_ok.mp h; rw [h1, h2]
    | err c fs J => rw [e] at h; exact (Ex_err.mp h).elim
    | stuck => rw [e] at h; exact (Ex_stuck.mp h).elim
  unfold F_law B_law
  rw [Ex_mkF]
  simp [startE]
  refine jar_spec is (fun jc hj => ?_) hn
  simp
  have hL : LIM = 1000000000 := rfl
  refine settings_spec (T := []) hj (by omega) fun jc1 out hj1 hs hl => ?_
  simp
  refine shuffled_spec (T := []) (by omega) hj1 (by omega) fun jc2 out2 hj2 hp => ?_
  simp
  have hs2 : ∀ d ∈ out2, IsS d := fun d hd => hs d (hp.subset hd)
  have hl2 : out2.length = 10 := by rw [hp.length_eq, hl]
  refine rows_spec (T := []) hj2 (by omega) fun jc3 hj3 => ?_
  simp [Sx_for]
  refine Sx_loop (fun i env J => ∃ (z4 z5 z6 : Option HV) (jc' : List D), env = [some (.val (.lst (is.map D.int))), some (.jar 0), some (.val (.lst out2)), some (.val (.int (4 * i : Nat))), z4, z5, z6] ∧ J = [jc'] ∧ Jb (40000 + i * 30000) jc' ∧ True) ⟨_, _, _, _, rfl, rfl, hj3.mono (by omega), trivial⟩ ?_ ?_
  · rintro i d env J hd ⟨z4, z5, z6, jc', rfl, rfl, hj', _⟩
    have hi : i < out2.length := (List.getElem?_eq_some_iff.mp hd).1
    obtain ⟨n, ns, cs, rfl, S⟩ := hs2 d (List.mem_of_getElem? hd)
    simp [tgName, Sx_for, big]
    refine shuffled_spec (T := []) (by simp) hj' (by omega) fun jc4 o4 hj4 hp4 => ?_
    have hl4 : o4.length = 4 := hp4.length_eq
    simp
    refine Sx_loop (fun m env J => ∃ (z5 z6 : Option HV) (jc' : List D), env = [some (.val (.lst (is.map D.int))), some (.jar 0), some (.val (.lst out2)), some (.val (.int (4 * i + m : Nat))), some (.val (setD ns cs)), z5, z6] ∧ J = [jc'] ∧ Jb (40000 + i * 30000 + 1000 + m * 5000) jc' ∧ True) ⟨_, _, _, rfl, rfl, hj4, trivial⟩ ?_ ?_
    · rintro m d env J hd ⟨z5, z6, jc', rfl, rfl, hj', _⟩
      have hm : m < o4.length := (List.getElem?_eq_some_iff.mp hd).1
      have : ∃ p : Int, d = .int p := by
        have := hp4.subset (List.mem_of_getElem? hd)
        simp at this
        rcases this with rfl | rfl | rfl | rfl <;> exact ⟨_, rfl⟩
      obtain ⟨p, rfl⟩ := this
      simp [tgName]
      refine look_spec (T := []) S hj' (by omega) fun jc5 hj5 => ?_
      simp
      exact ⟨by omega, hj5.mono (by omega)⟩
    · rintro env J ⟨z5, z6, jc', rfl, rfl, hj', _⟩
      rw [hl4] at hj' ⊢
      simp
      exact ⟨by omega, hj'.mono (by omega)⟩
  · rintro env J ⟨z4, z5, z6, jc', rfl, rfl, hj', _⟩
    rw [hl2] at hj' ⊢
    have e4 : rgOk 4 = true := by decide
    simp [Sx_for, e4]
    refine Sx_loop (fun m env J => ∃ (z4 z5 z6 : Option HV) (jc' : List D), env = [some (.val (.lst (is.map D.int))), some (.jar 0), some (.val (.lst out2)), some (.val (.int 40)), z4, z5, z6] ∧ J = [jc'] ∧ Jb (40000 + 10 * 30000 + m * 6000) jc' ∧ True) ⟨_, _, _, _, rfl, rfl, hj', trivial⟩ ?_ ?_
    · rintro m d env J hd ⟨z4, z5, z6, jc', rfl, rfl, hj', _⟩
      have hm := (rgD_get hd).2
      have hm : m < 4 := hm
      simp [tgName, dLen, hl2]
      refine draw_spec (T := []) hj' (by omega) (by decide) fun r jc4 h0 h1 hj4 => ?_
      have hr : r.toNat < out2.length := by omega
      have hix : dIx (.lst out2) (.int r) = some (.val out2[r.toNat]) := by
        show (atI out2 r).map HV.val = _
        rw [atI_in h0 (by omega)]
        rfl
      obtain ⟨n, ns, cs, eS, S⟩ := hs2 _ (List.getElem_mem hr)
      rw [eS] at hix
      simp [hix]
      refine draw_spec (T := []) hj4 (by omega) (by decide) fun p jc5 h2 h3 hj5 => ?_
      simp
      refine look_spec (T := []) S hj5 (by omega) fun jc6 hj6 => ?_
      simp
      exact hj6.mono (by omega)
    · rintro env J ⟨z4, z5, z6, jc', rfl, rfl, hj', _⟩
      have hj' : Jb (40000 + 10 * 30000 + 4 * 6000) jc' := hj'
      simp
      refine rows_spec (T := []) hj' (by omega) fun jc6 hj6 => ?_
      simp
end K03
set_option Elab.async false
set_option linter.all false
set_option maxRecDepth 100000
set_option maxHeartbeats 4000000
set_option autoImplicit false
namespace K03
open PySem PySem.Spec PyProof.Rows L2 L2.Pz
def top (i : Nat) : Stmt := PySem.Challenge.pw_howeverheard_k03_changes_of_settings.main.body.getD i (.Pass ⟨0, 0, 0, 0⟩)
abbrev s_l_jar : Stmt := top 8
abbrev s_l_draw : Stmt := top 9
abbrev s_l_shuffled : Stmt := top 13
abbrev s_two_rows : Stmt := top 4
abbrev s_l_pool : Stmt := top 12
abbrev s_l_same : Stmt := top 15
abbrev s_l_two : Stmt := top 16
abbrev s_l_rows_of_changes : Stmt := top 20
abbrev s_changes_of : Stmt := top 3
abbrev s_l_of : Stmt := top 17
abbrev s_l_kinds : Stmt := top 21
abbrev s_with_change : Stmt := top 1
abbrev s_without_change : Stmt := top 2
abbrev s_l_more : Stmt := top 22
abbrev s_l_less : Stmt := top 18
abbrev s_l_fewer : Stmt := top 23
abbrev s_carried_change : Stmt := top 5
abbrev s_carried_setting : Stmt := top 6
abbrev s_l_carried : Stmt := top 19
abbrev s_l_back : Stmt := top 24
abbrev s_l_moved : Stmt := top 25
abbrev s_l_look : Stmt := top 26
abbrev s_l_barred : Stmt := top 10
abbrev s_l_names : Stmt := top 11
abbrev s_l_setting : Stmt := top 14
abbrev s_l_settings : Stmt := top 27
abbrev s_law : Stmt := top 28
structure Tx (K : PySem.W.Frag) (mg : Str → Option Value) where
  a_l_jar : Addr
  d_l_jar : FuncData
  p_l_jar : FnF K mg "_law_jar" s_l_jar a_l_jar d_l_jar ["script"]
  a_l_draw : Addr
  d_l_draw : FuncData
  p_l_draw : FnF K mg "_law_draw" s_l_draw a_l_draw d_l_draw ["jar", "many"]
  a_l_shuffled : Addr
  d_l_shuffled : FuncData
  p_l_shuffled : FnF K mg "_law_shuffled" s_l_shuffled a_l_shuffled d_l_shuffled ["jar", "row"]
  a_two_rows : Addr
  d_two_rows : FuncData
  p_two_rows : FnF K mg "two_rows" s_two_rows a_two_rows d_two_rows ["change"]
  a_l_pool : Addr
  d_l_pool : FuncData
  p_l_pool : FnF K mg "_law_pool" s_l_pool a_l_pool d_l_pool ["many"]
  a_l_same : Addr
  d_l_same : FuncData
  p_l_same : FnF K mg "_law_same" s_l_same a_l_same d_l_same ["one", "other"]
  a_l_two : Addr
  d_l_two : FuncData
  p_l_two : FnF K mg "_law_two" s_l_two a_l_two d_l_two ["change"]
  a_l_rows_of_changes : Addr
  d_l_rows_of_changes : FuncData
  p_l_rows_of_changes : FnF K mg "_law_rows_of_changes" s_l_rows_of_changes a_l_rows_of_changes d_l_rows_of_changes ["jar"]
  a_changes_of : Addr
  d_changes_of : FuncData
  p_changes_of : FnF K mg "changes_of" s_changes_of a_changes_of d_changes_of ["setting", "kind"]
  a_l_of : Addr
  d_l_of : FuncData
  p_l_of : FnF K mg "_law_of" s_l_of a_l_of d_l_of ["setting", "kind"]
  a_l_kinds : Addr
  d_l_kinds : FuncData
  p_l_kinds : FnF K mg "_law_kinds" s_l_kinds a_l_kinds d_l_kinds ["jar", "setting"]
  a_with_change : Addr
  d_with_change : FuncData
  p_with_change : FnF K mg "with_change" s_with_change a_with_change d_with_change ["setting", "change"]
  a_without_change : Addr
  d_without_change : FuncData
  p_without_change : FnF K mg "without_change" s_without_change a_without_change d_without_change ["setting", "number"]
  a_l_more : Addr
  d_l_more : FuncData
  p_l_more : FnF K mg "_law_more" s_l_more a_l_more d_l_more ["jar", "setting"]
  a_l_less : Addr
  d_l_less : FuncData
  p_l_less : FnF K mg "_law_less" s_l_less a_l_less d_l_less ["setting", "number"]
  a_l_fewer : Addr
  d_l_fewer : FuncData
  p_l_fewer : FnF K mg "_law_fewer" s_l_fewer a_l_fewer d_l_fewer ["jar", "setting"]
  a_carried_change : Addr
  d_carried_change : FuncData
  p_carried_change : FnF K mg "carried_change" s_carried_change a_carried_change d_carried_change ["change", "places"]
  a_carried_setting : Addr
  d_carried_setting : FuncData
  p_carried_setting : FnF K mg "carried_setting" s_carried_setting a_carried_setting d_carried_setting ["setting", "places"]
  a_l_carried : Addr
  d_l_carried : FuncData
  p_l_carried : FnF K mg "_law_carried" s_l_carried a_l_carried d_l_carried ["setting", "places"]
  a_l_back : Addr
  d_l_back : FuncData
  p_l_back : FnF K mg "_law_back" s_l_back a_l_back d_l_back ["places"]
  a_l_moved : Addr
  d_l_moved : FuncData
  p_l_moved : FnF K mg "_law_moved" s_l_moved a_l_moved d_l_moved ["jar", "setting"]
  a_l_look : Addr
  d_l_look : FuncData
  p_l_look : FnF K mg "_law_look" s_l_look a_l_look d_l_look ["jar", "setting", "part"]
  a_l_barred : Addr
  d_l_barred : FuncData
  p_l_barred : FnF K mg "_law_barred" s_l_barred a_l_barred d_l_barred []
  a_l_names : Addr
  d_l_names : FuncData
  p_l_names : FnF K mg "_law_names" s_l_names a_l_names d_l_names ["jar", "many"]
  a_l_setting : Addr
  d_l_setting : FuncData
  p_l_setting : FnF K mg "_law_setting" s_l_setting a_l_setting d_l_setting ["jar", "many", "size"]
  a_l_settings : Addr
  d_l_settings : FuncData
  p_l_settings : FnF K mg "_law_settings" s_l_settings a_l_settings d_l_settings ["jar"]
  a_law : Addr
  d_law : FuncData
  p_law : FnF K mg "law" s_law a_law d_law ["script"]
  z_abs : mg "abs" = none
  z_bool : mg "bool" = none
  z_enumerate : mg "enumerate" = none
  z_int : mg "int" = none
  z_isinstance : mg "isinstance" = none
  z_len : mg "len" = none
  z_list : mg "list" = none
  z_range : mg "range" = none
  z_sorted : mg "sorted" = none
  z_str : mg "str" = none
  z_tuple : mg "tuple" = none
section
variable {Pr : Program} {w : World} {K : PySem.W.Frag} {mg : Str → Option Value} {base : Heap}
theorem sc_l_jar : FnScope ["script", "seed", "cell"] ["script"] (defScope s_l_jar) := ⟨rfl, rfl, rfl, by decide +kernel, rfl, by decide +kernel, by decide +kernel⟩
theorem ok_l_jar (T : Tx K mg) : FnOk Pr w K mg base (L2.CX Pr w) 1 T.a_l_jar T.d_l_jar ["script"] (spF K (["script"] : List Str).length F_l_jar) :=
  fn_ok (k := 0) T.p_l_jar.F sc_l_jar fun cdv A outer s H E n0 hr => by
    have S := sc_l_jar
    exact (ss_cons (s_set (i := 1) S.nd rfl (by first | exact Or.inl rfl | exact Or.inr rfl) (toD (pn_bin op_addAny sem_add pd_int (toD (pn_bin op_mulW sem_mul pd_int (toD (pn_b1 call_lenAny sem_len rfl T.z_len (by rfl) (pd_name (pv 0)) (by decide) (by decide) (by rfl) (by rfl))))))) (by rfl) (by first | exact Or.inl rfl | exact Or.inr rfl))
    (ss_cons (s_for (passes_of rfl) rfl (pw_any (pd_name (pv 0))) (pg_name (i := 2) S.nd rfl (by first | exact Or.inl rfl | exact Or.inr rfl)) tgok_name (ss_one (s_set (i := 1) S.nd rfl (by first | exact Or.inl rfl | exact Or.inr rfl) (toD (pn_bin op_mod sem_mod (toD (pn_bin op_addAny sem_add (toD (pn_bin op_addAny sem_add (toD (pn_bin op_mulW sem_mul (pd_name (pv 1)) pd_int)) (toD (pn_bin op_mod sem_mod (toD (pn_b1 call_abs sem_abs rfl T.z_abs (by rfl) (toD (pn_t1 call_int1 sem_toInt rfl T.z_int (by rfl) (pd_name (pv 2)) (by decide) (by decide) (by rfl) (by rfl))) (by decide) (by decide) (by rfl) (by rfl))) (toD (pn_bin op_shl sem_shl pd_int pd_int)))))) pd_int)) pd_int)) (by rfl) (by first | exact Or.inl rfl | exact Or.inr rfl))) (fun _ => rfl))
    (ss_one (s_ret (pn_lst (pi_consD (pd_name (pv 1)) (pi_consD pd_int pi_nilD (by rfl)) (by rfl)))))))
theorem sc_l_draw : FnScope ["jar", "many"] ["jar", "many"] (defScope s_l_draw) := ⟨rfl, rfl, rfl, by decide +kernel, rfl, by decide +kernel, by decide +kernel⟩
theorem ok_l_draw (T : Tx K mg) : FnOk Pr w K mg base (L2.CX Pr w) 1 T.a_l_draw T.d_l_draw ["jar", "many"] (spF K (["jar", "many"] : List Str).length F_l_draw) :=
  fn_ok (k := 0) T.p_l_draw.F sc_l_draw fun cdv A outer s H E n0 hr => by
    have S := sc_l_draw
    exact (ss_cons (s_setI (ps_asg (toD (pn_bin op_addAny sem_add (toD (pn_t1 call_int1 sem_toInt rfl T.z_int (by rfl) (toD (pn_ix ix_seq sem_ix (pd_name (pv 0)) pd_int (fun _ _ => rfl))) (by decide) (by decide) (by rfl) (by rfl))) pd_int)) (pg_sub (pv 0) pd_int set_list)))
    (ss_cons (s_setI (ps_asg (toD (pn_bin op_mod sem_mod (toD (pn_bin op_addAny sem_add (toD (pn_bin op_addAny sem_add (toD (pn_bin op_mulW sem_mul (toD (pn_t1 call_int1 sem_toInt rfl T.z_int (by rfl) (toD (pn_ix ix_seq sem_ix (pd_name (pv 0)) pd_int (fun _ _ => rfl))) (by decide) (by decide) (by rfl) (by rfl))) pd_int)) (toD (pn_bin op_mulW sem_mul (toD (pn_t1 call_int1 sem_toInt rfl T.z_int (by rfl) (toD (pn_ix ix_seq sem_ix (pd_name (pv 0)) pd_int (fun _ _ => rfl))) (by decide) (by decide) (by rfl) (by rfl))) pd_int)))) pd_int)) pd_int)) (pg_sub (pv 0) pd_int set_list)))
    (ss_one (s_ret (pn_bin op_mod sem_mod (toD (pn_bin op_shr sem_shr (toD (pn_t1 call_int1 sem_toInt rfl T.z_int (by rfl) (toD (pn_ix ix_seq sem_ix (pd_name (pv 0)) pd_int (fun _ _ => rfl))) (by decide) (by decide) (by rfl) (by rfl))) pd_int)) (pd_name (pv 1)))))))
theorem sc_l_shuffled : FnScope ["jar", "row", "left", "out", "k", "at"] ["jar", "row"] (defScope s_l_shuffled) := ⟨rfl, rfl, rfl, by decide +kernel, rfl, by decide +kernel, by decide +kernel⟩
theorem ok_l_shuffled (T : Tx K mg) : FnOk Pr w K mg base (L2.CX Pr w) 2 T.a_l_shuffled T.d_l_shuffled ["jar", "row"] (spF K (["jar", "row"] : List Str).length F_l_shuffled) :=
  fn_ok (k := 1) T.p_l_shuffled.F sc_l_shuffled fun cdv A outer s H E n0 hr => by
    have S := sc_l_shuffled
    exact (ss_cons (s_set (i := 2) S.nd rfl (by first | exact Or.inl rfl | exact Or.inr rfl) (toD (pn_t1 call_list_of sem_list rfl T.z_list (by rfl) (pd_name (pv 1)) (by decide) (by decide) (by rfl) (by rfl))) (by rfl) (by first | exact Or.inl rfl | exact Or.inr rfl))
    (ss_cons (s_new (i := 3) S.nd rfl (by first | exact Or.inl rfl | exact Or.inr rfl) (pn_lst pi_nilD) (by rfl) (by first | exact Or.inl rfl | exact Or.inr rfl))
    (ss_cons (s_for (passes_of rfl) rfl (pw_range1 rfl T.z_range (toD (pn_b1 call_lenAny sem_len rfl T.z_len (by rfl) (pd_name (pv 1)) (by decide) (by decide) (by rfl) (by rfl))) (by rfl) (by rfl)) (pg_name (i := 4) S.nd rfl (by first | exact Or.inl rfl | exact Or.inr rfl)) tgok_name (ss_cons (s_set (i := 5) S.nd rfl (by first | exact Or.inl rfl | exact Or.inr rfl) (toD (pn_call (ok_l_draw T) (takes_of rfl rfl rfl rfl) (hr.mono (by decide)) rfl T.p_l_draw.g T.p_l_draw.F.kp T.p_l_draw.b (ph_cons (pd_name (pv 0)) (ph_cons (toD (pn_b1 call_lenAny sem_len rfl T.z_len (by rfl) (pd_name (pv 2)) (by decide) (by decide) (by rfl) (by rfl))) ph_nil (by rfl)) (by rfl)) (by rfl) (by decide) (by rfl) (by rfl))) (by rfl) (by first | exact Or.inl rfl | exact Or.inr rfl))
    (ss_cons (s_app (ps_expr (pe_bm PySem.F.plainAttrs_list PySem.F.slot_list_append PySem.F.type_list_append mt_append (pv 3) (pa_cons (toD (pn_ix ix_seq sem_ix (pd_name (pv 2)) (pd_name (pv 5)) (fun _ _ => rfl))) pa_nil))))
    (ss_one (s_set (i := 2) S.nd rfl (by first | exact Or.inl rfl | exact Or.inr rfl) (toD (pn_bin op_addAny sem_add (toD (pn_slice (pd_name (pv 2)) po_noneD (po_someD (pd_name (pv 5))))) (toD (pn_slice (pd_name (pv 2)) (po_someD (toD (pn_bin op_addAny sem_add (pd_name (pv 5)) pd_int))) po_noneD)))) (by rfl) (by first | exact Or.inl rfl | exact Or.inr rfl))))) (fun _ => rfl))
    (ss_one (s_ret (toN' (pd_name (pv 3))))))))
theorem sc_two_rows : FnScope ["change", "kind", "sign"] ["change"] (defScope s_two_rows) := ⟨rfl, rfl, rfl, by decide +kernel, rfl, by decide +kernel, by decide +kernel⟩
theorem ok_two_rows (T : Tx K mg) : FnOk Pr w K mg base (L2.CX Pr w) 1 T.a_two_rows T.d_two_rows ["change"] (spF K (["change"] : List Str).length F_two_rows) :=
  fn_ok (k := 0) T.p_two_rows.F sc_two_rows fun cdv A outer s H E n0 hr => by
    have S := sc_two_rows
    exact (ss_cons (s_asg (tgok_any (tgsok_cons (i := 1) (tgsok_cons (i := 2) tgsok_nil)) rfl) (ps_asg (toD (pn_slice (pd_name (pv 0)) po_noneD (po_someD pd_int))) (pg_any (n := 2) rfl (pgs_cons (pg_name (i := 1) S.nd rfl (by first | exact Or.inl rfl | exact Or.inr rfl)) (pgs_cons (pg_name (i := 2) S.nd rfl (by first | exact Or.inl rfl | exact Or.inr rfl)) pgs_nil)))))
    (ss_cons (s_if (pt_cmpD (op_eqD hr.units) sem_eq (pd_name (pv 1)) pd_str (by rfl)) (ss_one (s_ret (pn_tup (pi_consD (toD (pn_tup (pi_consD (pd_name (pv 2)) pi_nilD (by rfl)))) (pi_consD (toD (pn_tup (pi_consD (pd_name (pv 2)) (pi_consD (pd_name (pv 2)) pi_nilD (by rfl)) (by rfl)))) pi_nilD (by rfl)) (by rfl))))) ss_nil)
    (ss_cons (s_if (pt_cmpD (op_eqD hr.units) sem_eq (pd_name (pv 1)) pd_str (by rfl)) (ss_one (s_ret (pn_tup (pi_consD (toD (pn_tup pi_nilD)) (pi_consD (toD (pn_tup (pi_consD (pd_name (pv 2)) pi_nilD (by rfl)))) pi_nilD (by rfl)) (by rfl))))) ss_nil)
    (ss_cons (s_if (pt_cmpD (op_eqD hr.units) sem_eq (pd_name (pv 1)) pd_str (by rfl)) (ss_one (s_ret (pn_tup (pi_consD (toD (pn_tup (pi_consD (pd_name (pv 2)) (pi_consD (toD (pn_ix ix_seq sem_ix (pd_name (pv 0)) pd_int (fun _ _ => rfl))) pi_nilD (by rfl)) (by rfl)))) (pi_consD (toD (pn_tup (pi_consD (toD (pn_ix ix_seq sem_ix (pd_name (pv 0)) pd_int (fun _ _ => rfl))) (pi_consD (pd_name (pv 2)) pi_nilD (by rfl)) (by rfl)))) pi_nilD (by rfl)) (by rfl))))) ss_nil)
    (ss_one (s_ret (pn_tup (pi_consD (toD (pn_tup (pi_consD (pd_name (pv 2)) pi_nilD (by rfl)))) (pi_consD (toD (pn_tup (pi_consD (toD (pn_ix ix_seq sem_ix (pd_name (pv 0)) pd_int (fun _ _ => rfl))) pi_nilD (by rfl)))) pi_nilD (by rfl)) (by rfl)))))))))
theorem kb_two_rows_change (T : Tx K mg) : KBinds K T.d_two_rows ["change"] ["change"] (fun us ws => if us.isEmpty then permute [0] ws else []) (fun us ws => if us.isEmpty then permute [0] ws else []) :=
  kbinds_mk T.p_two_rows.F (fun kV doc pm an cdv ct ws hl => by
    rcases ws with _ | ⟨x, r⟩
    · simp [permute] at hl
    · rfl) (by simp)
theorem sc_l_pool : FnScope ["many", "out", "t", "s"] ["many"] (defScope s_l_pool) := ⟨rfl, rfl, rfl, by decide +kernel, rfl, by decide +kernel, by decide +kernel⟩
theorem ok_l_pool (T : Tx K mg) : FnOk Pr w K mg base (L2.CX Pr w) 1 T.a_l_pool T.d_l_pool ["many"] (spF K (["many"] : List Str).length F_l_pool) :=
  fn_ok (k := 0) T.p_l_pool.F sc_l_pool fun cdv A outer s H E n0 hr => by
    have S := sc_l_pool
    exact (ss_cons (s_set (i := 1) S.nd rfl (by first | exact Or.inl rfl | exact Or.inr rfl) (toD (pn_lst pi_nilD)) (by rfl) (by first | exact Or.inl rfl | exact Or.inr rfl))
    (ss_cons (s_for (passes_of rfl) rfl (pw_range1 rfl T.z_range (pd_name (pv 0)) (by rfl) (by rfl)) (pg_name (i := 2) S.nd rfl (by first | exact Or.inl rfl | exact Or.inr rfl)) tgok_name (ss_cons (s_set (i := 1) S.nd rfl (by first | exact Or.inl rfl | exact Or.inr rfl) (toD (pn_bin op_addAny sem_add (toD (pn_bin op_addAny sem_add (pd_name (pv 1)) (toD (pn_lc (own := [("s", 3)]) (t := (tgName 3)) (c := bYes) rfl S.nd (pw_range1 rfl T.z_range (pd_name (pv 2)) (by rfl) (by rfl)) (blkOk_by (N := ["many", "out", "t", "s"]) (sc := defScope s_l_pool) (by decide +kernel)) (fun _ _ _ _ _ => (pg_name (i := 3) S.nd rfl (by first | exact Or.inl rfl | exact Or.inr rfl))) (fun _ _ _ _ _ => pts_yes) (fun _ _ _ _ _ => (toD (pn_tup (pi_consD pd_str (pi_consD (pd_name (pv 3)) (pi_consD (pd_name (pv 2)) pi_nilD (by rfl)) (by rfl)) (by rfl))))) tgok_name (tgin_name (by decide)) (fun _ => rfl))))) (toD (pn_lst (pi_consD (toD (pn_tup (pi_consD pd_str (pi_consD (pd_name (pv 2)) pi_nilD (by rfl)) (by rfl)))) pi_nilD (by rfl)))))) (by rfl) (by first | exact Or.inl rfl | exact Or.inr rfl))
    (ss_one (s_set (i := 1) S.nd rfl (by first | exact Or.inl rfl | exact Or.inr rfl) (toD (pn_bin op_addAny sem_add (toD (pn_bin op_addAny sem_add (pd_name (pv 1)) (toD (pn_lst (pi_consD (toD (pn_tup (pi_consD pd_str (pi_consD (pd_name (pv 2)) pi_nilD (by rfl)) (by rfl)))) pi_nilD (by rfl)))))) (toD (pn_lc (own := [("s", 3)]) (t := (tgName 3)) (c := bYes) rfl S.nd (pw_range1 rfl T.z_range (pd_name (pv 2)) (by rfl) (by rfl)) (blkOk_by (N := ["many", "out", "t", "s"]) (sc := defScope s_l_pool) (by decide +kernel)) (fun _ _ _ _ _ => (pg_name (i := 3) S.nd rfl (by first | exact Or.inl rfl | exact Or.inr rfl))) (fun _ _ _ _ _ => pts_yes) (fun _ _ _ _ _ => (toD (pn_tup (pi_consD pd_str (pi_consD (pd_name (pv 3)) (pi_consD (pd_name (pv 2)) pi_nilD (by rfl)) (by rfl)) (by rfl))))) tgok_name (tgin_name (by decide)) (fun _ => rfl))))) (by rfl) (by first | exact Or.inl rfl | exact Or.inr rfl)))) (fun _ => rfl))
    (ss_one (s_ret (toN' (pd_name (pv 1)))))))
theorem sc_l_same : FnScope ["one", "other", "at"] ["one", "other"] (defScope s_l_same) := ⟨rfl, rfl, rfl, by decide +kernel, rfl, by decide +kernel, by decide +kernel⟩
theorem okr_l_same : ∀ (k : Nat) (T : Tx K mg), FnOk Pr w K mg base (L2.CX Pr w) (k + 1) T.a_l_same T.d_l_same ["one", "other"] (spF K (["one", "other"] : List Str).length (R_l_same k))
  | 0, T => fn_none (by rfl)
  | k + 1, T => fn_ok (k := k + 1) T.p_l_same.F sc_l_same fun cdv A outer s H E n0 hr => by
    have S := sc_l_same
    have ih := okr_l_same k
    exact (ss_cons (s_if (pt_truthD (toD (pn_isi call_isi (sem_isa isa_tuple) rfl T.z_isinstance (by rfl) (pd_name (pv 1)) (pe_bltn rfl T.z_tuple (by rfl) rfl) (by decide) (by decide) (by rfl) (by rfl) (by rfl))) (fun _ => rfl)) (ss_cons (s_if (PW.pt (pw_orD (pt_notD (pt_truthD (toD (pn_isi call_isi (sem_isa isa_tuple) rfl T.z_isinstance (by rfl) (pd_name (pv 0)) (pe_bltn rfl T.z_tuple (by rfl) rfl) (by decide) (by decide) (by rfl) (by rfl) (by rfl))) (fun _ => rfl))) (pw_or1 (pt_cmpD (op_neD hr.units) sem_ne (toD (pn_b1 call_lenAny sem_len rfl T.z_len (by rfl) (pd_name (pv 0)) (by decide) (by decide) (by rfl) (by rfl))) (toD (pn_b1 call_lenAny sem_len rfl T.z_len (by rfl) (pd_name (pv 1)) (by decide) (by decide) (by rfl) (by rfl))) (by rfl))))) (ss_one (s_ret (toN' pd_bl))) ss_nil)
    (ss_cons (s_for (passes_of rfl) rfl (pw_range1 rfl T.z_range (toD (pn_b1 call_lenAny sem_len rfl T.z_len (by rfl) (pd_name (pv 1)) (by decide) (by decide) (by rfl) (by rfl))) (by rfl) (by rfl)) (pg_name (i := 2) S.nd rfl (by first | exact Or.inl rfl | exact Or.inr rfl)) tgok_name (ss_one (s_if (pt_notD (pt_truthD (toD (pn_call (ih T) (takes_of rfl rfl rfl rfl) hr rfl T.p_l_same.g T.p_l_same.F.kp T.p_l_same.b (ph_cons (toD (pn_ix ix_seq sem_ix (pd_name (pv 0)) (pd_name (pv 2)) (fun _ _ => rfl))) (ph_cons (toD (pn_ix ix_seq sem_ix (pd_name (pv 1)) (pd_name (pv 2)) (fun _ _ => rfl))) ph_nil (by rfl)) (by rfl)) (by rfl) (by decide) (by rfl) (by rfl))) (fun _ => rfl))) (ss_one (s_ret (toN' pd_bl))) ss_nil)) (fun _ => rfl))
    (ss_one (s_ret (toN' pd_bl))))) ss_nil)
    (ss_cons (s_if (pt_truthD (toD (pn_isi call_isi (sem_isa isa_str) rfl T.z_isinstance (by rfl) (pd_name (pv 1)) (pe_bltn rfl T.z_str (by rfl) rfl) (by decide) (by decide) (by rfl) (by rfl) (by rfl))) (fun _ => rfl)) (ss_one (s_ret (pn_and (pn_isi call_isi (sem_isa isa_str) rfl T.z_isinstance (by rfl) (pd_name (pv 0)) (pe_bltn rfl T.z_str (by rfl) rfl) (by decide) (by decide) (by rfl) (by rfl) (by rfl)) (pn_one (pn_cmp (op_eqD hr.units) sem_eq (pd_name (pv 0)) (pd_name (pv 1)) (by rfl)))))) ss_nil)
    (ss_one (s_ret (pn_and (pn_isi call_isi (sem_isa isa_int) rfl T.z_isinstance (by rfl) (pd_name (pv 0)) (pe_bltn rfl T.z_int (by rfl) rfl) (by decide) (by decide) (by rfl) (by rfl) (by rfl)) (pn_and (pn_not (pn_isi call_isi (sem_isa isa_bool) rfl T.z_isinstance (by rfl) (pd_name (pv 0)) (pe_bltn rfl T.z_bool (by rfl) rfl) (by decide) (by decide) (by rfl) (by rfl) (by rfl))) (pn_one (pn_cmp (op_eqD hr.units) sem_eq (pd_name (pv 0)) (pd_name (pv 1)) (by rfl)))))))))
theorem ok_l_same (T : Tx K mg) : FnOk Pr w K mg base (L2.CX Pr w) 9 T.a_l_same T.d_l_same ["one", "other"] (spF K (["one", "other"] : List Str).length F_l_same) := okr_l_same 8 T
theorem sc_l_two : FnScope ["change"] ["change"] (defScope s_l_two) := ⟨rfl, rfl, rfl, by decide +kernel, rfl, by decide +kernel, by decide +kernel⟩
theorem ok_l_two (T : Tx K mg) : FnOk Pr w K mg base (L2.CX Pr w) 1 T.a_l_two T.d_l_two ["change"] (spF K (["change"] : List Str).length F_l_two) :=
  fn_ok (k := 0) T.p_l_two.F sc_l_two fun cdv A outer s H E n0 hr => by
    have S := sc_l_two
    exact (ss_cons (s_if (pt_cmpD (op_eqD hr.units) sem_eq (toD (pn_ix ix_seq sem_ix (pd_name (pv 0)) pd_int (fun _ _ => rfl))) pd_str (by rfl)) (ss_one (s_ret (pn_tup (pi_consD (toD (pn_tup (pi_consD (toD (pn_ix ix_seq sem_ix (pd_name (pv 0)) pd_int (fun _ _ => rfl))) pi_nilD (by rfl)))) (pi_consD (toD (pn_tup (pi_consD (toD (pn_ix ix_seq sem_ix (pd_name (pv 0)) pd_int (fun _ _ => rfl))) (pi_consD (toD (pn_ix ix_seq sem_ix (pd_name (pv 0)) pd_int (fun _ _ => rfl))) pi_nilD (by rfl)) (by rfl)))) pi_nilD (by rfl)) (by rfl))))) ss_nil)
    (ss_cons (s_if (pt_cmpD (op_eqD hr.units) sem_eq (toD (pn_ix ix_seq sem_ix (pd_name (pv 0)) pd_int (fun _ _ => rfl))) pd_str (by rfl)) (ss_one (s_ret (pn_tup (pi_consD (toD (pn_tup pi_nilD)) (pi_consD (toD (pn_tup (pi_consD (toD (pn_ix ix_seq sem_ix (pd_name (pv 0)) pd_int (fun _ _ => rfl))) pi_nilD (by rfl)))) pi_nilD (by rfl)) (by rfl))))) ss_nil)
    (ss_cons (s_if (pt_cmpD (op_eqD hr.units) sem_eq (toD (pn_ix ix_seq sem_ix (pd_name (pv 0)) pd_int (fun _ _ => rfl))) pd_str (by rfl)) (ss_one (s_ret (pn_tup (pi_consD (toD (pn_tup (pi_consD (toD (pn_ix ix_seq sem_ix (pd_name (pv 0)) pd_int (fun _ _ => rfl))) pi_nilD (by rfl)))) (pi_consD (toD (pn_tup (pi_consD (toD (pn_ix ix_seq sem_ix (pd_name (pv 0)) pd_int (fun _ _ => rfl))) pi_nilD (by rfl)))) pi_nilD (by rfl)) (by rfl))))) ss_nil)
    (ss_one (s_ret (pn_tup (pi_consD (toD (pn_tup (pi_consD (toD (pn_ix ix_seq sem_ix (pd_name (pv 0)) pd_int (fun _ _ => rfl))) (pi_consD (toD (pn_ix ix_seq sem_ix (pd_name (pv 0)) pd_int (fun _ _ => rfl))) pi_nilD (by rfl)) (by rfl)))) (pi_consD (toD (pn_tup (pi_consD (toD (pn_ix ix_seq sem_ix (pd_name (pv 0)) pd_int (fun _ _ => rfl))) (pi_consD (toD (pn_ix ix_seq sem_ix (pd_name (pv 0)) pd_int (fun _ _ => rfl))) pi_nilD (by rfl)) (by rfl)))) pi_nilD (by rfl)) (by rfl))))))))
theorem sc_l_rows_of_changes : FnScope ["jar", "change", "due", "told"] ["jar"] (defScope s_l_rows_of_changes) := ⟨rfl, rfl, rfl, by decide +kernel, rfl, by decide +kernel, by decide +kernel⟩
theorem ok_l_rows_of_changes (T : Tx K mg) : FnOk Pr w K mg base (L2.CX Pr w) 10 T.a_l_rows_of_changes T.d_l_rows_of_changes ["jar"] (spF K (["jar"] : List Str).length F_l_rows_of_changes) :=
  fn_ok (k := 9) T.p_l_rows_of_changes.F sc_l_rows_of_changes fun cdv A outer s H E n0 hr => by
    have S := sc_l_rows_of_changes
    exact (ss_cons (s_for (passes_of rfl) rfl (pw_any (toD (pn_call (ok_l_shuffled T) (takes_of rfl rfl rfl rfl) (hr.mono (by decide)) rfl T.p_l_shuffled.g T.p_l_shuffled.F.kp T.p_l_shuffled.b (ph_cons (pd_name (pv 0)) (ph_cons (toD (pn_call (ok_l_pool T) (takes_of rfl rfl rfl rfl) (hr.mono (by decide)) rfl T.p_l_pool.g T.p_l_pool.F.kp T.p_l_pool.b (ph_cons pd_int ph_nil (by rfl)) (by rfl) (by decide) (by rfl) (by rfl))) ph_nil (by rfl)) (by rfl)) (by rfl) (by decide) (by rfl) (by rfl)))) (pg_name (i := 1) S.nd rfl (by first | exact Or.inl rfl | exact Or.inr rfl)) tgok_name (ss_cons (s_set (i := 2) S.nd rfl (by first | exact Or.inl rfl | exact Or.inr rfl) (toD (pn_call (ok_l_two T) (takes_of rfl rfl rfl rfl) (hr.mono (by decide)) rfl T.p_l_two.g T.p_l_two.F.kp T.p_l_two.b (ph_cons (pd_name (pv 1)) ph_nil (by rfl)) (by rfl) (by decide) (by rfl) (by rfl))) (by rfl) (by first | exact Or.inl rfl | exact Or.inr rfl))
    (ss_cons (s_set (i := 3) S.nd rfl (by first | exact Or.inl rfl | exact Or.inr rfl) (toD (pn_call (ok_two_rows T) (takes_of rfl rfl rfl rfl) (hr.mono (by decide)) rfl T.p_two_rows.g T.p_two_rows.F.kp T.p_two_rows.b (ph_cons (pd_name (pv 1)) ph_nil (by rfl)) (by rfl) (by decide) (by rfl) (by rfl))) (by rfl) (by first | exact Or.inl rfl | exact Or.inr rfl))
    (ss_cons (s_if (pt_cmpD (op_eqD hr.units) sem_eq (toD (pn_call (ok_l_draw T) (takes_of rfl rfl rfl rfl) (hr.mono (by decide)) rfl T.p_l_draw.g T.p_l_draw.F.kp T.p_l_draw.b (ph_cons (pd_name (pv 0)) (ph_cons pd_int ph_nil (by rfl)) (by rfl)) (by rfl) (by decide) (by rfl) (by rfl))) pd_int (by rfl)) (ss_one (s_set (i := 3) S.nd rfl (by first | exact Or.inl rfl | exact Or.inr rfl) (toD (pn_callK (ok_two_rows T) (takes_of rfl rfl rfl rfl) (hr.mono (by decide)) rfl T.p_two_rows.g T.p_two_rows.F.kp (kb_two_rows_change T) (pk_consD (pd_name (pv 1)) pk_nilD) (by decide) (by rfl) (by rfl) (by rfl) (by decide) (by rfl))) (by rfl) (by first | exact Or.inl rfl | exact Or.inr rfl))) ss_nil)
    (ss_one (s_if (pt_notD (pt_truthD (toD (pn_call (ok_l_same T) (takes_of rfl rfl rfl rfl) (hr.mono (by decide)) rfl T.p_l_same.g T.p_l_same.F.kp T.p_l_same.b (ph_cons (pd_name (pv 3)) (ph_cons (pd_name (pv 2)) ph_nil (by rfl)) (by rfl)) (by rfl) (by decide) (by rfl) (by rfl))) (fun _ => rfl))) (ss_one (s_ret (toN' pd_bl))) ss_nil))))) (fun _ => rfl))
    (ss_one (s_ret (toN' pd_bl))))
theorem sc_changes_of : FnScope ["setting", "kind", "change"] ["setting", "kind"] (defScope s_changes_of) := ⟨rfl, rfl, rfl, by decide +kernel, rfl, by decide +kernel, by decide +kernel⟩
theorem ok_changes_of (T : Tx K mg) : FnOk Pr w K mg base (L2.CX Pr w) 1 T.a_changes_of T.d_changes_of ["setting", "kind"] (spF K (["setting", "kind"] : List Str).length F_changes_of) :=
  fn_ok (k := 0) T.p_changes_of.F sc_changes_of fun cdv A outer s H E n0 hr => by
    have S := sc_changes_of
    exact (ss_one (s_ret (pn_t1 call_tuple_of sem_tuple rfl T.z_tuple (by rfl) (toD (pn_lc (own := [("change", 2)]) (t := (tgName 2)) (c := (bCmp dEq (eBin dIx (eName 2) (eC (.int 0))) (eName 1))) rfl S.nd (pw_any (toD (pn_ix ix_seq sem_ix (pd_name (pv 0)) pd_int (fun _ _ => rfl)))) (blkOk_by (N := ["setting", "kind", "change"]) (sc := defScope s_changes_of) (by decide +kernel)) (fun _ _ _ _ _ => (pg_name (i := 2) S.nd rfl (by first | exact Or.inl rfl | exact Or.inr rfl))) (fun _ _ _ _ _ => (pts_oneD (pt_cmpD (op_eqD hr.units) sem_eq (toD (pn_ix ix_seq sem_ix (pd_name (pv 2)) pd_int (fun _ _ => rfl))) (pd_name (pv 1)) (by rfl)))) (fun _ _ _ _ _ => (pd_name (pv 2))) tgok_name (tgin_name (by decide)) (fun _ => rfl))) (by decide) (by decide) (by rfl) (by rfl))))
theorem kb_changes_of_kind_setting (T : Tx K mg) : KBinds K T.d_changes_of ["setting", "kind"] ["kind", "setting"] (fun us ws => if us.isEmpty then permute [1, 0] ws else []) (fun us ws => if us.isEmpty then permute [1, 0] ws else []) :=
  kbinds_mk T.p_changes_of.F (fun kV doc pm an cdv ct ws hl => by
    rcases ws with _ | ⟨x, _ | ⟨x, r⟩⟩
    · simp [permute] at hl
    · simp [permute] at hl
    · rfl) (by simp)
theorem sc_l_of : FnScope ["setting", "kind", "out", "change"] ["setting", "kind"] (defScope s_l_of) := ⟨rfl, rfl, rfl, by decide +kernel, rfl, by decide +kernel, by decide +kernel⟩
theorem ok_l_of (T : Tx K mg) : FnOk Pr w K mg base (L2.CX Pr w) 1 T.a_l_of T.d_l_of ["setting", "kind"] (spF K (["setting", "kind"] : List Str).length F_l_of) :=
  fn_ok (k := 0) T.p_l_of.F sc_l_of fun cdv A outer s H E n0 hr => by
    have S := sc_l_of
    exact (ss_cons (s_set (i := 2) S.nd rfl (by first | exact Or.inl rfl | exact Or.inr rfl) (toD (pn_tup pi_nilD)) (by rfl) (by first | exact Or.inl rfl | exact Or.inr rfl))
    (ss_cons (s_for (passes_of rfl) rfl (pw_any (toD (pn_ix ix_seq sem_ix (pd_name (pv 0)) pd_int (fun _ _ => rfl)))) (pg_name (i := 3) S.nd rfl (by first | exact Or.inl rfl | exact Or.inr rfl)) tgok_name (ss_one (s_if (pt_cmpD (op_eqD hr.units) sem_eq (toD (pn_ix ix_seq sem_ix (pd_name (pv 3)) pd_int (fun _ _ => rfl))) (pd_name (pv 1)) (by rfl)) (ss_one (s_set (i := 2) S.nd rfl (by first | exact Or.inl rfl | exact Or.inr rfl) (toD (pn_bin op_addAny sem_add (pd_name (pv 2)) (toD (pn_tup (pi_consD (pd_name (pv 3)) pi_nilD (by rfl)))))) (by rfl) (by first | exact Or.inl rfl | exact Or.inr rfl))) ss_nil)) (fun _ => rfl))
    (ss_one (s_ret (toN' (pd_name (pv 2)))))))
theorem sc_l_kinds : FnScope ["jar", "setting", "kind", "due", "told"] ["jar", "setting"] (defScope s_l_kinds) := ⟨rfl, rfl, rfl, by decide +kernel, rfl, by decide +kernel, by decide +kernel⟩
theorem ok_l_kinds (T : Tx K mg) : FnOk Pr w K mg base (L2.CX Pr w) 10 T.a_l_kinds T.d_l_kinds ["jar", "setting"] (spF K (["jar", "setting"] : List Str).length F_l_kinds) :=
  fn_ok (k := 9) T.p_l_kinds.F sc_l_kinds fun cdv A outer s H E n0 hr => by
    have S := sc_l_kinds
    exact (ss_cons (s_for (passes_of rfl) rfl (pw_any (toD (pn_call (ok_l_shuffled T) (takes_of rfl rfl rfl rfl) (hr.mono (by decide)) rfl T.p_l_shuffled.g T.p_l_shuffled.F.kp T.p_l_shuffled.b (ph_cons (pd_name (pv 0)) (ph_cons (toD (pn_lst (pi_consD pd_str (pi_consD pd_str (pi_consD pd_str (pi_consD pd_str pi_nilD (by rfl)) (by rfl)) (by rfl)) (by rfl)))) ph_nil (by rfl)) (by rfl)) (by rfl) (by decide) (by rfl) (by rfl)))) (pg_name (i := 2) S.nd rfl (by first | exact Or.inl rfl | exact Or.inr rfl)) tgok_name (ss_cons (s_set (i := 3) S.nd rfl (by first | exact Or.inl rfl | exact Or.inr rfl) (toD (pn_call (ok_l_of T) (takes_of rfl rfl rfl rfl) (hr.mono (by decide)) rfl T.p_l_of.g T.p_l_of.F.kp T.p_l_of.b (ph_cons (pd_name (pv 1)) (ph_cons (pd_name (pv 2)) ph_nil (by rfl)) (by rfl)) (by rfl) (by decide) (by rfl) (by rfl))) (by rfl) (by first | exact Or.inl rfl | exact Or.inr rfl))
    (ss_cons (s_set (i := 4) S.nd rfl (by first | exact Or.inl rfl | exact Or.inr rfl) (toD (pn_call (ok_changes_of T) (takes_of rfl rfl rfl rfl) (hr.mono (by decide)) rfl T.p_changes_of.g T.p_changes_of.F.kp T.p_changes_of.b (ph_cons (pd_name (pv 1)) (ph_cons (pd_name (pv 2)) ph_nil (by rfl)) (by rfl)) (by rfl) (by decide) (by rfl) (by rfl))) (by rfl) (by first | exact Or.inl rfl | exact Or.inr rfl))
    (ss_cons (s_if (pt_cmpD (op_eqD hr.units) sem_eq (toD (pn_call (ok_l_draw T) (takes_of rfl rfl rfl rfl) (hr.mono (by decide)) rfl T.p_l_draw.g T.p_l_draw.F.kp T.p_l_draw.b (ph_cons (pd_name (pv 0)) (ph_cons pd_int ph_nil (by rfl)) (by rfl)) (by rfl) (by decide) (by rfl) (by rfl))) pd_int (by rfl)) (ss_one (s_set (i := 4) S.nd rfl (by first | exact Or.inl rfl | exact Or.inr rfl) (toD (pn_callK (ok_changes_of T) (takes_of rfl rfl rfl rfl) (hr.mono (by decide)) rfl T.p_changes_of.g T.p_changes_of.F.kp (kb_changes_of_kind_setting T) (pk_consD (pd_name (pv 2)) (pk_consD (pd_name (pv 1)) pk_nilD)) (by decide) (by rfl) (by rfl) (by rfl) (by decide) (by rfl))) (by rfl) (by first | exact Or.inl rfl | exact Or.inr rfl))) ss_nil)
    (ss_one (s_if (pt_notD (pt_truthD (toD (pn_call (ok_l_same T) (takes_of rfl rfl rfl rfl) (hr.mono (by decide)) rfl T.p_l_same.g T.p_l_same.F.kp T.p_l_same.b (ph_cons (pd_name (pv 4)) (ph_cons (pd_name (pv 3)) ph_nil (by rfl)) (by rfl)) (by rfl) (by decide) (by rfl) (by rfl))) (fun _ => rfl))) (ss_one (s_ret (toN' pd_bl))) ss_nil))))) (fun _ => rfl))
    (ss_one (s_ret (toN' pd_bl))))
theorem sc_with_change : FnScope ["setting", "change"] ["setting", "change"] (defScope s_with_change) := ⟨rfl, rfl, rfl, by decide +kernel, rfl, by decide +kernel, by decide +kernel⟩
theorem ok_with_change (T : Tx K mg) : FnOk Pr w K mg base (L2.CX Pr w) 1 T.a_with_change T.d_with_change ["setting", "change"] (spF K (["setting", "change"] : List Str).length F_with_change) :=
  fn_ok (k := 0) T.p_with_change.F sc_with_change fun cdv A outer s H E n0 hr => by
    have S := sc_with_change
    exact (ss_one (s_ret (pn_tup (pi_consD (toD (pn_ix ix_seq sem_ix (pd_name (pv 0)) pd_int (fun _ _ => rfl))) (pi_consD (toD (pn_bin op_addAny sem_add (toD (pn_ix ix_seq sem_ix (pd_name (pv 0)) pd_int (fun _ _ => rfl))) (toD (pn_tup (pi_consD (pd_name (pv 1)) pi_nilD (by rfl)))))) pi_nilD (by rfl)) (by rfl)))))
theorem kb_with_change_change_setting (T : Tx K mg) : KBinds K T.d_with_change ["setting", "change"] ["change", "setting"] (fun us ws => if us.isEmpty then permute [1, 0] ws else []) (fun us ws => if us.isEmpty then permute [1, 0] ws else []) :=
  kbinds_mk T.p_with_change.F (fun kV doc pm an cdv ct ws hl => by
    rcases ws with _ | ⟨x, _ | ⟨x, r⟩⟩
    · simp [permute] at hl
    · simp [permute] at hl
    · rfl) (by simp)
theorem sc_without_change : FnScope ["setting", "number"] ["setting", "number"] (defScope s_without_change) := ⟨rfl, rfl, rfl, by decide +kernel, rfl, by decide +kernel, by decide +kernel⟩
theorem ok_without_change (T : Tx K mg) : FnOk Pr w K mg base (L2.CX Pr w) 1 T.a_without_change T.d_without_change ["setting", "number"] (spF K (["setting", "number"] : List Str).length F_without_change) :=
  fn_ok (k := 0) T.p_without_change.F sc_without_change fun cdv A outer s H E n0 hr => by
    have S := sc_without_change
    exact (ss_one (s_ret (pn_tup (pi_consD (toD (pn_ix ix_seq sem_ix (pd_name (pv 0)) pd_int (fun _ _ => rfl))) (pi_consD (toD (pn_bin op_addAny sem_add (toD (pn_slice (toD (pn_ix ix_seq sem_ix (pd_name (pv 0)) pd_int (fun _ _ => rfl))) po_noneD (po_someD (pd_name (pv 1))))) (toD (pn_slice (toD (pn_ix ix_seq sem_ix (pd_name (pv 0)) pd_int (fun _ _ => rfl))) (po_someD (toD (pn_bin op_addAny sem_add (pd_name (pv 1)) pd_int))) po_noneD)))) pi_nilD (by rfl)) (by rfl)))))
theorem kb_without_change_number_setting (T : Tx K mg) : KBinds K T.d_without_change ["setting", "number"] ["number", "setting"] (fun us ws => if us.isEmpty then permute [1, 0] ws else []) (fun us ws => if us.isEmpty then permute [1, 0] ws else []) :=
  kbinds_mk T.p_without_change.F (fun kV doc pm an cdv ct ws hl => by
    rcases ws with _ | ⟨x, _ | ⟨x, r⟩⟩
    · simp [permute] at hl
    · simp [permute] at hl
    · rfl) (by simp)
theorem sc_l_more : FnScope ["jar", "setting", "free", "change", "due", "told"] ["jar", "setting"] (defScope s_l_more) := ⟨rfl, rfl, rfl, by decide +kernel, rfl, by decide +kernel, by decide +kernel⟩
theorem ok_l_more (T : Tx K mg) : FnOk Pr w K mg base (L2.CX Pr w) 10 T.a_l_more T.d_l_more ["jar", "setting"] (spF K (["jar", "setting"] : List Str).length F_l_more) :=
  fn_ok (k := 9) T.p_l_more.F sc_l_more fun cdv A outer s H E n0 hr => by
    have S := sc_l_more
    exact (ss_cons (s_setLc (own := [("change", 3)]) (t := (tgName 3)) (c := (bCmp dNotIn (eName 3) (eBin dIx (eName 1) (eC (.int 1))))) tgok_name (tgin_name (by decide)) (ps_setLc (i := 2) (own := [("change", 3)]) rfl S.nd rfl rfl (sw_true rfl rfl rfl (by decide +kernel)) (pw_any (toD (pn_call (ok_l_pool T) (takes_of rfl rfl rfl rfl) (hr.mono (by decide)) rfl T.p_l_pool.g T.p_l_pool.F.kp T.p_l_pool.b (ph_cons (toD (pn_b1 call_lenAny sem_len rfl T.z_len (by rfl) (toD (pn_ix ix_seq sem_ix (pd_name (pv 1)) pd_int (fun _ _ => rfl))) (by decide) (by decide) (by rfl) (by rfl))) ph_nil (by rfl)) (by rfl) (by decide) (by rfl) (by rfl)))) (blkOk_by (N := ["jar", "setting", "free", "change", "due", "told"]) (sc := defScope s_l_more) (by decide +kernel)) (fun _ _ _ _ _ => (pg_name (i := 3) S.nd rfl (by first | exact Or.inl rfl | exact Or.inr rfl))) (fun _ _ _ _ _ => (pts_oneD (pt_cmpD (op_notInAny (hu200 hr)) sem_notIn (pd_name (pv 3)) (toD (pn_ix ix_seq sem_ix (pd_name (pv 1)) pd_int (fun _ _ => rfl))) (by rfl)))) (fun _ _ _ _ _ => (pd_name (pv 3))) (fun _ => rfl)))
    (ss_cons (s_for (passes_of rfl) rfl (pw_any (toD (pn_slice (toD (pn_call (ok_l_shuffled T) (takes_of rfl rfl rfl rfl) (hr.mono (by decide)) rfl T.p_l_shuffled.g T.p_l_shuffled.F.kp T.p_l_shuffled.b (ph_cons (pd_name (pv 0)) (ph_cons (pd_name (pv 2)) ph_nil (by rfl)) (by rfl)) (by rfl) (by decide) (by rfl) (by rfl))) po_noneD (po_someD pd_int)))) (pg_name (i := 3) S.nd rfl (by first | exact Or.inl rfl | exact Or.inr rfl)) tgok_name (ss_cons (s_set (i := 4) S.nd rfl (by first | exact Or.inl rfl | exact Or.inr rfl) (toD (pn_tup (pi_consD (toD (pn_ix ix_seq sem_ix (pd_name (pv 1)) pd_int (fun _ _ => rfl))) (pi_consD (toD (pn_bin op_addAny sem_add (toD (pn_ix ix_seq sem_ix (pd_name (pv 1)) pd_int (fun _ _ => rfl))) (toD (pn_tup (pi_consD (pd_name (pv 3)) pi_nilD (by rfl)))))) pi_nilD (by rfl)) (by rfl)))) (by rfl) (by first | exact Or.inl rfl | exact Or.inr rfl))
    (ss_cons (s_set (i := 5) S.nd rfl (by first | exact Or.inl rfl | exact Or.inr rfl) (toD (pn_call (ok_with_change T) (takes_of rfl rfl rfl rfl) (hr.mono (by decide)) rfl T.p_with_change.g T.p_with_change.F.kp T.p_with_change.b (ph_cons (pd_name (pv 1)) (ph_cons (pd_name (pv 3)) ph_nil (by rfl)) (by rfl)) (by rfl) (by decide) (by rfl) (by rfl))) (by rfl) (by first | exact Or.inl rfl | exact Or.inr rfl))
    (ss_cons (s_if (pt_cmpD (op_eqD hr.units) sem_eq (toD (pn_call (ok_l_draw T) (takes_of rfl rfl rfl rfl) (hr.mono (by decide)) rfl T.p_l_draw.g T.p_l_draw.F.kp T.p_l_draw.b (ph_cons (pd_name (pv 0)) (ph_cons pd_int ph_nil (by rfl)) (by rfl)) (by rfl) (by decide) (by rfl) (by rfl))) pd_int (by rfl)) (ss_one (s_set (i := 5) S.nd rfl (by first | exact Or.inl rfl | exact Or.inr rfl) (toD (pn_callK (ok_with_change T) (takes_of rfl rfl rfl rfl) (hr.mono (by decide)) rfl T.p_with_change.g T.p_with_change.F.kp (kb_with_change_change_setting T) (pk_consD (pd_name (pv 3)) (pk_consD (pd_name (pv 1)) pk_nilD)) (by decide) (by rfl) (by rfl) (by rfl) (by decide) (by rfl))) (by rfl) (by first | exact Or.inl rfl | exact Or.inr rfl))) ss_nil)
    (ss_cons (s_if (pt_notD (pt_truthD (toD (pn_call (ok_l_same T) (takes_of rfl rfl rfl rfl) (hr.mono (by decide)) rfl T.p_l_same.g T.p_l_same.F.kp T.p_l_same.b (ph_cons (pd_name (pv 5)) (ph_cons (pd_name (pv 4)) ph_nil (by rfl)) (by rfl)) (by rfl) (by decide) (by rfl) (by rfl))) (fun _ => rfl))) (ss_one (s_ret (toN' pd_bl))) ss_nil)
    (ss_one (s_if (pt_cmpD op_le sem_le (toD (pn_b1 call_lenAny sem_len rfl T.z_len (by rfl) (toD (pn_ix ix_seq sem_ix (pd_name (pv 4)) pd_int (fun _ _ => rfl))) (by decide) (by decide) (by rfl) (by rfl))) pd_int (by rfl)) (ss_cons (s_if (pt_notD (pt_truthD (toD (pn_call (ok_l_same T) (takes_of rfl rfl rfl rfl) (hr.mono (by decide)) rfl T.p_l_same.g T.p_l_same.F.kp T.p_l_same.b (ph_cons (toD (pn_call (ok_without_change T) (takes_of rfl rfl rfl rfl) (hr.mono (by decide)) rfl T.p_without_change.g T.p_without_change.F.kp T.p_without_change.b (ph_cons (pd_name (pv 5)) (ph_cons (toD (pn_b1 call_lenAny sem_len rfl T.z_len (by rfl) (toD (pn_ix ix_seq sem_ix (pd_name (pv 1)) pd_int (fun _ _ => rfl))) (by decide) (by decide) (by rfl) (by rfl))) ph_nil (by rfl)) (by rfl)) (by rfl) (by decide) (by rfl) (by rfl))) (ph_cons (pd_name (pv 1)) ph_nil (by rfl)) (by rfl)) (by rfl) (by decide) (by rfl) (by rfl))) (fun _ => rfl))) (ss_one (s_ret (toN' pd_bl))) ss_nil)
    (ss_one (s_if (pt_notD (pt_truthD (toD (pn_call (ok_l_same T) (takes_of rfl rfl rfl rfl) (hr.mono (by decide)) rfl T.p_l_same.g T.p_l_same.F.kp T.p_l_same.b (ph_cons (toD (pn_call (ok_changes_of T) (takes_of rfl rfl rfl rfl) (hr.mono (by decide)) rfl T.p_changes_of.g T.p_changes_of.F.kp T.p_changes_of.b (ph_cons (pd_name (pv 5)) (ph_cons (toD (pn_ix ix_seq sem_ix (pd_name (pv 3)) pd_int (fun _ _ => rfl))) ph_nil (by rfl)) (by rfl)) (by rfl) (by decide) (by rfl) (by rfl))) (ph_cons (toD (pn_call (ok_l_of T) (takes_of rfl rfl rfl rfl) (hr.mono (by decide)) rfl T.p_l_of.g T.p_l_of.F.kp T.p_l_of.b (ph_cons (pd_name (pv 4)) (ph_cons (toD (pn_ix ix_seq sem_ix (pd_name (pv 3)) pd_int (fun _ _ => rfl))) ph_nil (by rfl)) (by rfl)) (by rfl) (by decide) (by rfl) (by rfl))) ph_nil (by rfl)) (by rfl)) (by rfl) (by decide) (by rfl) (by rfl))) (fun _ => rfl))) (ss_one (s_ret (toN' pd_bl))) ss_nil))) ss_nil)))))) (fun _ => rfl))
    (ss_one (s_ret (toN' pd_bl)))))
theorem sc_l_less : FnScope ["setting", "number"] ["setting", "number"] (defScope s_l_less) := ⟨rfl, rfl, rfl, by decide +kernel, rfl, by decide +kernel, by decide +kernel⟩
theorem ok_l_less (T : Tx K mg) : FnOk Pr w K mg base (L2.CX Pr w) 1 T.a_l_less T.d_l_less ["setting", "number"] (spF K (["setting", "number"] : List Str).length F_l_less) :=
  fn_ok (k := 0) T.p_l_less.F sc_l_less fun cdv A outer s H E n0 hr => by
    have S := sc_l_less
    exact (ss_one (s_ret (pn_tup (pi_consD (toD (pn_ix ix_seq sem_ix (pd_name (pv 0)) pd_int (fun _ _ => rfl))) (pi_consD (toD (pn_bin op_addAny sem_add (toD (pn_slice (toD (pn_ix ix_seq sem_ix (pd_name (pv 0)) pd_int (fun _ _ => rfl))) po_noneD (po_someD (pd_name (pv 1))))) (toD (pn_slice (toD (pn_ix ix_seq sem_ix (pd_name (pv 0)) pd_int (fun _ _ => rfl))) (po_someD (toD (pn_bin op_addAny sem_add (pd_name (pv 1)) pd_int))) po_noneD)))) pi_nilD (by rfl)) (by rfl)))))
theorem sc_l_fewer : FnScope ["jar", "setting", "number", "due", "told", "back"] ["jar", "setting"] (defScope s_l_fewer) := ⟨rfl, rfl, rfl, by decide +kernel, rfl, by decide +kernel, by decide +kernel⟩
theorem ok_l_fewer (T : Tx K mg) : FnOk Pr w K mg base (L2.CX Pr w) 10 T.a_l_fewer T.d_l_fewer ["jar", "setting"] (spF K (["jar", "setting"] : List Str).length F_l_fewer) :=
  fn_ok (k := 9) T.p_l_fewer.F sc_l_fewer fun cdv A outer s H E n0 hr => by
    have S := sc_l_fewer
    exact (ss_cons (s_for (passes_of rfl) rfl (pw_any (toD (pn_call (ok_l_shuffled T) (takes_of rfl rfl rfl rfl) (hr.mono (by decide)) rfl T.p_l_shuffled.g T.p_l_shuffled.F.kp T.p_l_shuffled.b (ph_cons (pd_name (pv 0)) (ph_cons (toD (pn_listRg1 rfl T.z_list rfl (prg_1 rfl T.z_range (toD (pn_b1 call_lenAny sem_len rfl T.z_len (by rfl) (toD (pn_ix ix_seq sem_ix (pd_name (pv 1)) pd_int (fun _ _ => rfl))) (by decide) (by decide) (by rfl) (by rfl)))) (by rfl))) ph_nil (by rfl)) (by rfl)) (by rfl) (by decide) (by rfl) (by rfl)))) (pg_name (i := 2) S.nd rfl (by first | exact Or.inl rfl | exact Or.inr rfl)) tgok_name (ss_cons (s_set (i := 3) S.nd rfl (by first | exact Or.inl rfl | exact Or.inr rfl) (toD (pn_call (ok_l_less T) (takes_of rfl rfl rfl rfl) (hr.mono (by decide)) rfl T.p_l_less.g T.p_l_less.F.kp T.p_l_less.b (ph_cons (pd_name (pv 1)) (ph_cons (pd_name (pv 2)) ph_nil (by rfl)) (by rfl)) (by rfl) (by decide) (by rfl) (by rfl))) (by rfl) (by first | exact Or.inl rfl | exact Or.inr rfl))
    (ss_cons (s_set (i := 4) S.nd rfl (by first | exact Or.inl rfl | exact Or.inr rfl) (toD (pn_call (ok_without_change T) (takes_of rfl rfl rfl rfl) (hr.mono (by decide)) rfl T.p_without_change.g T.p_without_change.F.kp T.p_without_change.b (ph_cons (pd_name (pv 1)) (ph_cons (pd_name (pv 2)) ph_nil (by rfl)) (by rfl)) (by rfl) (by decide) (by rfl) (by rfl))) (by rfl) (by first | exact Or.inl rfl | exact Or.inr rfl))
    (ss_cons (s_if (pt_cmpD (op_eqD hr.units) sem_eq (toD (pn_call (ok_l_draw T) (takes_of rfl rfl rfl rfl) (hr.mono (by decide)) rfl T.p_l_draw.g T.p_l_draw.F.kp T.p_l_draw.b (ph_cons (pd_name (pv 0)) (ph_cons pd_int ph_nil (by rfl)) (by rfl)) (by rfl) (by decide) (by rfl) (by rfl))) pd_int (by rfl)) (ss_one (s_set (i := 4) S.nd rfl (by first | exact Or.inl rfl | exact Or.inr rfl) (toD (pn_callK (ok_without_change T) (takes_of rfl rfl rfl rfl) (hr.mono (by decide)) rfl T.p_without_change.g T.p_without_change.F.kp (kb_without_change_number_setting T) (pk_consD (pd_name (pv 2)) (pk_consD (pd_name (pv 1)) pk_nilD)) (by decide) (by rfl) (by rfl) (by rfl) (by decide) (by rfl))) (by rfl) (by first | exact Or.inl rfl | exact Or.inr rfl))) ss_nil)
    (ss_cons (s_if (pt_notD (pt_truthD (toD (pn_call (ok_l_same T) (takes_of rfl rfl rfl rfl) (hr.mono (by decide)) rfl T.p_l_same.g T.p_l_same.F.kp T.p_l_same.b (ph_cons (pd_name (pv 4)) (ph_cons (pd_name (pv 3)) ph_nil (by rfl)) (by rfl)) (by rfl) (by decide) (by rfl) (by rfl))) (fun _ => rfl))) (ss_one (s_ret (toN' pd_bl))) ss_nil)
    (ss_one (s_if (pt_cmpD (op_eqD hr.units) sem_eq (toD (pn_call (ok_l_draw T) (takes_of rfl rfl rfl rfl) (hr.mono (by decide)) rfl T.p_l_draw.g T.p_l_draw.F.kp T.p_l_draw.b (ph_cons (pd_name (pv 0)) (ph_cons pd_int ph_nil (by rfl)) (by rfl)) (by rfl) (by decide) (by rfl) (by rfl))) pd_int (by rfl)) (ss_cons (s_set (i := 5) S.nd rfl (by first | exact Or.inl rfl | exact Or.inr rfl) (toD (pn_tup (pi_consD (toD (pn_ix ix_seq sem_ix (pd_name (pv 3)) pd_int (fun _ _ => rfl))) (pi_consD (toD (pn_bin op_addAny sem_add (toD (pn_ix ix_seq sem_ix (pd_name (pv 3)) pd_int (fun _ _ => rfl))) (toD (pn_tup (pi_consD (toD (pn_ix ix_seq sem_ix (toD (pn_ix ix_seq sem_ix (pd_name (pv 1)) pd_int (fun _ _ => rfl))) (pd_name (pv 2)) (fun _ _ => rfl))) pi_nilD (by rfl)))))) pi_nilD (by rfl)) (by rfl)))) (by rfl) (by first | exact Or.inl rfl | exact Or.inr rfl))
    (ss_one (s_if (pt_notD (pt_truthD (toD (pn_call (ok_l_same T) (takes_of rfl rfl rfl rfl) (hr.mono (by decide)) rfl T.p_l_same.g T.p_l_same.F.kp T.p_l_same.b (ph_cons (toD (pn_call (ok_with_change T) (takes_of rfl rfl rfl rfl) (hr.mono (by decide)) rfl T.p_with_change.g T.p_with_change.F.kp T.p_with_change.b (ph_cons (pd_name (pv 4)) (ph_cons (toD (pn_ix ix_seq sem_ix (toD (pn_ix ix_seq sem_ix (pd_name (pv 1)) pd_int (fun _ _ => rfl))) (pd_name (pv 2)) (fun _ _ => rfl))) ph_nil (by rfl)) (by rfl)) (by rfl) (by decide) (by rfl) (by rfl))) (ph_cons (pd_name (pv 5)) ph_nil (by rfl)) (by rfl)) (by rfl) (by decide) (by rfl) (by rfl))) (fun _ => rfl))) (ss_one (s_ret (toN' pd_bl))) ss_nil))) ss_nil)))))) (fun _ => rfl))
    (ss_one (s_ret (toN' pd_bl))))
theorem sc_carried_change : FnScope ["change", "places", "one", "other"] ["change", "places"] (defScope s_carried_change) := ⟨rfl, rfl, rfl, by decide +kernel, rfl, by decide +kernel, by decide +kernel⟩
theorem ok_carried_change (T : Tx K mg) : FnOk Pr w K mg base (L2.CX Pr w) 1 T.a_carried_change T.d_carried_change ["change", "places"] (spF K (["change", "places"] : List Str).length F_carried_change) :=
  fn_ok (k := 0) T.p_carried_change.F sc_carried_change fun cdv A outer s H E n0 hr => by
    have S := sc_carried_change
    exact (ss_cons (s_if (pt_cmpD (op_eqD hr.units) sem_eq (toD (pn_b1 call_lenAny sem_len rfl T.z_len (by rfl) (pd_name (pv 0)) (by decide) (by decide) (by rfl) (by rfl))) pd_int (by rfl)) (ss_one (s_ret (pn_tup (pi_consD (toD (pn_ix ix_seq sem_ix (pd_name (pv 0)) pd_int (fun _ _ => rfl))) (pi_consD (toD (pn_ix ix_seq sem_ix (pd_name (pv 1)) (toD (pn_ix ix_seq sem_ix (pd_name (pv 0)) pd_int (fun _ _ => rfl))) (fun _ _ => rfl))) pi_nilD (by rfl)) (by rfl))))) ss_nil)
    (ss_cons (s_asg (tgok_any (tgsok_cons (i := 2) (tgsok_cons (i := 3) tgsok_nil)) rfl) (ps_asg (toD (pn_b1 cr_sorted sem_sorted rfl T.z_sorted (by rfl) (toD (pn_lst (pi_consD (toD (pn_ix ix_seq sem_ix (pd_name (pv 1)) (toD (pn_ix ix_seq sem_ix (pd_name (pv 0)) pd_int (fun _ _ => rfl))) (fun _ _ => rfl))) (pi_consD (toD (pn_ix ix_seq sem_ix (pd_name (pv 1)) (toD (pn_ix ix_seq sem_ix (pd_name (pv 0)) pd_int (fun _ _ => rfl))) (fun _ _ => rfl))) pi_nilD (by rfl)) (by rfl)))) (by decide) (by decide) (by rfl) (by rfl))) (pg_any (n := 2) rfl (pgs_cons (pg_name (i := 2) S.nd rfl (by first | exact Or.inl rfl | exact Or.inr rfl)) (pgs_cons (pg_name (i := 3) S.nd rfl (by first | exact Or.inl rfl | exact Or.inr rfl)) pgs_nil)))))
    (ss_one (s_ret (pn_tup (pi_consD (toD (pn_ix ix_seq sem_ix (pd_name (pv 0)) pd_int (fun _ _ => rfl))) (pi_consD (pd_name (pv 2)) (pi_consD (pd_name (pv 3)) pi_nilD (by rfl)) (by rfl)) (by rfl)))))))
theorem sc_carried_setting : FnScope ["setting", "places", "signs", "sign", "place", "change"] ["setting", "places"] (defScope s_carried_setting) := ⟨rfl, rfl, rfl, by decide +kernel, rfl, by decide +kernel, by decide +kernel⟩
theorem ok_carried_setting (T : Tx K mg) : FnOk Pr w K mg base (L2.CX Pr w) 2 T.a_carried_setting T.d_carried_setting ["setting", "places"] (spF K (["setting", "places"] : List Str).length F_carried_setting) :=
  fn_ok (k := 1) T.p_carried_setting.F sc_carried_setting fun cdv A outer s H E n0 hr => by
    have S := sc_carried_setting
    exact (ss_cons (s_new (i := 2) S.nd rfl (by first | exact Or.inl rfl | exact Or.inr rfl) (pn_rep (pn_lst (pi_consD pd_non pi_nilD (by rfl))) (toD (pn_b1 call_lenAny sem_len rfl T.z_len (by rfl) (pd_name (pv 1)) (by decide) (by decide) (by rfl) (by rfl)))) (by rfl) (by first | exact Or.inl rfl | exact Or.inr rfl))
    (ss_cons (s_for (passes_of rfl) rfl (pw_enum rfl T.z_enumerate (pd_name (pv 1)) (by rfl)) (pg_any (n := 2) rfl (pgs_cons (pg_name (i := 3) S.nd rfl (by first | exact Or.inl rfl | exact Or.inr rfl)) (pgs_cons (pg_name (i := 4) S.nd rfl (by first | exact Or.inl rfl | exact Or.inr rfl)) pgs_nil))) (tgok_any (tgsok_cons (i := 3) (tgsok_cons (i := 4) tgsok_nil)) rfl) (ss_one (s_setI (ps_asg (toD (pn_ix ix_seq sem_ix (toD (pn_ix ix_seq sem_ix (pd_name (pv 0)) pd_int (fun _ _ => rfl))) (pd_name (pv 3)) (fun _ _ => rfl))) (pg_sub (pv 2) (pd_name (pv 4)) set_list)))) (fun _ => rfl))
    (ss_one (s_ret (pn_tup (pi_consD (toD (pn_t1 call_tuple_of sem_tuple rfl T.z_tuple (by rfl) (pd_name (pv 2)) (by decide) (by decide) (by rfl) (by rfl))) (pi_consD (toD (pn_t1 call_tuple_of sem_tuple rfl T.z_tuple (by rfl) (toD (pn_lc (own := [("change", 5)]) (t := (tgName 5)) (c := bYes) rfl S.nd (pw_any (toD (pn_ix ix_seq sem_ix (pd_name (pv 0)) pd_int (fun _ _ => rfl)))) (blkOk_by (N := ["setting", "places", "signs", "sign", "place", "change"]) (sc := defScope s_carried_setting) (by decide +kernel)) (fun _ _ _ _ _ => (pg_name (i := 5) S.nd rfl (by first | exact Or.inl rfl | exact Or.inr rfl))) (fun _ _ _ _ _ => pts_yes) (fun _ _ _ _ _ => (toD (pn_call0 (ok_carried_change T) (hr.mono (by decide)) rfl T.p_carried_change.g T.p_carried_change.F.kp T.p_carried_change.b (ph_cons (pd_name (pv 5)) (ph_cons (pd_name (pv 1)) ph_nil (by rfl)) (by rfl)) (by rfl) (by decide) (by rfl) (by rfl)))) tgok_name (tgin_name (by decide)) (fun _ => rfl))) (by decide) (by decide) (by rfl) (by rfl))) pi_nilD (by rfl)) (by rfl)))))))
theorem kb_carried_setting_places_setting (T : Tx K mg) : KBinds K T.d_carried_setting ["setting", "places"] ["places", "setting"] (fun us ws => if us.isEmpty then permute [1, 0] ws else []) (fun us ws => if us.isEmpty then permute [1, 0] ws else []) :=
  kbinds_mk T.p_carried_setting.F (fun kV doc pm an cdv ct ws hl => by
    rcases ws with _ | ⟨x, _ | ⟨x, r⟩⟩
    · simp [permute] at hl
    · simp [permute] at hl
    · rfl) (by simp)
theorem sc_l_carried : FnScope ["setting", "places", "names", "s", "changes", "change", "numbers"] ["setting", "places"] (defScope s_l_carried) := ⟨rfl, rfl, rfl, by decide +kernel, rfl, by decide +kernel, by decide +kernel⟩
theorem ok_l_carried (T : Tx K mg) : FnOk Pr w K mg base (L2.CX Pr w) 1 T.a_l_carried T.d_l_carried ["setting", "places"] (spF K (["setting", "places"] : List Str).length F_l_carried) :=
  fn_ok (k := 0) T.p_l_carried.F sc_l_carried fun cdv A outer s H E n0 hr => by
    have S := sc_l_carried
    exact (ss_cons (s_new (i := 2) S.nd rfl (by first | exact Or.inl rfl | exact Or.inr rfl) (pn_t1 call_list_of sem_list rfl T.z_list (by rfl) (toD (pn_ix ix_seq sem_ix (pd_name (pv 0)) pd_int (fun _ _ => rfl))) (by decide) (by decide) (by rfl) (by rfl)) (by rfl) (by first | exact Or.inl rfl | exact Or.inr rfl))
    (ss_cons (s_for (passes_of rfl) rfl (pw_range1 rfl T.z_range (toD (pn_b1 call_lenAny sem_len rfl T.z_len (by rfl) (pd_name (pv 1)) (by decide) (by decide) (by rfl) (by rfl))) (by rfl) (by rfl)) (pg_name (i := 3) S.nd rfl (by first | exact Or.inl rfl | exact Or.inr rfl)) tgok_name (ss_one (s_setI (ps_asg (toD (pn_ix ix_seq sem_ix (toD (pn_ix ix_seq sem_ix (pd_name (pv 0)) pd_int (fun _ _ => rfl))) (pd_name (pv 3)) (fun _ _ => rfl))) (pg_sub (pv 2) (toD (pn_ix ix_seq sem_ix (pd_name (pv 1)) (pd_name (pv 3)) (fun _ _ => rfl))) set_list)))) (fun _ => rfl))
    (ss_cons (s_new (i := 4) S.nd rfl (by first | exact Or.inl rfl | exact Or.inr rfl) (pn_lst pi_nilD) (by rfl) (by first | exact Or.inl rfl | exact Or.inr rfl))
    (ss_cons (s_for (passes_of rfl) rfl (pw_any (toD (pn_ix ix_seq sem_ix (pd_name (pv 0)) pd_int (fun _ _ => rfl)))) (pg_name (i := 5) S.nd rfl (by first | exact Or.inl rfl | exact Or.inr rfl)) tgok_name (ss_cons (s_setLc (own := [("s", 3)]) (t := (tgName 3)) (c := bYes) tgok_name (tgin_name (by decide)) (ps_setLc (i := 6) (own := [("s", 3)]) rfl S.nd rfl rfl (sw_true rfl rfl rfl (by decide +kernel)) (pw_any (toD (pn_slice (pd_name (pv 5)) (po_someD pd_int) po_noneD))) (blkOk_by (N := ["setting", "places", "names", "s", "changes", "change", "numbers"]) (sc := defScope s_l_carried) (by decide +kernel)) (fun _ _ _ _ _ => (pg_name (i := 3) S.nd rfl (by first | exact Or.inl rfl | exact Or.inr rfl))) (fun _ _ _ _ _ => pts_yes) (fun _ _ _ _ _ => (toD (pn_ix ix_seq sem_ix (pd_name (pv 1)) (pd_name (pv 3)) (fun _ _ => rfl)))) (fun _ => rfl)))
    (ss_cons (s_if (PW.pt (pw_andD (pt_cmpD (op_eqD hr.units) sem_eq (toD (pn_b1 call_lenAny sem_len rfl T.z_len (by rfl) (pd_name (pv 6)) (by decide) (by decide) (by rfl) (by rfl))) pd_int (by rfl)) (pw_and1 (pt_cmpD op_gt sem_gt (toD (pn_ix ix_seq sem_ix (pd_name (pv 6)) pd_int (fun _ _ => rfl))) (toD (pn_ix ix_seq sem_ix (pd_name (pv 6)) pd_int (fun _ _ => rfl))) (by rfl))))) (ss_one (s_set (i := 6) S.nd rfl (by first | exact Or.inl rfl | exact Or.inr rfl) (toD (pn_lst (pi_consD (toD (pn_ix ix_seq sem_ix (pd_name (pv 6)) pd_int (fun _ _ => rfl))) (pi_consD (toD (pn_ix ix_seq sem_ix (pd_name (pv 6)) pd_int (fun _ _ => rfl))) pi_nilD (by rfl)) (by rfl)))) (by rfl) (by first | exact Or.inl rfl | exact Or.inr rfl))) ss_nil)
    (ss_one (s_app (ps_expr (pe_bm PySem.F.plainAttrs_list PySem.F.slot_list_append PySem.F.type_list_append mt_append (pv 4) (pa_cons (toD (pn_bin op_addAny sem_add (toD (pn_tup (pi_consD (toD (pn_ix ix_seq sem_ix (pd_name (pv 5)) pd_int (fun _ _ => rfl))) pi_nilD (by rfl)))) (toD (pn_t1 call_tuple_of sem_tuple rfl T.z_tuple (by rfl) (pd_name (pv 6)) (by decide) (by decide) (by rfl) (by rfl))))) pa_nil))))))) (fun _ => rfl))
    (ss_one (s_ret (pn_tup (pi_consD (toD (pn_t1 call_tuple_of sem_tuple rfl T.z_tuple (by rfl) (pd_name (pv 2)) (by decide) (by decide) (by rfl) (by rfl))) (pi_consD (toD (pn_t1 call_tuple_of sem_tuple rfl T.z_tuple (by rfl) (pd_name (pv 4)) (by decide) (by decide) (by rfl) (by rfl))) pi_nilD (by rfl)) (by rfl)))))))))
theorem sc_l_back : FnScope ["places", "out", "s"] ["places"] (defScope s_l_back) := ⟨rfl, rfl, rfl, by decide +kernel, rfl, by decide +kernel, by decide +kernel⟩
theorem ok_l_back (T : Tx K mg) : FnOk Pr w K mg base (L2.CX Pr w) 1 T.a_l_back T.d_l_back ["places"] (spF K (["places"] : List Str).length F_l_back) :=
  fn_ok (k := 0) T.p_l_back.F sc_l_back fun cdv A outer s H E n0 hr => by
    have S := sc_l_back
    exact (ss_cons (s_new (i := 1) S.nd rfl (by first | exact Or.inl rfl | exact Or.inr rfl) (pn_t1 call_list_of sem_list rfl T.z_list (by rfl) (pd_name (pv 0)) (by decide) (by decide) (by rfl) (by rfl)) (by rfl) (by first | exact Or.inl rfl | exact Or.inr rfl))
    (ss_cons (s_for (passes_of rfl) rfl (pw_range1 rfl T.z_range (toD (pn_b1 call_lenAny sem_len rfl T.z_len (by rfl) (pd_name (pv 0)) (by decide) (by decide) (by rfl) (by rfl))) (by rfl) (by rfl)) (pg_name (i := 2) S.nd rfl (by first | exact Or.inl rfl | exact Or.inr rfl)) tgok_name (ss_one (s_setI (ps_asg (pd_name (pv 2)) (pg_sub (pv 1) (toD (pn_ix ix_seq sem_ix (pd_name (pv 0)) (pd_name (pv 2)) (fun _ _ => rfl))) set_list)))) (fun _ => rfl))
    (ss_one (s_ret (pn_t1 call_tuple_of sem_tuple rfl T.z_tuple (by rfl) (pd_name (pv 1)) (by decide) (by decide) (by rfl) (by rfl))))))
theorem sc_l_moved : FnScope ["jar", "setting", "many", "ways", "places", "due", "told", "further", "k", "s"] ["jar", "setting"] (defScope s_l_moved) := ⟨rfl, rfl, rfl, by decide +kernel, rfl, by decide +kernel, by decide +kernel⟩
theorem ok_l_moved (T : Tx K mg) : FnOk Pr w K mg base (L2.CX Pr w) 10 T.a_l_moved T.d_l_moved ["jar", "setting"] (spF K (["jar", "setting"] : List Str).length F_l_moved) :=
  fn_ok (k := 9) T.p_l_moved.F sc_l_moved fun cdv A outer s H E n0 hr => by
    have S := sc_l_moved
    exact (ss_cons (s_set (i := 2) S.nd rfl (by first | exact Or.inl rfl | exact Or.inr rfl) (toD (pn_b1 call_lenAny sem_len rfl T.z_len (by rfl) (toD (pn_ix ix_seq sem_ix (pd_name (pv 1)) pd_int (fun _ _ => rfl))) (by decide) (by decide) (by rfl) (by rfl))) (by rfl) (by first | exact Or.inl rfl | exact Or.inr rfl))
    (ss_cons (s_set (i := 3) S.nd rfl (by first | exact Or.inl rfl | exact Or.inr rfl) (toD (pn_lst (pi_consD (toD (pn_tupRg1 rfl T.z_tuple rfl (prg_1 rfl T.z_range (pd_name (pv 2))) (by rfl))) (pi_consD (toD (pn_t1 call_tuple_of sem_tuple rfl T.z_tuple (by rfl) (toD (pn_bin op_addAny sem_add (toD (pn_listRg2 rfl T.z_list rfl (prg_2 rfl T.z_range pd_int (pd_name (pv 2))) (by rfl))) (toD (pn_lst (pi_consD pd_int pi_nilD (by rfl)))))) (by decide) (by decide) (by rfl) (by rfl))) (pi_consD (toD (pn_t1 call_tuple_of sem_tuple rfl T.z_tuple (by rfl) (toD (pn_lc (own := [("s", 9)]) (t := (tgName 9)) (c := bYes) rfl S.nd (pw_range1 rfl T.z_range (pd_name (pv 2)) (by rfl) (by rfl)) (blkOk_by (N := ["jar", "setting", "many", "ways", "places", "due", "told", "further", "k", "s"]) (sc := defScope s_l_moved) (by decide +kernel)) (fun _ _ _ _ _ => (pg_name (i := 9) S.nd rfl (by first | exact Or.inl rfl | exact Or.inr rfl))) (fun _ _ _ _ _ => pts_yes) (fun _ _ _ _ _ => (toD (pn_bin op_sub sem_sub (toD (pn_bin op_sub sem_sub (pd_name (pv 2)) pd_int)) (pd_name (pv 9))))) tgok_name (tgin_name (by decide)) (fun _ => rfl))) (by decide) (by decide) (by rfl) (by rfl))) pi_nilD (by rfl)) (by rfl)) (by rfl)))) (by rfl) (by first | exact Or.inl rfl | exact Or.inr rfl))
    (ss_cons (s_set (i := 3) S.nd rfl (by first | exact Or.inl rfl | exact Or.inr rfl) (toD (pn_bin op_addAny sem_add (pd_name (pv 3)) (toD (pn_lst (pi_consD (toD (pn_t1 call_tuple_of sem_tuple rfl T.z_tuple (by rfl) (toD (pn_bin op_addAny sem_add (toD (pn_lst (pi_consD (toD (pn_bin op_sub sem_sub (pd_name (pv 2)) pd_int)) pi_nilD (by rfl)))) (toD (pn_listRg1 rfl T.z_list rfl (prg_1 rfl T.z_range (toD (pn_bin op_sub sem_sub (pd_name (pv 2)) pd_int))) (by rfl))))) (by decide) (by decide) (by rfl) (by rfl))) pi_nilD (by rfl)))))) (by rfl) (by first | exact Or.inl rfl | exact Or.inr rfl))
    (ss_cons (s_set (i := 3) S.nd rfl (by first | exact Or.inl rfl | exact Or.inr rfl) (toD (pn_bin op_addAny sem_add (pd_name (pv 3)) (toD (pn_lc (own := [("k", 8)]) (t := (tgName 8)) (c := bYes) rfl S.nd (pw_range1 rfl T.z_range pd_int (by rfl) (by rfl)) (blkOk_by (N := ["jar", "setting", "many", "ways", "places", "due", "told", "further", "k", "s"]) (sc := defScope s_l_moved) (by decide +kernel)) (fun _ _ _ _ _ => (pg_name (i := 8) S.nd rfl (by first | exact Or.inl rfl | exact Or.inr rfl))) (fun _ _ _ _ _ => pts_yes) (fun _ _ _ _ _ => (toD (pn_t1 call_tuple_of sem_tuple rfl T.z_tuple (by rfl) (toD (pn_call0 (ok_l_shuffled T) (hr.mono (by decide)) rfl T.p_l_shuffled.g T.p_l_shuffled.F.kp T.p_l_shuffled.b (ph_cons (pd_name (pv 0)) (ph_cons (toD (pn_listRg1 rfl T.z_list rfl (prg_1 rfl T.z_range (pd_name (pv 2))) (by rfl))) ph_nil (by rfl)) (by rfl)) (by rfl) (by decide) (by rfl) (by rfl))) (by decide) (by decide) (by rfl) (by rfl)))) tgok_name (tgin_name (by decide)) (fun _ => rfl))))) (by rfl) (by first | exact Or.inl rfl | exact Or.inr rfl))
    (ss_cons (s_for (passes_of rfl) rfl (pw_any (pd_name (pv 3))) (pg_name (i := 4) S.nd rfl (by first | exact Or.inl rfl | exact Or.inr rfl)) tgok_name (ss_cons (s_set (i := 5) S.nd rfl (by first | exact Or.inl rfl | exact Or.inr rfl) (toD (pn_call (ok_l_carried T) (takes_of rfl rfl rfl rfl) (hr.mono (by decide)) rfl T.p_l_carried.g T.p_l_carried.F.kp T.p_l_carried.b (ph_cons (pd_name (pv 1)) (ph_cons (pd_name (pv 4)) ph_nil (by rfl)) (by rfl)) (by rfl) (by decide) (by rfl) (by rfl))) (by rfl) (by first | exact Or.inl rfl | exact Or.inr rfl))
    (ss_cons (s_set (i := 6) S.nd rfl (by first | exact Or.inl rfl | exact Or.inr rfl) (toD (pn_call (ok_carried_setting T) (takes_of rfl rfl rfl rfl) (hr.mono (by decide)) rfl T.p_carried_setting.g T.p_carried_setting.F.kp T.p_carried_setting.b (ph_cons (pd_name (pv 1)) (ph_cons (pd_name (pv 4)) ph_nil (by rfl)) (by rfl)) (by rfl) (by decide) (by rfl) (by rfl))) (by rfl) (by first | exact Or.inl rfl | exact Or.inr rfl))
    (ss_cons (s_if (pt_cmpD (op_eqD hr.units) sem_eq (toD (pn_call (ok_l_draw T) (takes_of rfl rfl rfl rfl) (hr.mono (by decide)) rfl T.p_l_draw.g T.p_l_draw.F.kp T.p_l_draw.b (ph_cons (pd_name (pv 0)) (ph_cons pd_int ph_nil (by rfl)) (by rfl)) (by rfl) (by decide) (by rfl) (by rfl))) pd_int (by rfl)) (ss_one (s_set (i := 6) S.nd rfl (by first | exact Or.inl rfl | exact Or.inr rfl) (toD (pn_callK (ok_carried_setting T) (takes_of rfl rfl rfl rfl) (hr.mono (by decide)) rfl T.p_carried_setting.g T.p_carried_setting.F.kp (kb_carried_setting_places_setting T) (pk_consD (pd_name (pv 4)) (pk_consD (pd_name (pv 1)) pk_nilD)) (by decide) (by rfl) (by rfl) (by rfl) (by decide) (by rfl))) (by rfl) (by first | exact Or.inl rfl | exact Or.inr rfl))) ss_nil)
    (ss_cons (s_if (pt_notD (pt_truthD (toD (pn_call (ok_l_same T) (takes_of rfl rfl rfl rfl) (hr.mono (by decide)) rfl T.p_l_same.g T.p_l_same.F.kp T.p_l_same.b (ph_cons (pd_name (pv 6)) (ph_cons (pd_name (pv 5)) ph_nil (by rfl)) (by rfl)) (by rfl) (by decide) (by rfl) (by rfl))) (fun _ => rfl))) (ss_one (s_ret (toN' pd_bl))) ss_nil)
    (ss_cons (s_if (pt_notD (pt_truthD (toD (pn_call (ok_l_same T) (takes_of rfl rfl rfl rfl) (hr.mono (by decide)) rfl T.p_l_same.g T.p_l_same.F.kp T.p_l_same.b (ph_cons (toD (pn_call (ok_carried_setting T) (takes_of rfl rfl rfl rfl) (hr.mono (by decide)) rfl T.p_carried_setting.g T.p_carried_setting.F.kp T.p_carried_setting.b (ph_cons (pd_name (pv 6)) (ph_cons (toD (pn_call (ok_l_back T) (takes_of rfl rfl rfl rfl) (hr.mono (by decide)) rfl T.p_l_back.g T.p_l_back.F.kp T.p_l_back.b (ph_cons (pd_name (pv 4)) ph_nil (by rfl)) (by rfl) (by decide) (by rfl) (by rfl))) ph_nil (by rfl)) (by rfl)) (by rfl) (by decide) (by rfl) (by rfl))) (ph_cons (pd_name (pv 1)) ph_nil (by rfl)) (by rfl)) (by rfl) (by decide) (by rfl) (by rfl))) (fun _ => rfl))) (ss_one (s_ret (toN' pd_bl))) ss_nil)
    (ss_cons (s_set (i := 7) S.nd rfl (by first | exact Or.inl rfl | exact Or.inr rfl) (toD (pn_ix ix_seq sem_ix (pd_name (pv 3)) (toD (pn_call (ok_l_draw T) (takes_of rfl rfl rfl rfl) (hr.mono (by decide)) rfl T.p_l_draw.g T.p_l_draw.F.kp T.p_l_draw.b (ph_cons (pd_name (pv 0)) (ph_cons (toD (pn_b1 call_lenAny sem_len rfl T.z_len (by rfl) (pd_name (pv 3)) (by decide) (by decide) (by rfl) (by rfl))) ph_nil (by rfl)) (by rfl)) (by rfl) (by decide) (by rfl) (by rfl))) (fun _ _ => rfl))) (by rfl) (by first | exact Or.inl rfl | exact Or.inr rfl))
    (ss_one (s_if (pt_notD (pt_truthD (toD (pn_call (ok_l_same T) (takes_of rfl rfl rfl rfl) (hr.mono (by decide)) rfl T.p_l_same.g T.p_l_same.F.kp T.p_l_same.b (ph_cons (toD (pn_call (ok_carried_setting T) (takes_of rfl rfl rfl rfl) (hr.mono (by decide)) rfl T.p_carried_setting.g T.p_carried_setting.F.kp T.p_carried_setting.b (ph_cons (pd_name (pv 6)) (ph_cons (pd_name (pv 7)) ph_nil (by rfl)) (by rfl)) (by rfl) (by decide) (by rfl) (by rfl))) (ph_cons (toD (pn_call (ok_l_carried T) (takes_of rfl rfl rfl rfl) (hr.mono (by decide)) rfl T.p_l_carried.g T.p_l_carried.F.kp T.p_l_carried.b (ph_cons (pd_name (pv 5)) (ph_cons (pd_name (pv 7)) ph_nil (by rfl)) (by rfl)) (by rfl) (by decide) (by rfl) (by rfl))) ph_nil (by rfl)) (by rfl)) (by rfl) (by decide) (by rfl) (by rfl))) (fun _ => rfl))) (ss_one (s_ret (toN' pd_bl))) ss_nil)))))))) (fun _ => rfl))
    (ss_one (s_ret (toN' pd_bl))))))))
theorem sc_l_look : FnScope ["jar", "setting", "part"] ["jar", "setting", "part"] (defScope s_l_look) := ⟨rfl, rfl, rfl, by decide +kernel, rfl, by decide +kernel, by decide +kernel⟩
theorem ok_l_look (T : Tx K mg) : FnOk Pr w K mg base (L2.CX Pr w) 11 T.a_l_look T.d_l_look ["jar", "setting", "part"] (spF K (["jar", "setting", "part"] : List Str).length F_l_look) :=
  fn_ok (k := 10) T.p_l_look.F sc_l_look fun cdv A outer s H E n0 hr => by
    have S := sc_l_look
    exact (ss_cons (s_if (pt_cmpD (op_eqD hr.units) sem_eq (pd_name (pv 2)) pd_int (by rfl)) (ss_one (s_ret (pn_call (ok_l_kinds T) (takes_of rfl rfl rfl rfl) (hr.mono (by decide)) rfl T.p_l_kinds.g T.p_l_kinds.F.kp T.p_l_kinds.b (ph_cons (pd_name (pv 0)) (ph_cons (pd_name (pv 1)) ph_nil (by rfl)) (by rfl)) (by rfl) (by decide) (by rfl) (by rfl)))) ss_nil)
    (ss_cons (s_if (pt_cmpD (op_eqD hr.units) sem_eq (pd_name (pv 2)) pd_int (by rfl)) (ss_one (s_ret (pn_call (ok_l_more T) (takes_of rfl rfl rfl rfl) (hr.mono (by decide)) rfl T.p_l_more.g T.p_l_more.F.kp T.p_l_more.b (ph_cons (pd_name (pv 0)) (ph_cons (pd_name (pv 1)) ph_nil (by rfl)) (by rfl)) (by rfl) (by decide) (by rfl) (by rfl)))) ss_nil)
    (ss_cons (s_if (pt_cmpD (op_eqD hr.units) sem_eq (pd_name (pv 2)) pd_int (by rfl)) (ss_one (s_ret (pn_call (ok_l_fewer T) (takes_of rfl rfl rfl rfl) (hr.mono (by decide)) rfl T.p_l_fewer.g T.p_l_fewer.F.kp T.p_l_fewer.b (ph_cons (pd_name (pv 0)) (ph_cons (pd_name (pv 1)) ph_nil (by rfl)) (by rfl)) (by rfl) (by decide) (by rfl) (by rfl)))) ss_nil)
    (ss_one (s_ret (pn_call (ok_l_moved T) (takes_of rfl rfl rfl rfl) (hr.mono (by decide)) rfl T.p_l_moved.g T.p_l_moved.F.kp T.p_l_moved.b (ph_cons (pd_name (pv 0)) (ph_cons (pd_name (pv 1)) ph_nil (by rfl)) (by rfl)) (by rfl) (by decide) (by rfl) (by rfl)))))))
theorem sc_l_barred : FnScope ["words"] [] (defScope s_l_barred) := ⟨rfl, rfl, rfl, by decide +kernel, rfl, by decide +kernel, by decide +kernel⟩
theorem ok_l_barred (T : Tx K mg) : FnOk Pr w K mg base (L2.CX Pr w) 1 T.a_l_barred T.d_l_barred [] (spF K ([] : List Str).length F_l_barred) :=
  fn_ok (k := 0) T.p_l_barred.F sc_l_barred fun cdv A outer s H E n0 hr => by
    have S := sc_l_barred
    exact (ss_cons (s_set (i := 0) S.nd rfl (by first | exact Or.inl rfl | exact Or.inr rfl) (toD (pn_lst (pi_consD pd_str (pi_consD pd_str (pi_consD pd_str (pi_consD pd_str (pi_consD pd_str (pi_consD pd_str (pi_consD pd_str (pi_consD pd_str (pi_consD pd_str (pi_consD pd_str (pi_consD pd_str (pi_consD pd_str (pi_consD pd_str pi_nilD (by rfl)) (by rfl)) (by rfl)) (by rfl)) (by rfl)) (by rfl)) (by rfl)) (by rfl)) (by rfl)) (by rfl)) (by rfl)) (by rfl)) (by rfl)))) (by rfl) (by first | exact Or.inl rfl | exact Or.inr rfl))
    (ss_one (s_ret (pn_bin op_addAny sem_add (pd_name (pv 0)) (toD (pn_lst (pi_consD pd_str (pi_consD pd_str (pi_consD pd_str (pi_consD pd_str (pi_consD pd_str (pi_consD pd_str (pi_consD pd_str (pi_consD pd_str (pi_consD pd_str (pi_consD pd_str (pi_consD pd_str pi_nilD (by rfl)) (by rfl)) (by rfl)) (by rfl)) (by rfl)) (by rfl)) (by rfl)) (by rfl)) (by rfl)) (by rfl)) (by rfl))))))))
theorem sc_l_names : FnScope ["jar", "many", "letters", "out", "k", "name", "step", "spare"] ["jar", "many"] (defScope s_l_names) := ⟨rfl, rfl, rfl, by decide +kernel, rfl, by decide +kernel, by decide +kernel⟩
theorem ok_l_names (T : Tx K mg) : FnOk Pr w K mg base (L2.CX Pr w) 2 T.a_l_names T.d_l_names ["jar", "many"] (spF K (["jar", "many"] : List Str).length F_l_names) :=
  fn_ok (k := 1) T.p_l_names.F sc_l_names fun cdv A outer s H E n0 hr => by
    have S := sc_l_names
    exact (ss_cons (s_set (i := 2) S.nd rfl (by first | exact Or.inl rfl | exact Or.inr rfl) pd_str (by rfl) (by first | exact Or.inl rfl | exact Or.inr rfl))
    (ss_cons (s_new (i := 3) S.nd rfl (by first | exact Or.inl rfl | exact Or.inr rfl) (pn_lst pi_nilD) (by rfl) (by first | exact Or.inl rfl | exact Or.inr rfl))
    (ss_cons (s_for (passes_of rfl) rfl (pw_range1 rfl T.z_range (pd_name (pv 1)) (by rfl) (by rfl)) (pg_name (i := 4) S.nd rfl (by first | exact Or.inl rfl | exact Or.inr rfl)) tgok_name (ss_cons (s_set (i := 5) S.nd rfl (by first | exact Or.inl rfl | exact Or.inr rfl) (toD (pn_ix ix_seq sem_ix (pd_name (pv 2)) (toD (pn_call (ok_l_draw T) (takes_of rfl rfl rfl rfl) (hr.mono (by decide)) rfl T.p_l_draw.g T.p_l_draw.F.kp T.p_l_draw.b (ph_cons (pd_name (pv 0)) (ph_cons pd_int ph_nil (by rfl)) (by rfl)) (by rfl) (by decide) (by rfl) (by rfl))) (fun _ _ => rfl))) (by rfl) (by first | exact Or.inl rfl | exact Or.inr rfl))
    (ss_cons (s_for (passes_of rfl) rfl (pw_range1 rfl T.z_range (toD (pn_ix ix_seq sem_ix (toD (pn_lst (pi_consD pd_int (pi_consD pd_int (pi_consD pd_int (pi_consD pd_int (pi_consD pd_int pi_nilD (by rfl)) (by rfl)) (by rfl)) (by rfl)) (by rfl)))) (toD (pn_call (ok_l_draw T) (takes_of rfl rfl rfl rfl) (hr.mono (by decide)) rfl T.p_l_draw.g T.p_l_draw.F.kp T.p_l_draw.b (ph_cons (pd_name (pv 0)) (ph_cons pd_int ph_nil (by rfl)) (by rfl)) (by rfl) (by decide) (by rfl) (by rfl))) (fun _ _ => rfl))) (by rfl) (by rfl)) (pg_name (i := 6) S.nd rfl (by first | exact Or.inl rfl | exact Or.inr rfl)) tgok_name (ss_one (s_set (i := 5) S.nd rfl (by first | exact Or.inl rfl | exact Or.inr rfl) (toD (pn_bin op_addAny sem_add (pd_name (pv 5)) (toD (pn_ix ix_seq sem_ix (toD (pn_bin op_addAny sem_add (pd_name (pv 2)) pd_str)) (toD (pn_call (ok_l_draw T) (takes_of rfl rfl rfl rfl) (hr.mono (by decide)) rfl T.p_l_draw.g T.p_l_draw.F.kp T.p_l_draw.b (ph_cons (pd_name (pv 0)) (ph_cons pd_int ph_nil (by rfl)) (by rfl)) (by rfl) (by decide) (by rfl) (by rfl))) (fun _ _ => rfl))))) (by rfl) (by first | exact Or.inl rfl | exact Or.inr rfl))) (fun _ => rfl))
    (ss_cons (s_for (passes_of rfl) rfl (pw_any (toD (pn_lst (pi_consD pd_str (pi_consD pd_str (pi_consD pd_str (pi_consD pd_str (pi_consD pd_str (pi_consD pd_str pi_nilD (by rfl)) (by rfl)) (by rfl)) (by rfl)) (by rfl)) (by rfl))))) (pg_name (i := 7) S.nd rfl (by first | exact Or.inl rfl | exact Or.inr rfl)) tgok_name (ss_one (s_if (PW.pt (pw_orD (pt_cmpD (op_inAny (hu200 hr)) sem_in (pd_name (pv 5)) (pd_name (pv 3)) (by rfl)) (pw_or1 (pt_cmpD (op_inAny (hu200 hr)) sem_in (pd_name (pv 5)) (toD (pn_call00 (ok_l_barred T) (takes_of rfl rfl rfl rfl) (hr.mono (by decide)) rfl T.p_l_barred.g T.p_l_barred.F.kp T.p_l_barred.b (by decide) (by rfl))) (by rfl))))) (ss_one (s_set (i := 5) S.nd rfl (by first | exact Or.inl rfl | exact Or.inr rfl) (pd_name (pv 7)) (by rfl) (by first | exact Or.inl rfl | exact Or.inr rfl))) ss_nil)) (fun _ => rfl))
    (ss_one (s_app (ps_expr (pe_bm PySem.F.plainAttrs_list PySem.F.slot_list_append PySem.F.type_list_append mt_append (pv 3) (pa_cons (pd_name (pv 5)) pa_nil)))))))) (fun _ => rfl))
    (ss_one (s_ret (pn_t1 call_tuple_of sem_tuple rfl T.z_tuple (by rfl) (pd_name (pv 3)) (by decide) (by decide) (by rfl) (by rfl)))))))
theorem sc_l_setting : FnScope ["jar", "many", "size"] ["jar", "many", "size"] (defScope s_l_setting) := ⟨rfl, rfl, rfl, by decide +kernel, rfl, by decide +kernel, by decide +kernel⟩
theorem ok_l_setting (T : Tx K mg) : FnOk Pr w K mg base (L2.CX Pr w) 3 T.a_l_setting T.d_l_setting ["jar", "many", "size"] (spF K (["jar", "many", "size"] : List Str).length F_l_setting) :=
  fn_ok (k := 2) T.p_l_setting.F sc_l_setting fun cdv A outer s H E n0 hr => by
    have S := sc_l_setting
    exact (ss_one (s_ret (pn_tup (pi_consD (toD (pn_call (ok_l_names T) (takes_of rfl rfl rfl rfl) (hr.mono (by decide)) rfl T.p_l_names.g T.p_l_names.F.kp T.p_l_names.b (ph_cons (pd_name (pv 0)) (ph_cons (pd_name (pv 1)) ph_nil (by rfl)) (by rfl)) (by rfl) (by decide) (by rfl) (by rfl))) (pi_consD (toD (pn_t1 call_tuple_of sem_tuple rfl T.z_tuple (by rfl) (toD (pn_slice (toD (pn_call (ok_l_shuffled T) (takes_of rfl rfl rfl rfl) (hr.mono (by decide)) rfl T.p_l_shuffled.g T.p_l_shuffled.F.kp T.p_l_shuffled.b (ph_cons (pd_name (pv 0)) (ph_cons (toD (pn_call (ok_l_pool T) (takes_of rfl rfl rfl rfl) (hr.mono (by decide)) rfl T.p_l_pool.g T.p_l_pool.F.kp T.p_l_pool.b (ph_cons (pd_name (pv 1)) ph_nil (by rfl)) (by rfl) (by decide) (by rfl) (by rfl))) ph_nil (by rfl)) (by rfl)) (by rfl) (by decide) (by rfl) (by rfl))) po_noneD (po_someD (pd_name (pv 2))))) (by decide) (by decide) (by rfl) (by rfl))) pi_nilD (by rfl)) (by rfl)))))
theorem sc_l_settings : FnScope ["jar", "out", "k", "names", "pairs", "change"] ["jar"] (defScope s_l_settings) := ⟨rfl, rfl, rfl, by decide +kernel, rfl, by decide +kernel, by decide +kernel⟩
theorem ok_l_settings (T : Tx K mg) : FnOk Pr w K mg base (L2.CX Pr w) 4 T.a_l_settings T.d_l_settings ["jar"] (spF K (["jar"] : List Str).length F_l_settings) :=
  fn_ok (k := 3) T.p_l_settings.F sc_l_settings fun cdv A outer s H E n0 hr => by
    have S := sc_l_settings
    exact (ss_cons (s_new (i := 1) S.nd rfl (by first | exact Or.inl rfl | exact Or.inr rfl) (pn_lst (pi_consD (toD (pn_call (ok_l_setting T) (takes_of rfl rfl rfl rfl) (hr.mono (by decide)) rfl T.p_l_setting.g T.p_l_setting.F.kp T.p_l_setting.b (ph_cons (pd_name (pv 0)) (ph_cons pd_int (ph_cons pd_int ph_nil (by rfl)) (by rfl)) (by rfl)) (by rfl) (by decide) (by rfl) (by rfl))) (pi_consD (toD (pn_call (ok_l_setting T) (takes_of rfl rfl rfl rfl) (hr.mono (by decide)) rfl T.p_l_setting.g T.p_l_setting.F.kp T.p_l_setting.b (ph_cons (pd_name (pv 0)) (ph_cons pd_int (ph_cons pd_int ph_nil (by rfl)) (by rfl)) (by rfl)) (by rfl) (by decide) (by rfl) (by rfl))) (pi_consD (toD (pn_call (ok_l_setting T) (takes_of rfl rfl rfl rfl) (hr.mono (by decide)) rfl T.p_l_setting.g T.p_l_setting.F.kp T.p_l_setting.b (ph_cons (pd_name (pv 0)) (ph_cons pd_int (ph_cons (toD (pn_call (ok_l_draw T) (takes_of rfl rfl rfl rfl) (hr.mono (by decide)) rfl T.p_l_draw.g T.p_l_draw.F.kp T.p_l_draw.b (ph_cons (pd_name (pv 0)) (ph_cons pd_int ph_nil (by rfl)) (by rfl)) (by rfl) (by decide) (by rfl) (by rfl))) ph_nil (by rfl)) (by rfl)) (by rfl)) (by rfl) (by decide) (by rfl) (by rfl))) pi_nilD (by rfl)) (by rfl)) (by rfl))) (by rfl) (by first | exact Or.inl rfl | exact Or.inr rfl))
    (ss_cons (s_app (ps_expr (pe_bm PySem.F.plainAttrs_list PySem.F.slot_list_append PySem.F.type_list_append mt_append (pv 1) (pa_cons (toD (pn_call (ok_l_setting T) (takes_of rfl rfl rfl rfl) (hr.mono (by decide)) rfl T.p_l_setting.g T.p_l_setting.F.kp T.p_l_setting.b (ph_cons (pd_name (pv 0)) (ph_cons (toD (pn_bin op_addAny sem_add pd_int (toD (pn_call (ok_l_draw T) (takes_of rfl rfl rfl rfl) (hr.mono (by decide)) rfl T.p_l_draw.g T.p_l_draw.F.kp T.p_l_draw.b (ph_cons (pd_name (pv 0)) (ph_cons pd_int ph_nil (by rfl)) (by rfl)) (by rfl) (by decide) (by rfl) (by rfl))))) (ph_cons pd_int ph_nil (by rfl)) (by rfl)) (by rfl)) (by rfl) (by decide) (by rfl) (by rfl))) pa_nil))))
    (ss_cons (s_app (ps_expr (pe_bm PySem.F.plainAttrs_list PySem.F.slot_list_append PySem.F.type_list_append mt_append (pv 1) (pa_cons (toD (pn_call (ok_l_setting T) (takes_of rfl rfl rfl rfl) (hr.mono (by decide)) rfl T.p_l_setting.g T.p_l_setting.F.kp T.p_l_setting.b (ph_cons (pd_name (pv 0)) (ph_cons pd_int (ph_cons (toD (pn_bin op_addAny sem_add pd_int (toD (pn_call (ok_l_draw T) (takes_of rfl rfl rfl rfl) (hr.mono (by decide)) rfl T.p_l_draw.g T.p_l_draw.F.kp T.p_l_draw.b (ph_cons (pd_name (pv 0)) (ph_cons pd_int ph_nil (by rfl)) (by rfl)) (by rfl) (by decide) (by rfl) (by rfl))))) ph_nil (by rfl)) (by rfl)) (by rfl)) (by rfl) (by decide) (by rfl) (by rfl))) pa_nil))))
    (ss_cons (s_for (passes_of rfl) rfl (pw_range1 rfl T.z_range pd_int (by rfl) (by rfl)) (pg_name (i := 2) S.nd rfl (by first | exact Or.inl rfl | exact Or.inr rfl)) tgok_name (ss_one (s_app (ps_expr (pe_bm PySem.F.plainAttrs_list PySem.F.slot_list_append PySem.F.type_list_append mt_append (pv 1) (pa_cons (toD (pn_call (ok_l_setting T) (takes_of rfl rfl rfl rfl) (hr.mono (by decide)) rfl T.p_l_setting.g T.p_l_setting.F.kp T.p_l_setting.b (ph_cons (pd_name (pv 0)) (ph_cons (toD (pn_bin op_addAny sem_add pd_int (toD (pn_call (ok_l_draw T) (takes_of rfl rfl rfl rfl) (hr.mono (by decide)) rfl T.p_l_draw.g T.p_l_draw.F.kp T.p_l_draw.b (ph_cons (pd_name (pv 0)) (ph_cons pd_int ph_nil (by rfl)) (by rfl)) (by rfl) (by decide) (by rfl) (by rfl))))) (ph_cons (toD (pn_call (ok_l_draw T) (takes_of rfl rfl rfl rfl) (hr.mono (by decide)) rfl T.p_l_draw.g T.p_l_draw.F.kp T.p_l_draw.b (ph_cons (pd_name (pv 0)) (ph_cons pd_int ph_nil (by rfl)) (by rfl)) (by rfl) (by decide) (by rfl) (by rfl))) ph_nil (by rfl)) (by rfl)) (by rfl)) (by rfl) (by decide) (by rfl) (by rfl))) pa_nil))))) (fun _ => rfl))
    (ss_cons (s_set (i := 3) S.nd rfl (by first | exact Or.inl rfl | exact Or.inr rfl) (toD (pn_call (ok_l_names T) (takes_of rfl rfl rfl rfl) (hr.mono (by decide)) rfl T.p_l_names.g T.p_l_names.F.kp T.p_l_names.b (ph_cons (pd_name (pv 0)) (ph_cons pd_int ph_nil (by rfl)) (by rfl)) (by rfl) (by decide) (by rfl) (by rfl))) (by rfl) (by first | exact Or.inl rfl | exact Or.inr rfl))
    (ss_cons (s_app (ps_expr (pe_bm PySem.F.plainAttrs_list PySem.F.slot_list_append PySem.F.type_list_append mt_append (pv 1) (pa_cons (toD (pn_tup (pi_consD (pd_name (pv 3)) (pi_consD (toD (pn_tup (pi_consD (toD (pn_tup (pi_consD pd_str (pi_consD pd_int (pi_consD pd_int pi_nilD (by rfl)) (by rfl)) (by rfl)))) (pi_consD (toD (pn_tup (pi_consD pd_str (pi_consD pd_int pi_nilD (by rfl)) (by rfl)))) (pi_consD (toD (pn_tup (pi_consD pd_str (pi_consD pd_int (pi_consD pd_int pi_nilD (by rfl)) (by rfl)) (by rfl)))) (pi_consD (toD (pn_tup (pi_consD pd_str (pi_consD pd_int pi_nilD (by rfl)) (by rfl)))) (pi_consD (toD (pn_tup (pi_consD pd_str (pi_consD pd_int (pi_consD pd_int pi_nilD (by rfl)) (by rfl)) (by rfl)))) pi_nilD (by rfl)) (by rfl)) (by rfl)) (by rfl)) (by rfl)))) pi_nilD (by rfl)) (by rfl)))) pa_nil))))
    (ss_cons (s_setLc (own := [("change", 5)]) (t := (tgName 5)) (c := (bCmp dEq (eBin dIx (eName 5) (eC (.int 0))) (eC (.str "loose")))) tgok_name (tgin_name (by decide)) (ps_setLc (i := 4) (own := [("change", 5)]) rfl S.nd rfl rfl (sw_true rfl rfl rfl (by decide +kernel)) (pw_any (toD (pn_call (ok_l_pool T) (takes_of rfl rfl rfl rfl) (hr.mono (by decide)) rfl T.p_l_pool.g T.p_l_pool.F.kp T.p_l_pool.b (ph_cons pd_int ph_nil (by rfl)) (by rfl) (by decide) (by rfl) (by rfl)))) (blkOk_by (N := ["jar", "out", "k", "names", "pairs", "change"]) (sc := defScope s_l_settings) (by decide +kernel)) (fun _ _ _ _ _ => (pg_name (i := 5) S.nd rfl (by first | exact Or.inl rfl | exact Or.inr rfl))) (fun _ _ _ _ _ => (pts_oneD (pt_cmpD (op_eqD hr.units) sem_eq (toD (pn_ix ix_seq sem_ix (pd_name (pv 5)) pd_int (fun _ _ => rfl))) pd_str (by rfl)))) (fun _ _ _ _ _ => (pd_name (pv 5))) (fun _ => rfl)))
    (ss_cons (s_app (ps_expr (pe_bm PySem.F.plainAttrs_list PySem.F.slot_list_append PySem.F.type_list_append mt_append (pv 1) (pa_cons (toD (pn_tup (pi_consD (toD (pn_call (ok_l_names T) (takes_of rfl rfl rfl rfl) (hr.mono (by decide)) rfl T.p_l_names.g T.p_l_names.F.kp T.p_l_names.b (ph_cons (pd_name (pv 0)) (ph_cons pd_int ph_nil (by rfl)) (by rfl)) (by rfl) (by decide) (by rfl) (by rfl))) (pi_consD (toD (pn_t1 call_tuple_of sem_tuple rfl T.z_tuple (by rfl) (toD (pn_call (ok_l_shuffled T) (takes_of rfl rfl rfl rfl) (hr.mono (by decide)) rfl T.p_l_shuffled.g T.p_l_shuffled.F.kp T.p_l_shuffled.b (ph_cons (pd_name (pv 0)) (ph_cons (toD (pn_bin op_addAny sem_add (pd_name (pv 4)) (toD (pn_lst (pi_consD (toD (pn_tup (pi_consD pd_str (pi_consD pd_int (pi_consD pd_int pi_nilD (by rfl)) (by rfl)) (by rfl)))) (pi_consD (toD (pn_tup (pi_consD pd_str (pi_consD pd_int pi_nilD (by rfl)) (by rfl)))) pi_nilD (by rfl)) (by rfl)))))) ph_nil (by rfl)) (by rfl)) (by rfl) (by decide) (by rfl) (by rfl))) (by decide) (by decide) (by rfl) (by rfl))) pi_nilD (by rfl)) (by rfl)))) pa_nil))))
    (ss_cons (s_app (ps_expr (pe_bm PySem.F.plainAttrs_list PySem.F.slot_list_append PySem.F.type_list_append mt_append (pv 1) (pa_cons (toD (pn_tup (pi_consD (pd_name (pv 3)) (pi_consD (toD (pn_tup (pi_consD (toD (pn_tup (pi_consD pd_str (pi_consD pd_int (pi_consD pd_int pi_nilD (by rfl)) (by rfl)) (by rfl)))) (pi_consD (toD (pn_tup (pi_consD pd_str (pi_consD pd_int pi_nilD (by rfl)) (by rfl)))) (pi_consD (toD (pn_tup (pi_consD pd_str (pi_consD pd_int (pi_consD pd_int pi_nilD (by rfl)) (by rfl)) (by rfl)))) (pi_consD (toD (pn_tup (pi_consD pd_str (pi_consD pd_int pi_nilD (by rfl)) (by rfl)))) (pi_consD (toD (pn_tup (pi_consD pd_str (pi_consD pd_int (pi_consD pd_int pi_nilD (by rfl)) (by rfl)) (by rfl)))) (pi_consD (toD (pn_tup (pi_consD pd_str (pi_consD pd_int pi_nilD (by rfl)) (by rfl)))) pi_nilD (by rfl)) (by rfl)) (by rfl)) (by rfl)) (by rfl)) (by rfl)))) pi_nilD (by rfl)) (by rfl)))) pa_nil))))
    (ss_one (s_ret (toN' (pd_name (pv 1))))))))))))))
theorem sc_law : FnScope ["script", "jar", "settings", "asked", "setting", "k", "part"] ["script"] (defScope s_law) := ⟨rfl, rfl, rfl, by decide +kernel, rfl, by decide +kernel, by decide +kernel⟩
theorem ok_law (T : Tx K mg) : FnOk Pr w K mg base (L2.CX Pr w) 12 T.a_law T.d_law ["script"] (spF K (["script"] : List Str).length F_law) :=
  fn_ok (k := 11) T.p_law.F sc_law fun cdv A outer s H E n0 hr => by
    have S := sc_law
    exact (ss_cons (s_new (i := 1) S.nd rfl (by first | exact Or.inl rfl | exact Or.inr rfl) (pn_call (ok_l_jar T) (takes_of rfl rfl rfl rfl) (hr.mono (by decide)) rfl T.p_l_jar.g T.p_l_jar.F.kp T.p_l_jar.b (ph_cons (pd_name (pv 0)) ph_nil (by rfl)) (by rfl) (by decide) (by rfl) (by rfl)) (by rfl) (by first | exact Or.inl rfl | exact Or.inr rfl))
    (ss_cons (s_set (i := 2) S.nd rfl (by first | exact Or.inl rfl | exact Or.inr rfl) (toD (pn_call (ok_l_shuffled T) (takes_of rfl rfl rfl rfl) (hr.mono (by decide)) rfl T.p_l_shuffled.g T.p_l_shuffled.F.kp T.p_l_shuffled.b (ph_cons (pd_name (pv 1)) (ph_cons (toD (pn_call (ok_l_settings T) (takes_of rfl rfl rfl rfl) (hr.mono (by decide)) rfl T.p_l_settings.g T.p_l_settings.F.kp T.p_l_settings.b (ph_cons (pd_name (pv 1)) ph_nil (by rfl)) (by rfl) (by decide) (by rfl) (by rfl))) ph_nil (by rfl)) (by rfl)) (by rfl) (by decide) (by rfl) (by rfl))) (by rfl) (by first | exact Or.inl rfl | exact Or.inr rfl))
    (ss_cons (s_if (pt_notD (pt_truthD (toD (pn_call (ok_l_rows_of_changes T) (takes_of rfl rfl rfl rfl) (hr.mono (by decide)) rfl T.p_l_rows_of_changes.g T.p_l_rows_of_changes.F.kp T.p_l_rows_of_changes.b (ph_cons (pd_name (pv 1)) ph_nil (by rfl)) (by rfl) (by decide) (by rfl) (by rfl))) (fun _ => rfl))) (ss_one (s_ret (toN' pd_bl))) ss_nil)
    (ss_cons (s_set (i := 3) S.nd rfl (by first | exact Or.inl rfl | exact Or.inr rfl) pd_int (by rfl) (by first | exact Or.inl rfl | exact Or.inr rfl))
    (ss_cons (s_for (passes_of rfl) rfl (pw_any (pd_name (pv 2))) (pg_name (i := 4) S.nd rfl (by first | exact Or.inl rfl | exact Or.inr rfl)) tgok_name (ss_one (s_for (passes_of rfl) rfl (pw_any (toD (pn_call (ok_l_shuffled T) (takes_of rfl rfl rfl rfl) (hr.mono (by decide)) rfl T.p_l_shuffled.g T.p_l_shuffled.F.kp T.p_l_shuffled.b (ph_cons (pd_name (pv 1)) (ph_cons (toD (pn_lst (pi_consD pd_int (pi_consD pd_int (pi_consD pd_int (pi_consD pd_int pi_nilD (by rfl)) (by rfl)) (by rfl)) (by rfl)))) ph_nil (by rfl)) (by rfl)) (by rfl) (by decide) (by rfl) (by rfl)))) (pg_name (i := 6) S.nd rfl (by first | exact Or.inl rfl | exact Or.inr rfl)) tgok_name (ss_cons (s_if (pt_notD (pt_truthD (toD (pn_call (ok_l_look T) (takes_of rfl rfl rfl rfl) (hr.mono (by decide)) rfl T.p_l_look.g T.p_l_look.F.kp T.p_l_look.b (ph_cons (pd_name (pv 1)) (ph_cons (pd_name (pv 4)) (ph_cons (pd_name (pv 6)) ph_nil (by rfl)) (by rfl)) (by rfl)) (by rfl) (by decide) (by rfl) (by rfl))) (fun _ => rfl))) (ss_one (s_ret (toN' pd_bl))) ss_nil)
    (ss_one (s_set (i := 3) S.nd rfl (by first | exact Or.inl rfl | exact Or.inr rfl) (toD (pn_bin op_addAny sem_add (pd_name (pv 3)) pd_int)) (by rfl) (by first | exact Or.inl rfl | exact Or.inr rfl)))) (fun _ => rfl))) (fun _ => rfl))
    (ss_cons (s_for (passes_of rfl) rfl (pw_range1 rfl T.z_range pd_int (by rfl) (by rfl)) (pg_name (i := 5) S.nd rfl (by first | exact Or.inl rfl | exact Or.inr rfl)) tgok_name (ss_cons (s_set (i := 4) S.nd rfl (by first | exact Or.inl rfl | exact Or.inr rfl) (toD (pn_ix ix_seq sem_ix (pd_name (pv 2)) (toD (pn_call (ok_l_draw T) (takes_of rfl rfl rfl rfl) (hr.mono (by decide)) rfl T.p_l_draw.g T.p_l_draw.F.kp T.p_l_draw.b (ph_cons (pd_name (pv 1)) (ph_cons (toD (pn_b1 call_lenAny sem_len rfl T.z_len (by rfl) (pd_name (pv 2)) (by decide) (by decide) (by rfl) (by rfl))) ph_nil (by rfl)) (by rfl)) (by rfl) (by decide) (by rfl) (by rfl))) (fun _ _ => rfl))) (by rfl) (by first | exact Or.inl rfl | exact Or.inr rfl))
    (ss_one (s_if (pt_notD (pt_truthD (toD (pn_call (ok_l_look T) (takes_of rfl rfl rfl rfl) (hr.mono (by decide)) rfl T.p_l_look.g T.p_l_look.F.kp T.p_l_look.b (ph_cons (pd_name (pv 1)) (ph_cons (pd_name (pv 4)) (ph_cons (toD (pn_call (ok_l_draw T) (takes_of rfl rfl rfl rfl) (hr.mono (by decide)) rfl T.p_l_draw.g T.p_l_draw.F.kp T.p_l_draw.b (ph_cons (pd_name (pv 1)) (ph_cons pd_int ph_nil (by rfl)) (by rfl)) (by rfl) (by decide) (by rfl) (by rfl))) ph_nil (by rfl)) (by rfl)) (by rfl)) (by rfl) (by decide) (by rfl) (by rfl))) (fun _ => rfl))) (ss_one (s_ret (toN' pd_bl))) ss_nil))) (fun _ => rfl))
    (ss_one (s_ret (pn_and (pn_call (ok_l_rows_of_changes T) (takes_of rfl rfl rfl rfl) (hr.mono (by decide)) rfl T.p_l_rows_of_changes.g T.p_l_rows_of_changes.F.kp T.p_l_rows_of_changes.b (ph_cons (pd_name (pv 1)) ph_nil (by rfl)) (by rfl) (by decide) (by rfl) (by rfl)) (pn_one (pn_cmp (op_eqD hr.units) sem_eq (pd_name (pv 3)) pd_int (by rfl))))))))))))
end
/-! ### what the top has written -/
def tx_mk {K : PySem.W.Frag} {h : Heap} {mg : Str → Option Value} (X : K.In h) (G : h.Ns mainGlobals mg)
    {f_l_jar : Addr} {o_l_jar n_l_jar : Option Addr} {v_l_jar : Array (Option Value)} {c_l_jar k_l_jar e_l_jar m_l_jar r_l_jar t_l_jar : Value}
    (xa_l_jar : PySem.W.nsIn K mainGlobals "_law_jar" = some (some (.ref f_l_jar))) (xl_l_jar : K.lookup f_l_jar = some ⟨c_l_jar, o_l_jar, .func (PySem.W.fnOf "_law_jar" "_law_jar" (defArgs s_l_jar) (defBody s_l_jar) (defScope s_l_jar) .none k_l_jar e_l_jar m_l_jar n_l_jar r_l_jar t_l_jar), v_l_jar⟩) (xc_l_jar : PySem.W.codeIn K r_l_jar "_law_jar" = true) (xk_l_jar : PySem.W.keepIn K (.ref f_l_jar) = true)
    {f_l_draw : Addr} {o_l_draw n_l_draw : Option Addr} {v_l_draw : Array (Option Value)} {c_l_draw k_l_draw e_l_draw m_l_draw r_l_draw t_l_draw : Value}
    (xa_l_draw : PySem.W.nsIn K mainGlobals "_law_draw" = some (some (.ref f_l_draw))) (xl_l_draw : K.lookup f_l_draw = some ⟨c_l_draw, o_l_draw, .func (PySem.W.fnOf "_law_draw" "_law_draw" (defArgs s_l_draw) (defBody s_l_draw) (defScope s_l_draw) .none k_l_draw e_l_draw m_l_draw n_l_draw r_l_draw t_l_draw), v_l_draw⟩) (xc_l_draw : PySem.W.codeIn K r_l_draw "_law_draw" = true) (xk_l_draw : PySem.W.keepIn K (.ref f_l_draw) = true)
    {f_l_shuffled : Addr} {o_l_shuffled n_l_shuffled : Option Addr} {v_l_shuffled : Array (Option Value)} {c_l_shuffled k_l_shuffled e_l_shuffled m_l_shuffled r_l_shuffled t_l_shuffled : Value}
    (xa_l_shuffled : PySem.W.nsIn K mainGlobals "_law_shuffled" = some (some (.ref f_l_shuffled))) (xl_l_shuffled : K.lookup f_l_shuffled = some ⟨c_l_shuffled, o_l_shuffled, .func (PySem.W.fnOf "_law_shuffled" "_law_shuffled" (defArgs s_l_shuffled) (defBody s_l_shuffled) (defScope s_l_shuffled) .none k_l_shuffled e_l_shuffled m_l_shuffled n_l_shuffled r_l_shuffled t_l_shuffled), v_l_shuffled⟩) (xc_l_shuffled : PySem.W.codeIn K r_l_shuffled "_law_shuffled" = true) (xk_l_shuffled : PySem.W.keepIn K (.ref f_l_shuffled) = true)
    {f_two_rows : Addr} {o_two_rows n_two_rows : Option Addr} {v_two_rows : Array (Option Value)} {c_two_rows k_two_rows e_two_rows m_two_rows r_two_rows t_two_rows : Value}
    (xa_two_rows : PySem.W.nsIn K mainGlobals "two_rows" = some (some (.ref f_two_rows))) (xl_two_rows : K.lookup f_two_rows = some ⟨c_two_rows, o_two_rows, .func (PySem.W.fnOf "two_rows" "two_rows" (defArgs s_two_rows) (defBody s_two_rows) (defScope s_two_rows) .none k_two_rows e_two_rows m_two_rows n_two_rows r_two_rows t_two_rows), v_two_rows⟩) (xc_two_rows : PySem.W.codeIn K r_two_rows "two_rows" = true) (xk_two_rows : PySem.W.keepIn K (.ref f_two_rows) = true)
    {f_l_pool : Addr} {o_l_pool n_l_pool : Option Addr} {v_l_pool : Array (Option Value)} {c_l_pool k_l_pool e_l_pool m_l_pool r_l_pool t_l_pool : Value}
    (xa_l_pool : PySem.W.nsIn K mainGlobals "_law_pool" = some (some (.ref f_l_pool))) (xl_l_pool : K.lookup f_l_pool = some ⟨c_l_pool, o_l_pool, .func (PySem.W.fnOf "_law_pool" "_law_pool" (defArgs s_l_pool) (defBody s_l_pool) (defScope s_l_pool) .none k_l_pool e_l_pool m_l_pool n_l_pool r_l_pool t_l_pool), v_l_pool⟩) (xc_l_pool : PySem.W.codeIn K r_l_pool "_law_pool" = true) (xk_l_pool : PySem.W.keepIn K (.ref f_l_pool) = true)
    {f_l_same : Addr} {o_l_same n_l_same : Option Addr} {v_l_same : Array (Option Value)} {c_l_same k_l_same e_l_same m_l_same r_l_same t_l_same : Value}
    (xa_l_same : PySem.W.nsIn K mainGlobals "_law_same" = some (some (.ref f_l_same))) (xl_l_same : K.lookup f_l_same = some ⟨c_l_same, o_l_same, .func (PySem.W.fnOf "_law_same" "_law_same" (defArgs s_l_same) (defBody s_l_same) (defScope s_l_same) .none k_l_same e_l_same m_l_same n_l_same r_l_same t_l_same), v_l_same⟩) (xc_l_same : PySem.W.codeIn K r_l_same "_law_same" = true) (xk_l_same : PySem.W.keepIn K (.ref f_l_same) = true)
    {f_l_two : Addr} {o_l_two n_l_two : Option Addr} {v_l_two : Array (Option Value)} {c_l_two k_l_two e_l_two m_l_two r_l_two t_l_two : Value}
    (xa_l_two : PySem.W.nsIn K mainGlobals "_law_two" = some (some (.ref f_l_two))) (xl_l_two : K.lookup f_l_two = some ⟨c_l_two, o_l_two, .func (PySem.W.fnOf "_law_two" "_law_two" (defArgs s_l_two) (defBody s_l_two) (defScope s_l_two) .none k_l_two e_l_two m_l_two n_l_two r_l_two t_l_two), v_l_two⟩) (xc_l_two : PySem.W.codeIn K r_l_two "_law_two" = true) (xk_l_two : PySem.W.keepIn K (.ref f_l_two) = true)
    {f_l_rows_of_changes : Addr} {o_l_rows_of_changes n_l_rows_of_changes : Option Addr} {v_l_rows_of_changes : Array (Option Value)} {c_l_rows_of_changes k_l_rows_of_changes e_l_rows_of_changes m_l_rows_of_changes r_l_rows_of_changes t_l_rows_of_changes : Value}
    (xa_l_rows_of_changes : PySem.W.nsIn K mainGlobals "_law_rows_of_changes" = some (some (.ref f_l_rows_of_changes))) (xl_l_rows_of_changes : K.lookup f_l_rows_of_changes = some ⟨c_l_rows_of_changes, o_l_rows_of_changes, .func (PySem.W.fnOf "_law_rows_of_changes" "_law_rows_of_changes" (defArgs s_l_rows_of_changes) (defBody s_l_rows_of_changes) (defScope s_l_rows_of_changes) .none k_l_rows_of_changes e_l_rows_of_changes m_l_rows_of_changes n_l_rows_of_changes r_l_rows_of_changes t_l_rows_of_changes), v_l_rows_of_changes⟩) (xc_l_rows_of_changes : PySem.W.codeIn K r_l_rows_of_changes "_law_rows_of_changes" = true) (xk_l_rows_of_changes : PySem.W.keepIn K (.ref f_l_rows_of_changes) = true)
    {f_changes_of : Addr} {o_changes_of n_changes_of : Option Addr} {v_changes_of : Array (Option Value)} {c_changes_of k_changes_of e_changes_of m_changes_of r_changes_of t_changes_of : Value}
    (xa_changes_of : PySem.W.nsIn K mainGlobals "changes_of" = some (some (.ref f_changes_of))) (xl_changes_of : K.lookup f_changes_of = some ⟨c_changes_of, o_changes_of, .func (PySem.W.fnOf "changes_of" "changes_of" (defArgs s_changes_of) (defBody s_changes_of) (defScope s_changes_of) .none k_changes_of e_changes_of m_changes_of n_changes_of r_changes_of t_changes_of), v_changes_of⟩) (xc_changes_of : PySem.W.codeIn K r_changes_of "changes_of" = true) (xk_changes_of : PySem.W.keepIn K (.ref f_changes_of) = true)
    {f_l_of : Addr} {o_l_of n_l_of : Option Addr} {v_l_of : Array (Option Value)} {c_l_of k_l_of e_l_of m_l_of r_l_of t_l_of : Value}
    (xa_l_of : PySem.W.nsIn K mainGlobals "_law_of" = some (some (.ref f_l_of))) (xl_l_of : K.lookup f_l_of = some ⟨c_l_of, o_l_of, .func (PySem.W.fnOf "_law_of" "_law_of" (defArgs s_l_of) (defBody s_l_of) (defScope s_l_of) .none k_l_of e_l_of m_l_of n_l_of r_l_of t_l_of), v_l_of⟩) (xc_l_of : PySem.W.codeIn K r_l_of "_law_of" = true) (xk_l_of : PySem.W.keepIn K (.ref f_l_of) = true)
    {f_l_kinds : Addr} {o_l_kinds n_l_kinds : Option Addr} {v_l_kinds : Array (Option Value)} {c_l_kinds k_l_kinds e_l_kinds m_l_kinds r_l_kinds t_l_kinds : Value}
    (xa_l_kinds : PySem.W.nsIn K mainGlobals "_law_kinds" = some (some (.ref f_l_kinds))) (xl_l_kinds : K.lookup f_l_kinds = some ⟨c_l_kinds, o_l_kinds, .func (PySem.W.fnOf "_law_kinds" "_law_kinds" (defArgs s_l_kinds) (defBody s_l_kinds) (defScope s_l_kinds) .none k_l_kinds e_l_kinds m_l_kinds n_l_kinds r_l_kinds t_l_kinds), v_l_kinds⟩) (xc_l_kinds : PySem.W.codeIn K r_l_kinds "_law_kinds" = true) (xk_l_kinds : PySem.W.keepIn K (.ref f_l_kinds) = true)
    {f_with_change : Addr} {o_with_change n_with_change : Option Addr} {v_with_change : Array (Option Value)} {c_with_change k_with_change e_with_change m_with_change r_with_change t_with_change : Value}
    (xa_with_change : PySem.W.nsIn K mainGlobals "with_change" = some (some (.ref f_with_change))) (xl_with_change : K.lookup f_with_change = some ⟨c_with_change, o_with_change, .func (PySem.W.fnOf "with_change" "with_change" (defArgs s_with_change) (defBody s_with_change) (defScope s_with_change) .none k_with_change e_with_change m_with_change n_with_change r_with_change t_with_change), v_with_change⟩) (xc_with_change : PySem.W.codeIn K r_with_change "with_change" = true) (xk_with_change : PySem.W.keepIn K (.ref f_with_change) = true)
    {f_without_change : Addr} {o_without_change n_without_change : Option Addr} {v_without_change : Array (Option Value)} {c_without_change k_without_change e_without_change m_without_change r_without_change t_without_change : Value}
    (xa_without_change : PySem.W.nsIn K mainGlobals "without_change" = some (some (.ref f_without_change))) (xl_without_change : K.lookup f_without_change = some ⟨c_without_change, o_without_change, .func (PySem.W.fnOf "without_change" "without_change" (defArgs s_without_change) (defBody s_without_change) (defScope s_without_change) .none k_without_change e_without_change m_without_change n_without_change r_without_change t_without_change), v_without_change⟩) (xc_without_change : PySem.W.codeIn K r_without_change "without_change" = true) (xk_without_change : PySem.W.keepIn K (.ref f_without_change) = true)
    {f_l_more : Addr} {o_l_more n_l_more : Option Addr} {v_l_more : Array (Option Value)} {c_l_more k_l_more e_l_more m_l_more r_l_more t_l_more : Value}
    (xa_l_more : PySem.W.nsIn K mainGlobals "_law_more" = some (some (.ref f_l_more))) (xl_l_more : K.lookup f_l_more = some ⟨c_l_more, o_l_more, .func (PySem.W.fnOf "_law_more" "_law_more" (defArgs s_l_more) (defBody s_l_more) (defScope s_l_more) .none k_l_more e_l_more m_l_more n_l_more r_l_more t_l_more), v_l_more⟩) (xc_l_more : PySem.W.codeIn K r_l_more "_law_more" = true) (xk_l_more : PySem.W.keepIn K (.ref f_l_more) = true)
    {f_l_less : Addr} {o_l_less n_l_less : Option Addr} {v_l_less : Array (Option Value)} {c_l_less k_l_less e_l_less m_l_less r_l_less t_l_less : Value}
    (xa_l_less : PySem.W.nsIn K mainGlobals "_law_less" = some (some (.ref f_l_less))) (xl_l_less : K.lookup f_l_less = some ⟨c_l_less, o_l_less, .func (PySem.W.fnOf "_law_less" "_law_less" (defArgs s_l_less) (defBody s_l_less) (defScope s_l_less) .none k_l_less e_l_less m_l_less n_l_less r_l_less t_l_less), v_l_less⟩) (xc_l_less : PySem.W.codeIn K r_l_less "_law_less" = true) (xk_l_less : PySem.W.keepIn K (.ref f_l_less) = true)
    {f_l_fewer : Addr} {o_l_fewer n_l_fewer : Option Addr} {v_l_fewer : Array (Option Value)} {c_l_fewer k_l_fewer e_l_fewer m_l_fewer r_l_fewer t_l_fewer : Value}
    (xa_l_fewer : PySem.W.nsIn K mainGlobals "_law_fewer" = some (some (.ref f_l_fewer))) (xl_l_fewer : K.lookup f_l_fewer = some ⟨c_l_fewer, o_l_fewer, .func (PySem.W.fnOf "_law_fewer" "_law_fewer" (defArgs s_l_fewer) (defBody s_l_fewer) (defScope s_l_fewer) .none k_l_fewer e_l_fewer m_l_fewer n_l_fewer r_l_fewer t_l_fewer), v_l_fewer⟩) (xc_l_fewer : PySem.W.codeIn K r_l_fewer "_law_fewer" = true) (xk_l_fewer : PySem.W.keepIn K (.ref f_l_fewer) = true)
    {f_carried_change : Addr} {o_carried_change n_carried_change : Option Addr} {v_carried_change : Array (Option Value)} {c_carried_change k_carried_change e_carried_change m_carried_change r_carried_change t_carried_change : Value}
    (xa_carried_change : PySem.W.nsIn K mainGlobals "carried_change" = some (some (.ref f_carried_change))) (xl_carried_change : K.lookup f_carried_change = some ⟨c_carried_change, o_carried_change, .func (PySem.W.fnOf "carried_change" "carried_change" (defArgs s_carried_change) (defBody s_carried_change) (defScope s_carried_change) .none k_carried_change e_carried_change m_carried_change n_carried_change r_carried_change t_carried_change), v_carried_change⟩) (xc_carried_change : PySem.W.codeIn K r_carried_change "carried_change" = true) (xk_carried_change : PySem.W.keepIn K (.ref f_carried_change) = true)
    {f_carried_setting : Addr} {o_carried_setting n_carried_setting : Option Addr} {v_carried_setting : Array (Option Value)} {c_carried_setting k_carried_setting e_carried_setting m_carried_setting r_carried_setting t_carried_setting : Value}
    (xa_carried_setting : PySem.W.nsIn K mainGlobals "carried_setting" = some (some (.ref f_carried_setting))) (xl_carried_setting : K.lookup f_carried_setting = some ⟨c_carried_setting, o_carried_setting, .func (PySem.W.fnOf "carried_setting" "carried_setting" (defArgs s_carried_setting) (defBody s_carried_setting) (defScope s_carried_setting) .none k_carried_setting e_carried_setting m_carried_setting n_carried_setting r_carried_setting t_carried_setting), v_carried_setting⟩) (xc_carried_setting : PySem.W.codeIn K r_carried_setting "carried_setting" = true) (xk_carried_setting : PySem.W.keepIn K (.ref f_carried_setting) = true)
    {f_l_carried : Addr} {o_l_carried n_l_carried : Option Addr} {v_l_carried : Array (Option Value)} {c_l_carried k_l_carried e_l_carried m_l_carried r_l_carried t_l_carried : Value}
    (xa_l_carried : PySem.W.nsIn K mainGlobals "_law_carried" = some (some (.ref f_l_carried))) (xl_l_carried : K.lookup f_l_carried = some ⟨c_l_carried, o_l_carried, .func (PySem.W.fnOf "_law_carried" "_law_carried" (defArgs s_l_carried) (defBody s_l_carried) (defScope s_l_carried) .none k_l_carried e_l_carried m_l_carried n_l_carried r_l_carried t_l_carried), v_l_carried⟩) (xc_l_carried : PySem.W.codeIn K r_l_carried "_law_carried" = true) (xk_l_carried : PySem.W.keepIn K (.ref f_l_carried) = true)
    {f_l_back : Addr} {o_l_back n_l_back : Option Addr} {v_l_back : Array (Option Value)} {c_l_back k_l_back e_l_back m_l_back r_l_back t_l_back : Value}
    (xa_l_back : PySem.W.nsIn K mainGlobals "_law_back" = some (some (.ref f_l_back))) (xl_l_back : K.lookup f_l_back = some ⟨c_l_back, o_l_back, .func (PySem.W.fnOf "_law_back" "_law_back" (defArgs s_l_back) (defBody s_l_back) (defScope s_l_back) .none k_l_back e_l_back m_l_back n_l_back r_l_back t_l_back), v_l_back⟩) (xc_l_back : PySem.W.codeIn K r_l_back "_law_back" = true) (xk_l_back : PySem.W.keepIn K (.ref f_l_back) = true)
    {f_l_moved : Addr} {o_l_moved n_l_moved : Option Addr} {v_l_moved : Array (Option Value)} {c_l_moved k_l_moved e_l_moved m_l_moved r_l_moved t_l_moved : Value}
    (xa_l_moved : PySem.W.nsIn K mainGlobals "_law_moved" = some (some (.ref f_l_moved))) (xl_l_moved : K.lookup f_l_moved = some ⟨c_l_moved, o_l_moved, .func (PySem.W.fnOf "_law_moved" "_law_moved" (defArgs s_l_moved) (defBody s_l_moved) (defScope s_l_moved) .none k_l_moved e_l_moved m_l_moved n_l_moved r_l_moved t_l_moved), v_l_moved⟩) (xc_l_moved : PySem.W.codeIn K r_l_moved "_law_moved" = true) (xk_l_moved : PySem.W.keepIn K (.ref f_l_moved) = true)
    {f_l_look : Addr} {o_l_look n_l_look : Option Addr} {v_l_look : Array (Option Value)} {c_l_look k_l_look e_l_look m_l_look r_l_look t_l_look : Value}
    (xa_l_look : PySem.W.nsIn K mainGlobals "_law_look" = some (some (.ref f_l_look))) (xl_l_look : K.lookup f_l_look = some ⟨c_l_look, o_l_look, .func (PySem.W.fnOf "_law_look" "_law_look" (defArgs s_l_look) (defBody s_l_look) (defScope s_l_look) .none k_l_look e_l_look m_l_look n_l_look r_l_look t_l_look), v_l_look⟩) (xc_l_look : PySem.W.codeIn K r_l_look "_law_look" = true) (xk_l_look : PySem.W.keepIn K (.ref f_l_look) = true)
    {f_l_barred : Addr} {o_l_barred n_l_barred : Option Addr} {v_l_barred : Array (Option Value)} {c_l_barred k_l_barred e_l_barred m_l_barred r_l_barred t_l_barred : Value}
    (xa_l_barred : PySem.W.nsIn K mainGlobals "_law_barred" = some (some (.ref f_l_barred))) (xl_l_barred : K.lookup f_l_barred = some ⟨c_l_barred, o_l_barred, .func (PySem.W.fnOf "_law_barred" "_law_barred" (defArgs s_l_barred) (defBody s_l_barred) (defScope s_l_barred) .none k_l_barred e_l_barred m_l_barred n_l_barred r_l_barred t_l_barred), v_l_barred⟩) (xc_l_barred : PySem.W.codeIn K r_l_barred "_law_barred" = true) (xk_l_barred : PySem.W.keepIn K (.ref f_l_barred) = true)
    {f_l_names : Addr} {o_l_names n_l_names : Option Addr} {v_l_names : Array (Option Value)} {c_l_names k_l_names e_l_names m_l_names r_l_names t_l_names : Value}
    (xa_l_names : PySem.W.nsIn K mainGlobals "_law_names" = some (some (.ref f_l_names))) (xl_l_names : K.lookup f_l_names = some ⟨c_l_names, o_l_names, .func (PySem.W.fnOf "_law_names" "_law_names" (defArgs s_l_names) (defBody s_l_names) (defScope s_l_names) .none k_l_names e_l_names m_l_names n_l_names r_l_names t_l_names), v_l_names⟩) (xc_l_names : PySem.W.codeIn K r_l_names "_law_names" = true) (xk_l_names : PySem.W.keepIn K (.ref f_l_names) = true)
    {f_l_setting : Addr} {o_l_setting n_l_setting : Option Addr} {v_l_setting : Array (Option Value)} {c_l_setting k_l_setting e_l_setting m_l_setting r_l_setting t_l_setting : Value}
    (xa_l_setting : PySem.W.nsIn K mainGlobals "_law_setting" = some (some (.ref f_l_setting))) (xl_l_setting : K.lookup f_l_setting = some ⟨c_l_setting, o_l_setting, .func (PySem.W.fnOf "_law_setting" "_law_setting" (defArgs s_l_setting) (defBody s_l_setting) (defScope s_l_setting) .none k_l_setting e_l_setting m_l_setting n_l_setting r_l_setting t_l_setting), v_l_setting⟩) (xc_l_setting : PySem.W.codeIn K r_l_setting "_law_setting" = true) (xk_l_setting : PySem.W.keepIn K (.ref f_l_setting) = true)
    {f_l_settings : Addr} {o_l_settings n_l_settings : Option Addr} {v_l_settings : Array (Option Value)} {c_l_settings k_l_settings e_l_settings m_l_settings r_l_settings t_l_settings : Value}
    (xa_l_settings : PySem.W.nsIn K mainGlobals "_law_settings" = some (some (.ref f_l_settings))) (xl_l_settings : K.lookup f_l_settings = some ⟨c_l_settings, o_l_settings, .func (PySem.W.fnOf "_law_settings" "_law_settings" (defArgs s_l_settings) (defBody s_l_settings) (defScope s_l_settings) .none k_l_settings e_l_settings m_l_settings n_l_settings r_l_settings t_l_settings), v_l_settings⟩) (xc_l_settings : PySem.W.codeIn K r_l_settings "_law_settings" = true) (xk_l_settings : PySem.W.keepIn K (.ref f_l_settings) = true)
    {f_law : Addr} {o_law n_law : Option Addr} {v_law : Array (Option Value)} {c_law k_law e_law m_law r_law t_law : Value}
    (xa_law : PySem.W.nsIn K mainGlobals "law" = some (some (.ref f_law))) (xl_law : K.lookup f_law = some ⟨c_law, o_law, .func (PySem.W.fnOf "law" "law" (defArgs s_law) (defBody s_law) (defScope s_law) .none k_law e_law m_law n_law r_law t_law), v_law⟩) (xc_law : PySem.W.codeIn K r_law "law" = true) (xk_law : PySem.W.keepIn K (.ref f_law) = true)
    (xz_abs : PySem.W.nsIn K mainGlobals "abs" = some none)
    (xz_bool : PySem.W.nsIn K mainGlobals "bool" = some none)
    (xz_enumerate : PySem.W.nsIn K mainGlobals "enumerate" = some none)
    (xz_int : PySem.W.nsIn K mainGlobals "int" = some none)
    (xz_isinstance : PySem.W.nsIn K mainGlobals "isinstance" = some none)
    (xz_len : PySem.W.nsIn K mainGlobals "len" = some none)
    (xz_list : PySem.W.nsIn K mainGlobals "list" = some none)
    (xz_range : PySem.W.nsIn K mainGlobals "range" = some none)
    (xz_sorted : PySem.W.nsIn K mainGlobals "sorted" = some none)
    (xz_str : PySem.W.nsIn K mainGlobals "str" = some none)
    (xz_tuple : PySem.W.nsIn K mainGlobals "tuple" = some none) : Tx K mg where
  a_l_jar := f_l_jar
  d_l_jar := _
  p_l_jar := ⟨fun_mk (st := s_l_jar) xl_l_jar xc_l_jar xk_l_jar, (fun_mk (st := s_l_jar) xl_l_jar xc_l_jar xk_l_jar).binds (ps := ["script"]) fun _ _ _ _ _ _ us hl => match us, hl with | [_], _ => rfl, PySem.W.mg_of X G xa_l_jar⟩
  a_l_draw := f_l_draw
  d_l_draw := _
  p_l_draw := ⟨fun_mk (st := s_l_draw) xl_l_draw xc_l_draw xk_l_draw, (fun_mk (st := s_l_draw) xl_l_draw xc_l_draw xk_l_draw).binds (ps := ["jar", "many"]) fun _ _ _ _ _ _ us hl => match us, hl with | [_, _], _ => rfl, PySem.W.mg_of X G xa_l_draw⟩
  a_l_shuffled := f_l_shuffled
  d_l_shuffled := _
  p_l_shuffled := ⟨fun_mk (st := s_l_shuffled) xl_l_shuffled xc_l_shuffled xk_l_shuffled, (fun_mk (st := s_l_shuffled) xl_l_shuffled xc_l_shuffled xk_l_shuffled).binds (ps := ["jar", "row"]) fun _ _ _ _ _ _ us hl => match us, hl with | [_, _], _ => rfl, PySem.W.mg_of X G xa_l_shuffled⟩
  a_two_rows := f_two_rows
  d_two_rows := _
  p_two_rows := ⟨fun_mk (st := s_two_rows) xl_two_rows xc_two_rows xk_two_rows, (fun_mk (st := s_two_rows) xl_two_rows xc_two_rows xk_two_rows).binds (ps := ["change"]) fun _ _ _ _ _ _ us hl => match us, hl with | [_], _ => rfl, PySem.W.mg_of X G xa_two_rows⟩
  a_l_pool := f_l_pool
  d_l_pool := _
  p_l_pool := ⟨fun_mk (st := s_l_pool) xl_l_pool xc_l_pool xk_l_pool, (fun_mk (st := s_l_pool) xl_l_pool xc_l_pool xk_l_pool).binds (ps := ["many"]) fun _ _ _ _ _ _ us hl => match us, hl with | [_], _ => rfl, PySem.W.mg_of X G xa_l_pool⟩
  a_l_same := f_l_same
  d_l_same := _
  p_l_same := ⟨fun_mk (st := s_l_same) xl_l_same xc_l_same xk_l_same, (fun_mk (st := s_l_same) xl_l_same xc_l_same xk_l_same).binds (ps := ["one", "other"]) fun _ _ _ _ _ _ us hl => match us, hl with | [_, _], _ => rfl, PySem.W.mg_of X G xa_l_same⟩
  a_l_two := f_l_two
  d_l_two := _
  p_l_two := ⟨fun_mk (st := s_l_two) xl_l_two xc_l_two xk_l_two, (fun_mk (st := s_l_two) xl_l_two xc_l_two xk_l_two).binds (ps := ["change"]) fun _ _ _ _ _ _ us hl => match us, hl with | [_], _ => rfl, PySem.W.mg_of X G xa_l_two⟩
  a_l_rows_of_changes := f_l_rows_of_changes
  d_l_rows_of_changes := _
  p_l_rows_of_changes := ⟨fun_mk (st := s_l_rows_of_changes) xl_l_rows_of_changes xc_l_rows_of_changes xk_l_rows_of_changes, (fun_mk (st := s_l_rows_of_changes) xl_l_rows_of_changes xc_l_rows_of_changes xk_l_rows_of_changes).binds (ps := ["jar"]) fun _ _ _ _ _ _ us hl => match us, hl with | [_], _ => rfl, PySem.W.mg_of X G xa_l_rows_of_changes⟩
  a_changes_of := f_changes_of
  d_changes_of := _
  p_changes_of := ⟨fun_mk (st := s_changes_of) xl_changes_of xc_changes_of xk_changes_of, (fun_mk (st := s_changes_of) xl_changes_of xc_changes_of xk_changes_of).binds (ps := ["setting", "kind"]) fun _ _ _ _ _ _ us hl => match us, hl with | [_, _], _ => rfl, PySem.W.mg_of X G xa_changes_of⟩
  a_l_of := f_l_of
  d_l_of := _
  p_l_of := ⟨fun_mk (st := s_l_of) xl_l_of xc_l_of xk_l_of, (fun_mk (st := s_l_of) xl_l_of xc_l_of xk_l_of).binds (ps := ["setting", "kind"]) fun _ _ _ _ _ _ us hl => match us, hl with | [_, _], _ => rfl, PySem.W.mg_of X G xa_l_of⟩
  a_l_kinds := f_l_kinds
  d_l_kinds := _
  p_l_kinds := ⟨fun_mk (st := s_l_kinds) xl_l_kinds xc_l_kinds xk_l_kinds, (fun_mk (st := s_l_kinds) xl_l_kinds xc_l_kinds xk_l_kinds).binds (ps := ["jar", "setting"]) fun _ _ _ _ _ _ us hl => match us, hl with | [_, _], _ => rfl, PySem.W.mg_of X G xa_l_kinds⟩
  a_with_change := f_with_change
  d_with_change := _
  p_with_change := ⟨fun_mk (st := s_with_change) xl_with_change xc_with_change xk_with_change, (fun_mk (st := s_with_change) xl_with_change xc_with_change xk_with_change).binds (ps := ["setting", "change"]) fun _ _ _ _ _ _ us hl => match us, hl with | [_, _], _ => rfl, PySem.W.mg_of X G xa_with_change⟩
  a_without_change := f_without_change
  d_without_change := _
  p_without_change := ⟨fun_mk (st := s_without_change) xl_without_change xc_without_change xk_without_change, (fun_mk (st := s_without_change) xl_without_change xc_without_change xk_without_change).binds (ps := ["setting", "number"]) fun _ _ _ _ _ _ us hl => match us, hl with | [_, _], _ => rfl, PySem.W.mg_of X G xa_without_change⟩
  a_l_more := f_l_more
  d_l_more := _
  p_l_more := ⟨fun_mk (st := s_l_more) xl_l_more xc_l_more xk_l_more, (fun_mk (st := s_l_more) xl_l_more xc_l_more xk_l_more).binds (ps := ["jar", "setting"]) fun _ _ _ _ _ _ us hl => match us, hl with | [_, _], _ => rfl, PySem.W.mg_of X G xa_l_more⟩
  a_l_less := f_l_less
  d_l_less := _
  p_l_less := ⟨fun_mk (st := s_l_less) xl_l_less xc_l_less xk_l_less, (fun_mk (st := s_l_less) xl_l_less xc_l_less xk_l_less).binds (ps := ["setting", "number"]) fun _ _ _ _ _ _ us hl => match us, hl with | [_, _], _ => rfl, PySem.W.mg_of X G xa_l_less⟩
  a_l_fewer := f_l_fewer
  d_l_fewer := _
  p_l_fewer := ⟨fun_mk (st := s_l_fewer) xl_l_fewer xc_l_fewer xk_l_fewer, (fun_mk (st := s_l_fewer) xl_l_fewer xc_l_fewer xk_l_fewer).binds (ps := ["jar", "setting"]) fun _ _ _ _ _ _ us hl => match us, hl with | [_, _], _ => rfl, PySem.W.mg_of X G xa_l_fewer⟩
  a_carried_change := f_carried_change
  d_carried_change := _
  p_carried_change := ⟨fun_mk (st := s_carried_change) xl_carried_change xc_carried_change xk_carried_change, (fun_mk (st := s_carried_change) xl_carried_change xc_carried_change xk_carried_change).binds (ps := ["change", "places"]) fun _ _ _ _ _ _ us hl => match us, hl with | [_, _], _ => rfl, PySem.W.mg_of X G xa_carried_change⟩
  a_carried_setting := f_carried_setting
  d_carried_setting := _
  p_carried_setting := ⟨fun_mk (st := s_carried_setting) xl_carried_setting xc_carried_setting xk_carried_setting, (fun_mk (st := s_carried_setting) xl_carried_setting xc_carried_setting xk_carried_setting).binds (ps := ["setting", "places"]) fun _ _ _ _ _ _ us hl => match us, hl with | [_, _], _ => rfl, PySem.W.mg_of X G xa_carried_setting⟩
  a_l_carried := f_l_carried
  d_l_carried := _
  p_l_carried := ⟨fun_mk (st := s_l_carried) xl_l_carried xc_l_carried xk_l_carried, (fun_mk (st := s_l_carried) xl_l_carried xc_l_carried xk_l_carried).binds (ps := ["setting", "places"]) fun _ _ _ _ _ _ us hl => match us, hl with | [_, _], _ => rfl, PySem.W.mg_of X G xa_l_carried⟩
  a_l_back := f_l_back
  d_l_back := _
  p_l_back := ⟨fun_mk (st := s_l_back) xl_l_back xc_l_back xk_l_back, (fun_mk (st := s_l_back) xl_l_back xc_l_back xk_l_back).binds (ps := ["places"]) fun _ _ _ _ _ _ us hl => match us, hl with | [_], _ => rfl, PySem.W.mg_of X G xa_l_back⟩
  a_l_moved := f_l_moved
  d_l_moved := _
  p_l_moved := ⟨fun_mk (st := s_l_moved) xl_l_moved xc_l_moved xk_l_moved, (fun_mk (st := s_l_moved) xl_l_moved xc_l_moved xk_l_moved).binds (ps := ["jar", "setting"]) fun _ _ _ _ _ _ us hl => match us, hl with | [_, _], _ => rfl, PySem.W.mg_of X G xa_l_moved⟩
  a_l_look := f_l_look
  d_l_look := _
  p_l_look := ⟨fun_mk (st := s_l_look) xl_l_look xc_l_look xk_l_look, (fun_mk (st := s_l_look) xl_l_look xc_l_look xk_l_look).binds (ps := ["jar", "setting", "part"]) fun _ _ _ _ _ _ us hl => match us, hl with | [_, _, _], _ => rfl, PySem.W.mg_of X G xa_l_look⟩
  a_l_barred := f_l_barred
  d_l_barred := _
  p_l_barred := ⟨fun_mk (st := s_l_barred) xl_l_barred xc_l_barred xk_l_barred, (fun_mk (st := s_l_barred) xl_l_barred xc_l_barred xk_l_barred).binds (ps := []) fun _ _ _ _ _ _ us hl => match us, hl with | [], _ => rfl, PySem.W.mg_of X G xa_l_barred⟩
  a_l_names := f_l_names
  d_l_names := _
  p_l_names := ⟨fun_mk (st := s_l_names) xl_l_names xc_l_names xk_l_names, (fun_mk (st := s_l_names) xl_l_names xc_l_names xk_l_names).binds (ps := ["jar", "many"]) fun _ _ _ _ _ _ us hl => match us, hl with | [_, _], _ => rfl, PySem.W.mg_of X G xa_l_names⟩
  a_l_setting := f_l_setting
  d_l_setting := _
  p_l_setting := ⟨fun_mk (st := s_l_setting) xl_l_setting xc_l_setting xk_l_setting, (fun_mk (st := s_l_setting) xl_l_setting xc_l_setting xk_l_setting).binds (ps := ["jar", "many", "size"]) fun _ _ _ _ _ _ us hl => match us, hl with | [_, _, _], _ => rfl, PySem.W.mg_of X G xa_l_setting⟩
  a_l_settings := f_l_settings
  d_l_settings := _
  p_l_settings := ⟨fun_mk (st := s_l_settings) xl_l_settings xc_l_settings xk_l_settings, (fun_mk (st := s_l_settings) xl_l_settings xc_l_settings xk_l_settings).binds (ps := ["jar"]) fun _ _ _ _ _ _ us hl => match us, hl with | [_], _ => rfl, PySem.W.mg_of X G xa_l_settings⟩
  a_law := f_law
  d_law := _
  p_law := ⟨fun_mk (st := s_law) xl_law xc_law xk_law, (fun_mk (st := s_law) xl_law xc_law xk_law).binds (ps := ["script"]) fun _ _ _ _ _ _ us hl => match us, hl with | [_], _ => rfl, PySem.W.mg_of X G xa_law⟩
  z_abs := PySem.W.mg_none_of X G xz_abs
  z_bool := PySem.W.mg_none_of X G xz_bool
  z_enumerate := PySem.W.mg_none_of X G xz_enumerate
  z_int := PySem.W.mg_none_of X G xz_int
  z_isinstance := PySem.W.mg_none_of X G xz_isinstance
  z_len := PySem.W.mg_none_of X G xz_len
  z_list := PySem.W.mg_none_of X G xz_list
  z_range := PySem.W.mg_none_of X G xz_range
  z_sorted := PySem.W.mg_none_of X G xz_sorted
  z_str := PySem.W.mg_none_of X G xz_str
  z_tuple := PySem.W.mg_none_of X G xz_tuple
theorem all_mk {l : PySem.W.OpenLaw} {w : World} {K : PySem.W.Frag} {h : Heap} {mg : Str → Option Value} {fa : Addr} (X : K.In h) (G : h.Ns mainGlobals mg) (hfa : mg "law" = some (.ref fa))
    {f_l_jar : Addr} {o_l_jar n_l_jar : Option Addr} {v_l_jar : Array (Option Value)} {c_l_jar k_l_jar e_l_jar m_l_jar r_l_jar t_l_jar : Value}
    (xa_l_jar : PySem.W.nsIn K mainGlobals "_law_jar" = some (some (.ref f_l_jar))) (xl_l_jar : K.lookup f_l_jar = some ⟨c_l_jar, o_l_jar, .func (PySem.W.fnOf "_law_jar" "_law_jar" (defArgs s_l_jar) (defBody s_l_jar) (defScope s_l_jar) .none k_l_jar e_l_jar m_l_jar n_l_jar r_l_jar t_l_jar), v_l_jar⟩) (xc_l_jar : PySem.W.codeIn K r_l_jar "_law_jar" = true) (xk_l_jar : PySem.W.keepIn K (.ref f_l_jar) = true)
    {f_l_draw : Addr} {o_l_draw n_l_draw : Option Addr} {v_l_draw : Array (Option Value)} {c_l_draw k_l_draw e_l_draw m_l_draw r_l_draw t_l_draw : Value}
    (xa_l_draw : PySem.W.nsIn K mainGlobals "_law_draw" = some (some (.ref f_l_draw))) (xl_l_draw : K.lookup f_l_draw = some ⟨c_l_draw, o_l_draw, .func (PySem.W.fnOf "_law_draw" "_law_draw" (defArgs s_l_draw) (defBody s_l_draw) (defScope s_l_draw) .none k_l_draw e_l_draw m_l_draw n_l_draw r_l_draw t_l_draw), v_l_draw⟩) (xc_l_draw : PySem.W.codeIn K r_l_draw "_law_draw" = true) (xk_l_draw : PySem.W.keepIn K (.ref f_l_draw) = true)
    {f_l_shuffled : Addr} {o_l_shuffled n_l_shuffled : Option Addr} {v_l_shuffled : Array (Option Value)} {c_l_shuffled k_l_shuffled e_l_shuffled m_l_shuffled r_l_shuffled t_l_shuffled : Value}
    (xa_l_shuffled : PySem.W.nsIn K mainGlobals "_law_shuffled" = some (some (.ref f_l_shuffled))) (xl_l_shuffled : K.lookup f_l_shuffled = some ⟨c_l_shuffled, o_l_shuffled, .func (PySem.W.fnOf "_law_shuffled" "_law_shuffled" (defArgs s_l_shuffled) (defBody s_l_shuffled) (defScope s_l_shuffled) .none k_l_shuffled e_l_shuffled m_l_shuffled n_l_shuffled r_l_shuffled t_l_shuffled), v_l_shuffled⟩) (xc_l_shuffled : PySem.W.codeIn K r_l_shuffled "_law_shuffled" = true) (xk_l_shuffled : PySem.W.keepIn K (.ref f_l_shuffled) = true)
    {f_two_rows : Addr} {o_two_rows n_two_rows : Option Addr} {v_two_rows : Array (Option Value)} {c_two_rows k_two_rows e_two_rows m_two_rows r_two_rows t_two_rows : Value}
    (xa_two_rows : PySem.W.nsIn K mainGlobals "two_rows" = some (some (.ref f_two_rows))) (xl_two_rows : K.lookup f_two_rows = some ⟨c_two_rows, o_two_rows, .func (PySem.W.fnOf "two_rows" "two_rows" (defArgs s_two_rows) (defBody s_two_rows) (defScope s_two_rows) .none k_two_rows e_two_rows m_two_rows n_two_rows r_two_rows t_two_rows), v_two_rows⟩) (xc_two_rows : PySem.W.codeIn K r_two_rows "two_rows" = true) (xk_two_rows : PySem.W.keepIn K (.ref f_two_rows) = true)
    {f_l_pool : Addr} {o_l_pool n_l_pool : Option Addr} {v_l_pool : Array (Option Value)} {c_l_pool k_l_pool e_l_pool m_l_pool r_l_pool t_l_pool : Value}
    (xa_l_pool : PySem.W.nsIn K mainGlobals "_law_pool" = some (some (.ref f_l_pool))) (xl_l_pool : K.lookup f_l_pool = some ⟨c_l_pool, o_l_pool, .func (PySem.W.fnOf "_law_pool" "_law_pool" (defArgs s_l_pool) (defBody s_l_pool) (defScope s_l_pool) .none k_l_pool e_l_pool m_l_pool n_l_pool r_l_pool t_l_pool), v_l_pool⟩) (xc_l_pool : PySem.W.codeIn K r_l_pool "_law_pool" = true) (xk_l_pool : PySem.W.keepIn K (.ref f_l_pool) = true)
    {f_l_same : Addr} {o_l_same n_l_same : Option Addr} {v_l_same : Array (Option Value)} {c_l_same k_l_same e_l_same m_l_same r_l_same t_l_same : Value}
    (xa_l_same : PySem.W.nsIn K mainGlobals "_law_same" = some (some (.ref f_l_same))) (xl_l_same : K.lookup f_l_same = some ⟨c_l_same, o_l_same, .func (PySem.W.fnOf "_law_same" "_law_same" (defArgs s_l_same) (defBody s_l_same) (defScope s_l_same) .none k_l_same e_l_same m_l_same n_l_same r_l_same t_l_same), v_l_same⟩) (xc_l_same : PySem.W.codeIn K r_l_same "_law_same" = true) (xk_l_same : PySem.W.keepIn K (.ref f_l_same) = true)
    {f_l_two : Addr} {o_l_two n_l_two : Option Addr} {v_l_two : Array (Option Value)} {c_l_two k_l_two e_l_two m_l_two r_l_two t_l_two : Value}
    (xa_l_two : PySem.W.nsIn K mainGlobals "_law_two" = some (some (.ref f_l_two))) (xl_l_two : K.lookup f_l_two = some ⟨c_l_two, o_l_two, .func (PySem.W.fnOf "_law_two" "_law_two" (defArgs s_l_two) (defBody s_l_two) (defScope s_l_two) .none k_l_two e_l_two m_l_two n_l_two r_l_two t_l_two), v_l_two⟩) (xc_l_two : PySem.W.codeIn K r_l_two "_law_two" = true) (xk_l_two : PySem.W.keepIn K (.ref f_l_two) = true)
    {f_l_rows_of_changes : Addr} {o_l_rows_of_changes n_l_rows_of_changes : Option Addr} {v_l_rows_of_changes : Array (Option Value)} {c_l_rows_of_changes k_l_rows_of_changes e_l_rows_of_changes m_l_rows_of_changes r_l_rows_of_changes t_l_rows_of_changes : Value}
    (xa_l_rows_of_changes : PySem.W.nsIn K mainGlobals "_law_rows_of_changes" = some (some (.ref f_l_rows_of_changes))) (xl_l_rows_of_changes : K.lookup f_l_rows_of_changes = some ⟨c_l_rows_of_changes, o_l_rows_of_changes, .func (PySem.W.fnOf "_law_rows_of_changes" "_law_rows_of_changes" (defArgs s_l_rows_of_changes) (defBody s_l_rows_of_changes) (defScope s_l_rows_of_changes) .none k_l_rows_of_changes e_l_rows_of_changes m_l_rows_of_changes n_l_rows_of_changes r_l_rows_of_changes t_l_rows_of_changes), v_l_rows_of_changes⟩) (xc_l_rows_of_changes : PySem.W.codeIn K r_l_rows_of_changes "_law_rows_of_changes" = true) (xk_l_rows_of_changes : PySem.W.keepIn K (.ref f_l_rows_of_changes) = true)
    {f_changes_of : Addr} {o_changes_of n_changes_of : Option Addr} {v_changes_of : Array (Option Value)} {c_changes_of k_changes_of e_changes_of m_changes_of r_changes_of t_changes_of : Value}
    (xa_changes_of : PySem.W.nsIn K mainGlobals "changes_of" = some (some (.ref f_changes_of))) (xl_changes_of : K.lookup f_changes_of = some ⟨c_changes_of, o_changes_of, .func (PySem.W.fnOf "changes_of" "changes_of" (defArgs s_changes_of) (defBody s_changes_of) (defScope s_changes_of) .none k_changes_of e_changes_of m_changes_of n_changes_of r_changes_of t_changes_of), v_changes_of⟩) (xc_changes_of : PySem.W.codeIn K r_changes_of "changes_of" = true) (xk_changes_of : PySem.W.keepIn K (.ref f_changes_of) = true)
    {f_l_of : Addr} {o_l_of n_l_of : Option Addr} {v_l_of : Array (Option Value)} {c_l_of k_l_of e_l_of m_l_of r_l_of t_l_of : Value}
    (xa_l_of : PySem.W.nsIn K mainGlobals "_law_of" = some (some (.ref f_l_of))) (xl_l_of : K.lookup f_l_of = some ⟨c_l_of, o_l_of, .func (PySem.W.fnOf "_law_of" "_law_of" (defArgs s_l_of) (defBody s_l_of) (defScope s_l_of) .none k_l_of e_l_of m_l_of n_l_of r_l_of t_l_of), v_l_of⟩) (xc_l_of : PySem.W.codeIn K r_l_of "_law_of" = true) (xk_l_of : PySem.W.keepIn K (.ref f_l_of) = true)
    {f_l_kinds : Addr} {o_l_kinds n_l_kinds : Option Addr} {v_l_kinds : Array (Option Value)} {c_l_kinds k_l_kinds e_l_kinds m_l_kinds r_l_kinds t_l_kinds : Value}
    (xa_l_kinds : PySem.W.nsIn K mainGlobals "_law_kinds" = some (some (.ref f_l_kinds))) (xl_l_kinds : K.lookup f_l_kinds = some ⟨c_l_kinds, o_l_kinds, .func (PySem.W.fnOf "_law_kinds" "_law_kinds" (defArgs s_l_kinds) (defBody s_l_kinds) (defScope s_l_kinds) .none k_l_kinds e_l_kinds m_l_kinds n_l_kinds r_l_kinds t_l_kinds), v_l_kinds⟩) (xc_l_kinds : PySem.W.codeIn K r_l_kinds "_law_kinds" = true) (xk_l_kinds : PySem.W.keepIn K (.ref f_l_kinds) = true)
    {f_with_change : Addr} {o_with_change n_with_change : Option Addr} {v_with_change : Array (Option Value)} {c_with_change k_with_change e_with_change m_with_change r_with_change t_with_change : Value}
    (xa_with_change : PySem.W.nsIn K mainGlobals "with_change" = some (some (.ref f_with_change))) (xl_with_change : K.lookup f_with_change = some ⟨c_with_change, o_with_change, .func (PySem.W.fnOf "with_change" "with_change" (defArgs s_with_change) (defBody s_with_change) (defScope s_with_change) .none k_with_change e_with_change m_with_change n_with_change r_with_change t_with_change), v_with_change⟩) (xc_with_change : PySem.W.codeIn K r_with_change "with_change" = true) (xk_with_change : PySem.W.keepIn K (.ref f_with_change) = true)
    {f_without_change : Addr} {o_without_change n_without_change : Option Addr} {v_without_change : Array (Option Value)} {c_without_change k_without_change e_without_change m_without_change r_without_change t_without_change : Value}
    (xa_without_change : PySem.W.nsIn K mainGlobals "without_change" = some (some (.ref f_without_change))) (xl_without_change : K.lookup f_without_change = some ⟨c_without_change, o_without_change, .func (PySem.W.fnOf "without_change" "without_change" (defArgs s_without_change) (defBody s_without_change) (defScope s_without_change) .none k_without_change e_without_change m_without_change n_without_change r_without_change t_without_change), v_without_change⟩) (xc_without_change : PySem.W.codeIn K r_without_change "without_change" = true) (xk_without_change : PySem.W.keepIn K (.ref f_without_change) = true)
    {f_l_more : Addr} {o_l_more n_l_more : Option Addr} {v_l_more : Array (Option Value)} {c_l_more k_l_more e_l_more m_l_more r_l_more t_l_more : Value}
    (xa_l_more : PySem.W.nsIn K mainGlobals "_law_more" = some (some (.ref f_l_more))) (xl_l_more : K.lookup f_l_more = some ⟨c_l_more, o_l_more, .func (PySem.W.fnOf "_law_more" "_law_more" (defArgs s_l_more) (defBody s_l_more) (defScope s_l_more) .none k_l_more e_l_more m_l_more n_l_more r_l_more t_l_more), v_l_more⟩) (xc_l_more : PySem.W.codeIn K r_l_more "_law_more" = true) (xk_l_more : PySem.W.keepIn K (.ref f_l_more) = true)
    {f_l_less : Addr} {o_l_less n_l_less : Option Addr} {v_l_less : Array (Option Value)} {c_l_less k_l_less e_l_less m_l_less r_l_less t_l_less : Value}
    (xa_l_less : PySem.W.nsIn K mainGlobals "_law_less" = some (some (.ref f_l_less))) (xl_l_less : K.lookup f_l_less = some ⟨c_l_less, o_l_less, .func (PySem.W.fnOf "_law_less" "_law_less" (defArgs s_l_less) (defBody s_l_less) (defScope s_l_less) .none k_l_less e_l_less m_l_less n_l_less r_l_less t_l_less), v_l_less⟩) (xc_l_less : PySem.W.codeIn K r_l_less "_law_less" = true) (xk_l_less : PySem.W.keepIn K (.ref f_l_less) = true)
    {f_l_fewer : Addr} {o_l_fewer n_l_fewer : Option Addr} {v_l_fewer : Array (Option Value)} {c_l_fewer k_l_fewer e_l_fewer m_l_fewer r_l_fewer t_l_fewer : Value}
    (xa_l_fewer : PySem.W.nsIn K mainGlobals "_law_fewer" = some (some (.ref f_l_fewer))) (xl_l_fewer : K.lookup f_l_fewer = some ⟨c_l_fewer, o_l_fewer, .func (PySem.W.fnOf "_law_fewer" "_law_fewer" (defArgs s_l_fewer) (defBody s_l_fewer) (defScope s_l_fewer) .none k_l_fewer e_l_fewer m_l_fewer n_l_fewer r_l_fewer t_l_fewer), v_l_fewer⟩) (xc_l_fewer : PySem.W.codeIn K r_l_fewer "_law_fewer" = true) (xk_l_fewer : PySem.W.keepIn K (.ref f_l_fewer) = true)
    {f_carried_change : Addr} {o_carried_change n_carried_change : Option Addr} {v_carried_change : Array (Option Value)} {c_carried_change k_carried_change e_carried_change m_carried_change r_carried_change t_carried_change : Value}
    (xa_carried_change : PySem.W.nsIn K mainGlobals "carried_change" = some (some (.ref f_carried_change))) (xl_carried_change : K.lookup f_carried_change = some ⟨c_carried_change, o_carried_change, .func (PySem.W.fnOf "carried_change" "carried_change" (defArgs s_carried_change) (defBody s_carried_change) (defScope s_carried_change) .none k_carried_change e_carried_change m_carried_change n_carried_change r_carried_change t_carried_change), v_carried_change⟩) (xc_carried_change : PySem.W.codeIn K r_carried_change "carried_change" = true) (xk_carried_change : PySem.W.keepIn K (.ref f_carried_change) = true)
    {f_carried_setting : Addr} {o_carried_setting n_carried_setting : Option Addr} {v_carried_setting : Array (Option Value)} {c_carried_setting k_carried_setting e_carried_setting m_carried_setting r_carried_setting t_carried_setting : Value}
    (xa_carried_setting : PySem.W.nsIn K mainGlobals "carried_setting" = some (some (.ref f_carried_setting))) (xl_carried_setting : K.lookup f_carried_setting = some ⟨c_carried_setting, o_carried_setting, .func (PySem.W.fnOf "carried_setting" "carried_setting" (defArgs s_carried_setting) (defBody s_carried_setting) (defScope s_carried_setting) .none k_carried_setting e_carried_setting m_carried_setting n_carried_setting r_carried_setting t_carried_setting), v_carried_setting⟩) (xc_carried_setting : PySem.W.codeIn K r_carried_setting "carried_setting" = true) (xk_carried_setting : PySem.W.keepIn K (.ref f_carried_setting) = true)
    {f_l_carried : Addr} {o_l_carried n_l_carried : Option Addr} {v_l_carried : Array (Option Value)} {c_l_carried k_l_carried e_l_carried m_l_carried r_l_carried t_l_carried : Value}
    (xa_l_carried : PySem.W.nsIn K mainGlobals "_law_carried" = some (some (.ref f_l_carried))) (xl_l_carried : K.lookup f_l_carried = some ⟨c_l_carried, o_l_carried, .func (PySem.W.fnOf "_law_carried" "_law_carried" (defArgs s_l_carried) (defBody s_l_carried) (defScope s_l_carried) .none k_l_carried e_l_carried m_l_carried n_l_carried r_l_carried t_l_carried), v_l_carried⟩) (xc_l_carried : PySem.W.codeIn K r_l_carried "_law_carried" = true) (xk_l_carried : PySem.W.keepIn K (.ref f_l_carried) = true)
    {f_l_back : Addr} {o_l_back n_l_back : Option Addr} {v_l_back : Array (Option Value)} {c_l_back k_l_back e_l_back m_l_back r_l_back t_l_back : Value}
    (xa_l_back : PySem.W.nsIn K mainGlobals "_law_back" = some (some (.ref f_l_back))) (xl_l_back : K.lookup f_l_back = some ⟨c_l_back, o_l_back, .func (PySem.W.fnOf "_law_back" "_law_back" (defArgs s_l_back) (defBody s_l_back) (defScope s_l_back) .none k_l_back e_l_back m_l_back n_l_back r_l_back t_l_back), v_l_back⟩) (xc_l_back : PySem.W.codeIn K r_l_back "_law_back" = true) (xk_l_back : PySem.W.keepIn K (.ref f_l_back) = true)
    {f_l_moved : Addr} {o_l_moved n_l_moved : Option Addr} {v_l_moved : Array (Option Value)} {c_l_moved k_l_moved e_l_moved m_l_moved r_l_moved t_l_moved : Value}
    (xa_l_moved : PySem.W.nsIn K mainGlobals "_law_moved" = some (some (.ref f_l_moved))) (xl_l_moved : K.lookup f_l_moved = some ⟨c_l_moved, o_l_moved, .func (PySem.W.fnOf "_law_moved" "_law_moved" (defArgs s_l_moved) (defBody s_l_moved) (defScope s_l_moved) .none k_l_moved e_l_moved m_l_moved n_l_moved r_l_moved t_l_moved), v_l_moved⟩) (xc_l_moved : PySem.W.codeIn K r_l_moved "_law_moved" = true) (xk_l_moved : PySem.W.keepIn K (.ref f_l_moved) = true)
    {f_l_look : Addr} {o_l_look n_l_look : Option Addr} {v_l_look : Array (Option Value)} {c_l_look k_l_look e_l_look m_l_look r_l_look t_l_look : Value}
    (xa_l_look : PySem.W.nsIn K mainGlobals "_law_look" = some (some (.ref f_l_look))) (xl_l_look : K.lookup f_l_look = some ⟨c_l_look, o_l_look, .func (PySem.W.fnOf "_law_look" "_law_look" (defArgs s_l_look) (defBody s_l_look) (defScope s_l_look) .none k_l_look e_l_look m_l_look n_l_look r_l_look t_l_look), v_l_look⟩) (xc_l_look : PySem.W.codeIn K r_l_look "_law_look" = true) (xk_l_look : PySem.W.keepIn K (.ref f_l_look) = true)
    {f_l_barred : Addr} {o_l_barred n_l_barred : Option Addr} {v_l_barred : Array (Option Value)} {c_l_barred k_l_barred e_l_barred m_l_barred r_l_barred t_l_barred : Value}
    (xa_l_barred : PySem.W.nsIn K mainGlobals "_law_barred" = some (some (.ref f_l_barred))) (xl_l_barred : K.lookup f_l_barred = some ⟨c_l_barred, o_l_barred, .func (PySem.W.fnOf "_law_barred" "_law_barred" (defArgs s_l_barred) (defBody s_l_barred) (defScope s_l_barred) .none k_l_barred e_l_barred m_l_barred n_l_barred r_l_barred t_l_barred), v_l_barred⟩) (xc_l_barred : PySem.W.codeIn K r_l_barred "_law_barred" = true) (xk_l_barred : PySem.W.keepIn K (.ref f_l_barred) = true)
    {f_l_names : Addr} {o_l_names n_l_names : Option Addr} {v_l_names : Array (Option Value)} {c_l_names k_l_names e_l_names m_l_names r_l_names t_l_names : Value}
    (xa_l_names : PySem.W.nsIn K mainGlobals "_law_names" = some (some (.ref f_l_names))) (xl_l_names : K.lookup f_l_names = some ⟨c_l_names, o_l_names, .func (PySem.W.fnOf "_law_names" "_law_names" (defArgs s_l_names) (defBody s_l_names) (defScope s_l_names) .none k_l_names e_l_names m_l_names n_l_names r_l_names t_l_names), v_l_names⟩) (xc_l_names : PySem.W.codeIn K r_l_names "_law_names" = true) (xk_l_names : PySem.W.keepIn K (.ref f_l_names) = true)
    {f_l_setting : Addr} {o_l_setting n_l_setting : Option Addr} {v_l_setting : Array (Option Value)} {c_l_setting k_l_setting e_l_setting m_l_setting r_l_setting t_l_setting : Value}
    (xa_l_setting : PySem.W.nsIn K mainGlobals "_law_setting" = some (some (.ref f_l_setting))) (xl_l_setting : K.lookup f_l_setting = some ⟨c_l_setting, o_l_setting, .func (PySem.W.fnOf "_law_setting" "_law_setting" (defArgs s_l_setting) (defBody s_l_setting) (defScope s_l_setting) .none k_l_setting e_l_setting m_l_setting n_l_setting r_l_setting t_l_setting), v_l_setting⟩) (xc_l_setting : PySem.W.codeIn K r_l_setting "_law_setting" = true) (xk_l_setting : PySem.W.keepIn K (.ref f_l_setting) = true)
    {f_l_settings : Addr} {o_l_settings n_l_settings : Option Addr} {v_l_settings : Array (Option Value)} {c_l_settings k_l_settings e_l_settings m_l_settings r_l_settings t_l_settings : Value}
    (xa_l_settings : PySem.W.nsIn K mainGlobals "_law_settings" = some (some (.ref f_l_settings))) (xl_l_settings : K.lookup f_l_settings = some ⟨c_l_settings, o_l_settings, .func (PySem.W.fnOf "_law_settings" "_law_settings" (defArgs s_l_settings) (defBody s_l_settings) (defScope s_l_settings) .none k_l_settings e_l_settings m_l_settings n_l_settings r_l_settings t_l_settings), v_l_settings⟩) (xc_l_settings : PySem.W.codeIn K r_l_settings "_law_settings" = true) (xk_l_settings : PySem.W.keepIn K (.ref f_l_settings) = true)
    {f_law : Addr} {o_law n_law : Option Addr} {v_law : Array (Option Value)} {c_law k_law e_law m_law r_law t_law : Value}
    (xa_law : PySem.W.nsIn K mainGlobals "law" = some (some (.ref f_law))) (xl_law : K.lookup f_law = some ⟨c_law, o_law, .func (PySem.W.fnOf "law" "law" (defArgs s_law) (defBody s_law) (defScope s_law) .none k_law e_law m_law n_law r_law t_law), v_law⟩) (xc_law : PySem.W.codeIn K r_law "law" = true) (xk_law : PySem.W.keepIn K (.ref f_law) = true)
    (xz_abs : PySem.W.nsIn K mainGlobals "abs" = some none)
    (xz_bool : PySem.W.nsIn K mainGlobals "bool" = some none)
    (xz_enumerate : PySem.W.nsIn K mainGlobals "enumerate" = some none)
    (xz_int : PySem.W.nsIn K mainGlobals "int" = some none)
    (xz_isinstance : PySem.W.nsIn K mainGlobals "isinstance" = some none)
    (xz_len : PySem.W.nsIn K mainGlobals "len" = some none)
    (xz_list : PySem.W.nsIn K mainGlobals "list" = some none)
    (xz_range : PySem.W.nsIn K mainGlobals "range" = some none)
    (xz_sorted : PySem.W.nsIn K mainGlobals "sorted" = some none)
    (xz_str : PySem.W.nsIn K mainGlobals "str" = some none)
    (xz_tuple : PySem.W.nsIn K mainGlobals "tuple" = some none) :
    ∃ fd : FuncData, (∀ (s : Shared) (v : Value), BindsTo s fd ⟨[v], []⟩ [("script", v)]) ∧ ∀ base : Heap, K.In base → base.Ns mainGlobals mg → FnOk l.prog w K mg base (L2.CX l.prog w) 12 fa fd ["script"] (spF K 1 F_law) := by
  have e := hfa.symm.trans (PySem.W.mg_of X G xa_law)
  cases e
  exact ⟨_, fun s v => .of_eq rfl, fun base _ _ => ok_law (tx_mk X G xa_l_jar xl_l_jar xc_l_jar xk_l_jar xa_l_draw xl_l_draw xc_l_draw xk_l_draw xa_l_shuffled xl_l_shuffled xc_l_shuffled xk_l_shuffled xa_two_rows xl_two_rows xc_two_rows xk_two_rows xa_l_pool xl_l_pool xc_l_pool xk_l_pool xa_l_same xl_l_same xc_l_same xk_l_same xa_l_two xl_l_two xc_l_two xk_l_two xa_l_rows_of_changes xl_l_rows_of_changes xc_l_rows_of_changes xk_l_rows_of_changes xa_changes_of xl_changes_of xc_changes_of xk_changes_of xa_l_of xl_l_of xc_l_of xk_l_of xa_l_kinds xl_l_kinds xc_l_kinds xk_l_kinds xa_with_change xl_with_change xc_with_change xk_with_change xa_without_change xl_without_change xc_without_change xk_without_change xa_l_more xl_l_more xc_l_more xk_l_more xa_l_less xl_l_less xc_l_less xk_l_less xa_l_fewer xl_l_fewer xc_l_fewer xk_l_fewer xa_carried_change xl_carried_change xc_carried_change xk_carried_change xa_carried_setting xl_carried_setting xc_carried_setting xk_carried_setting xa_l_carried xl_l_carried xc_l_carried xk_l_carried xa_l_back xl_l_back xc_l_back xk_l_back xa_l_moved xl_l_moved xc_l_moved xk_l_moved xa_l_look xl_l_look xc_l_look xk_l_look xa_l_barred xl_l_barred xc_l_barred xk_l_barred xa_l_names xl_l_names xc_l_names xk_l_names xa_l_setting xl_l_setting xc_l_setting xk_l_setting xa_l_settings xl_l_settings xc_l_settings xk_l_settings xa_law xl_law xc_law xk_law xz_abs xz_bool xz_enumerate xz_int xz_isinstance xz_len xz_list xz_range xz_sorted xz_str xz_tuple)⟩
theorem start_law {K : PySem.W.Frag} {H : Hp} {a : Addr} {ns : List Int} (hS : SqL K H a (ns.map V.int)) {E : XK} (hF : F_law [.val (.lst (ns.map D.int))] [] = .ok (.val (.bl true)) []) : spF K 1 F_law [.ref a] H (fun v _ => v = .bl true) E :=
  spF_start hS hF
theorem walk {l : PySem.W.OpenLaw} {q : Program} {loose : List Str} {XP : (Str → Option Value) → Heap → Prop} {YP : World → Heap → Prop} {d : DefRec} {K : Params → PySem.W.Frag} (hn : l.most = some 63) (hdf : d.params.defaults = [])
    (hL : ∀ ns : List Int, ns.length ≤ 63 → F_law [.val (.lst (ns.map D.int))] [] = .ok (.val (.bl true)) [])
    (hY : ∀ (w : World) (h : Heap), YP w h → (K w.params).In h)
    (F : ∀ (w : World) (mg : Str → Option Value) (fa : Addr) (h : Heap), (K w.params).In h → h.Ns mainGlobals mg → mg d.name = some (.ref fa) →
      ∃ fd : FuncData, (∀ (s : Shared) (u : Value), BindsTo s fd ⟨[u], []⟩ [("script", u)]) ∧ ∀ base : Heap, (K w.params).In base → base.Ns mainGlobals mg → FnOk l.prog w (K w.params) mg base (L2.CX l.prog w) 12 fa fd ["script"] (spF (K w.params) 1 F_law)) :
    PySem.W.WalkO q loose XP YP l.row.toRowW d [] (fun f vs => PySem.call f vs) :=
  L2.walk_of (n := 63) (k := 12) (x := "script") (CX := fun w => L2.CX l.prog w) (sp := fun w => spF (K w.params) 1 F_law) hn (by decide) hdf ⟨rfl, by decide, by decide⟩ hY F (fun _ _ a ns hl _ hS => start_law hS (hL ns hl)) (fun w H s e s' z => cx_no z)
end K03
open PySem PySem.W PyProof.Rows in
set_option maxRecDepth 100000 in
set_option maxHeartbeats 0 in
theorem PySem.Challenge.cw_howeverheard_k03_changes_of_settings_holds : PySem.Challenge.rw_howeverheard_k03_changes_of_settings.Holds := by
  w_on; o_law; k_head; (case hw => w_witness2)
  k_fill
  refine K03.walk (l := PySem.Challenge.rw_howeverheard_k03_changes_of_settings) rfl rfl K03.law_true (fun w h Y => PySem.W.kIn_of Y) ?F
  case F =>
    intro w mg fa h KX G hmg
    refine' K03.all_mk KX G hmg ?xa_l_jar ?xl_l_jar ?xc_l_jar ?xk_l_jar ?xa_l_draw ?xl_l_draw ?xc_l_draw ?xk_l_draw ?xa_l_shuffled ?xl_l_shuffled ?xc_l_shuffled ?xk_l_shuffled ?xa_two_rows ?xl_two_rows ?xc_two_rows ?xk_two_rows ?xa_l_pool ?xl_l_pool ?xc_l_pool ?xk_l_pool ?xa_l_same ?xl_l_same ?xc_l_same ?xk_l_same ?xa_l_two ?xl_l_two ?xc_l_two ?xk_l_two ?xa_l_rows_of_changes ?xl_l_rows_of_changes ?xc_l_rows_of_changes ?xk_l_rows_of_changes ?xa_changes_of ?xl_changes_of ?xc_changes_of ?xk_changes_of ?xa_l_of ?xl_l_of ?xc_l_of ?xk_l_of ?xa_l_kinds ?xl_l_kinds ?xc_l_kinds ?xk_l_kinds ?xa_with_change ?xl_with_change ?xc_with_change ?xk_with_change ?xa_without_change ?xl_without_change ?xc_without_change ?xk_without_change ?xa_l_more ?xl_l_more ?xc_l_more ?xk_l_more ?xa_l_less ?xl_l_less ?xc_l_less ?xk_l_less ?xa_l_fewer ?xl_l_fewer ?xc_l_fewer ?xk_l_fewer ?xa_carried_change ?xl_carried_change ?xc_carried_change ?xk_carried_change ?xa_carried_setting ?xl_carried_setting ?xc_carried_setting ?xk_carried_setting ?xa_l_carried ?xl_l_carried ?xc_l_carried ?xk_l_carried ?xa_l_back ?xl_l_back ?xc_l_back ?xk_l_back ?xa_l_moved ?xl_l_moved ?xc_l_moved ?xk_l_moved ?xa_l_look ?xl_l_look ?xc_l_look ?xk_l_look ?xa_l_barred ?xl_l_barred ?xc_l_barred ?xk_l_barred ?xa_l_names ?xl_l_names ?xc_l_names ?xk_l_names ?xa_l_setting ?xl_l_setting ?xc_l_setting ?xk_l_setting ?xa_l_settings ?xl_l_settings ?xc_l_settings ?xk_l_settings ?xa_law ?xl_law ?xc_law ?xk_law ?xz_abs ?xz_bool ?xz_enumerate ?xz_int ?xz_isinstance ?xz_len ?xz_list ?xz_range ?xz_sorted ?xz_str ?xz_tuple
    (case xa_l_jar => k_is)
    (case xl_l_jar => k_is)
    (case xc_l_jar => k_is)
    (case xk_l_jar => k_is)
    (case xa_l_draw => k_is)
    (case xl_l_draw => k_is)
    (case xc_l_draw => k_is)
    (case xk_l_draw => k_is)
    (case xa_l_shuffled => k_is)
    (case xl_l_shuffled => k_is)
    (case xc_l_shuffled => k_is)
    (case xk_l_shuffled => k_is)
    (case xa_two_rows => k_is)
    (case xl_two_rows => k_is)
    (case xc_two_rows => k_is)
    (case xk_two_rows => k_is)
    (case xa_l_pool => k_is)
    (case xl_l_pool => k_is)
    (case xc_l_pool => k_is)
    (case xk_l_pool => k_is)
    (case xa_l_same => k_is)
    (case xl_l_same => k_is)
    (case xc_l_same => k_is)
    (case xk_l_same => k_is)
    (case xa_l_two => k_is)
    (case xl_l_two => k_is)
    (case xc_l_two => k_is)
    (case xk_l_two => k_is)
    (case xa_l_rows_of_changes => k_is)
    (case xl_l_rows_of_changes => k_is)
    (case xc_l_rows_of_changes => k_is)
    (case xk_l_rows_of_changes => k_is)
    (case xa_changes_of => k_is)
    (case xl_changes_of => k_is)
    (case xc_changes_of => k_is)
    (case xk_changes_of => k_is)
    (case xa_l_of => k_is)
    (case xl_l_of => k_is)
    (case xc_l_of => k_is)
    (case xk_l_of => k_is)
    (case xa_l_kinds => k_is)
    (case xl_l_kinds => k_is)
    (case xc_l_kinds => k_is)
    (case xk_l_kinds => k_is)
    (case xa_with_change => k_is)
    (case xl_with_change => k_is)
    (case xc_with_change => k_is)
    (case xk_with_change => k_is)
    (case xa_without_change => k_is)
    (case xl_without_change => k_is)
    (case xc_without_change => k_is)
    (case xk_without_change => k_is)
    (case xa_l_more => k_is)
    (case xl_l_more => k_is)
    (case xc_l_more => k_is)
    (case xk_l_more => k_is)
    (case xa_l_less => k_is)
    (case xl_l_less => k_is)
    (case xc_l_less => k_is)
    (case xk_l_less => k_is)
    (case xa_l_fewer => k_is)
    (case xl_l_fewer => k_is)
    (case xc_l_fewer => k_is)
    (case xk_l_fewer => k_is)
    (case xa_carried_change => k_is)
    (case xl_carried_change => k_is)
    (case xc_carried_change => k_is)
    (case xk_carried_change => k_is)
    (case xa_carried_setting => k_is)
    (case xl_carried_setting => k_is)
    (case xc_carried_setting => k_is)
    (case xk_carried_setting => k_is)
    (case xa_l_carried => k_is)
    (case xl_l_carried => k_is)
    (case xc_l_carried => k_is)
    (case xk_l_carried => k_is)
    (case xa_l_back => k_is)
    (case xl_l_back => k_is)
    (case xc_l_back => k_is)
    (case xk_l_back => k_is)
    (case xa_l_moved => k_is)
    (case xl_l_moved => k_is)
    (case xc_l_moved => k_is)
    (case xk_l_moved => k_is)
    (case xa_l_look => k_is)
    (case xl_l_look => k_is)
    (case xc_l_look => k_is)
    (case xk_l_look => k_is)
    (case xa_l_barred => k_is)
    (case xl_l_barred => k_is)
    (case xc_l_barred => k_is)
    (case xk_l_barred => k_is)
    (case xa_l_names => k_is)
    (case xl_l_names => k_is)
    (case xc_l_names => k_is)
    (case xk_l_names => k_is)
    (case xa_l_setting => k_is)
    (case xl_l_setting => k_is)
    (case xc_l_setting => k_is)
    (case xk_l_setting => k_is)
    (case xa_l_settings => k_is)
    (case xl_l_settings => k_is)
    (case xc_l_settings => k_is)
    (case xk_l_settings => k_is)
    (case xa_law => k_is)
    (case xl_law => k_is)
    (case xc_law => k_is)
    (case xk_law => k_is)
    (case xz_abs => k_is)
    (case xz_bool => k_is)
    (case xz_enumerate => k_is)
    (case xz_int => k_is)
    (case xz_isinstance => k_is)
    (case xz_len => k_is)
    (case xz_list => k_is)
    (case xz_range => k_is)
    (case xz_sorted => k_is)
    (case xz_str => k_is)
    (case xz_tuple => k_is)
