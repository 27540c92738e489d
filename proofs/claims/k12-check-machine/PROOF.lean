import PyProof.Rows.All
import Wide.All
import OpenK.AllK
import Wide.FinOn
import HandS.ForMost
import HandS.Wide
import HandS.TupAny
import HandS.IsInst
import HandS.Conv
import HandS.Deep
import HandS.Exc
import HandS.WordsExc
import HandS.Walk
import KE.GoesEnum
import HandS.TryOnly
import KE.KExcSuper
import HandS.ExcInit
import HandS.ExcField
import HandS.ExcIs
import HandS.TryMany
import HandS.HotCalls
import HandS.Rev
import HandS.TupMul
import PySem.Challenge.RW_howeverheard_k12_check_machine
set_option Elab.async false
set_option linter.all false
set_option maxRecDepth 100000
set_option maxHeartbeats 4000000
set_option autoImplicit false
/-! A pure layer over HandS: values as data D, mutable lists as numbered cells; every def becomes a plain Lean function. -/
namespace L2.Pz
open PySem PySem.Spec PyProof.Rows

/-! ### data -/
inductive D where
  | non | bl (b : Bool) | int (i : Int) | str (x : Str) | tup (xs : List D) | lst (xs : List D)
/-- an exception that a suite holds: where, its class, its fields, its dict -/
structure Zx where
  a : Addr
  c : Str
  fs : List (Str × D)
  cls : Value
  od : Option Addr
/-- what an expression hands on: data, the k-th cell, a fresh list -/
inductive HV where
  | val (d : D) | jar (k : Nat) | new (ds : List D) | exc (k : Nat)
abbrev En := List (Option HV)
abbrev Jr := List (List D)
inductive R (α : Type) where
  | ok (a : α) (J : Jr) | err (c : Str) (fs : List (Str × D)) (J : Jr) | stuck
def R.bind {α β : Type} (r : R α) (f : α → Jr → R β) : R β := match r with
  | .ok a J => f a J
  | .err c fs J => .err c fs J
  | .stuck => .stuck
abbrev EF := En → Jr → R HV
abbrev big : Nat := 16777216
theorem big_eq : sizeLine = big := sizeLine_eq

section
variable (K : PySem.W.Frag)
/-- a list that is read: of the heap and not locked, or of the written part -/
def LsY (H : Hp) (Y : Addr → Prop) (a : Addr) (vs : List V) : Prop := (Rd H a (.lst vs) ∧ ¬ Y a) ∨ SqL K (fun _ => none) a vs
mutual
def Rep (H : Hp) (Y : Addr → Prop) : D → V → Prop
  | .non, v => v = .non
  | .bl b, v => v = .bl b
  | .int i, v => v = .int i
  | .str x, v => v = .str x
  | .tup ds, v => ∃ a vs, v = .ref a ∧ SqT K H a vs ∧ Reps H Y ds vs
  | .lst ds, v => ∃ a vs, v = .ref a ∧ LsY K H Y a vs ∧ Reps H Y ds vs
def Reps (H : Hp) (Y : Addr → Prop) : List D → List V → Prop
  | [], vs => vs = []
  | d :: ds, vs => ∃ v r, vs = v :: r ∧ Rep H Y d v ∧ Reps H Y ds r
end
end
section
variable {K : PySem.W.Frag} {H H' : Hp} {Y Y' : Addr → Prop} {Z : List Zx}
theorem sqL_none {a : Addr} {vs : List V} (h : SqL K (fun _ => none) a vs) : SqL K H a vs := by
  rcases h with (h | ⟨o, h⟩) | h
  · cases h
  · cases h
  · exact .inr h
theorem LsY.sq {a : Addr} {vs : List V} (h : LsY K H Y a vs) : SqL K H a vs := by
  rcases h with ⟨h, _⟩ | h
  · exact .inl h
  · exact sqL_none h
/-- Y holds lists alone -/
abbrev Lists (H : Hp) (Y : Addr → Prop) : Prop := ∀ a, Y a → ∃ xs, H a = some (.lst xs)
theorem sqT_move (hE : ∀ a o, H a = some o → ¬ Y a → H' a = some o) (hl : Lists H Y) {a : Addr} {vs : List V} (h : SqT K H a vs) : SqT K H' a vs := by
  rcases h with (h | ⟨o, h⟩) | h
  · refine .inl (.inl (hE _ _ h fun y => ?_))
    obtain ⟨xs, e⟩ := hl _ y
    rw [h] at e; cases e
  · refine .inl (.inr ⟨o, hE _ _ h fun y => ?_⟩)
    obtain ⟨xs, e⟩ := hl _ y
    rw [h] at e; cases e
  · exact .inr h
theorem lsY_move (hE : ∀ a o, H a = some o → ¬ Y a → H' a = some o) (hY : ∀ a, Y' a → Y a ∨ H a = none) {a : Addr} {vs : List V} (h : LsY K H Y a vs) : LsY K H' Y' a vs := by
  rcases h with ⟨h, n⟩ | h
  · refine .inl ?_
    rcases h with h | ⟨o, h⟩
    · exact ⟨.inl (hE _ _ h n), fun y => (hY _ y).elim n fun e => by rw [h] at e; cases e⟩
    · exact ⟨.inr ⟨o, hE _ _ h n⟩, fun y => (hY _ y).elim n fun e => by rw [h] at e; cases e⟩
  · exact .inr h
mutual
theorem rep_move (hE : ∀ a o, H a = some o → ¬ Y a → H' a = some o) (hY : ∀ a, Y' a → Y a ∨ H a = none) (hl : Lists H Y) : ∀ (d : D) (v : V), Rep K H Y d v → Rep K H' Y' d v
  | .non, v, h => by unfold Rep at h ⊢; exact h
  | .bl b, v, h => by unfold Rep at h ⊢; exact h
  | .int i, v, h => by unfold Rep at h ⊢; exact h
  | .str x, v, h => by unfold Rep at h ⊢; exact h
  | .tup ds, v, h => by
    unfold Rep at h ⊢
    obtain ⟨a, vs, e, s, r⟩ := h
    exact ⟨a, vs, e, sqT_move hE hl s, reps_move hE hY hl ds vs r⟩
  | .lst ds, v, h => by
    unfold Rep at h ⊢
    obtain ⟨a, vs, e, s, r⟩ := h
    exact ⟨a, vs, e, lsY_move hE hY s, reps_move hE hY hl ds vs r⟩
theorem reps_move (hE : ∀ a o, H a = some o → ¬ Y a → H' a = some o) (hY : ∀ a, Y' a → Y a ∨ H a = none) (hl : Lists H Y) : ∀ (ds : List D) (vs : List V), Reps K H Y ds vs → Reps K H' Y' ds vs
  | [], vs, h => by unfold Reps at h ⊢; exact h
  | d :: ds, vs, h => by
    unfold Reps at h ⊢
    obtain ⟨v, r, e, h1, h2⟩ := h
    exact ⟨v, r, e, rep_move hE hY hl d v h1, reps_move hE hY hl ds r h2⟩
end
theorem reps_nil {vs : List V} : Reps K H Y [] vs ↔ vs = [] := by unfold Reps; exact Iff.rfl
theorem reps_cons {d : D} {ds : List D} {vs : List V} : Reps K H Y (d :: ds) vs ↔ ∃ v r, vs = v :: r ∧ Rep K H Y d v ∧ Reps K H Y ds r := by
  constructor
  · intro h; unfold Reps at h; exact h
  · intro h; unfold Reps; exact h
theorem reps_len : ∀ {ds : List D} {vs : List V}, Reps K H Y ds vs → vs.length = ds.length
  | [], vs, h => by rw [reps_nil.mp h]; rfl
  | d :: ds, vs, h => by
    obtain ⟨v, r, e, _, h2⟩ := reps_cons.mp h
    rw [e, List.length_cons, List.length_cons, reps_len h2]
theorem reps_append : ∀ {ds es : List D} {vs us : List V}, Reps K H Y ds vs → Reps K H Y es us → Reps K H Y (ds ++ es) (vs ++ us)
  | [], es, vs, us, h, g => by rw [reps_nil.mp h]; exact g
  | d :: ds, es, vs, us, h, g => by
    obtain ⟨v, r, e, h1, h2⟩ := reps_cons.mp h
    subst e
    exact reps_cons.mpr ⟨v, r ++ us, rfl, h1, reps_append h2 g⟩
theorem reps_take : ∀ {ds : List D} {vs : List V} (n : Nat), Reps K H Y ds vs → Reps K H Y (ds.take n) (vs.take n)
  | _, _, 0, _ => by rw [List.take_zero, List.take_zero]; exact reps_nil.mpr rfl
  | [], vs, n + 1, h => by rw [reps_nil.mp h]; exact reps_nil.mpr rfl
  | d :: ds, vs, n + 1, h => by
    obtain ⟨v, r, e, h1, h2⟩ := reps_cons.mp h
    subst e
    exact reps_cons.mpr ⟨v, r.take n, rfl, h1, reps_take n h2⟩
theorem reps_drop : ∀ {ds : List D} {vs : List V} (n : Nat), Reps K H Y ds vs → Reps K H Y (ds.drop n) (vs.drop n)
  | _, _, 0, h => h
  | [], vs, n + 1, h => by rw [reps_nil.mp h]; exact reps_nil.mpr rfl
  | d :: ds, vs, n + 1, h => by
    obtain ⟨v, r, e, h1, h2⟩ := reps_cons.mp h
    subst e
    exact reps_drop n h2
theorem reps_get : ∀ {ds : List D} {vs : List V} {i : Nat} {d : D}, Reps K H Y ds vs → ds[i]? = some d → ∃ v, vs[i]? = some v ∧ Rep K H Y d v
  | [], vs, i, d, h, e => by simp at e
  | c :: ds, vs, 0, d, h, e => by
    obtain ⟨v, r, e2, h1, _⟩ := reps_cons.mp h
    subst e2
    simp at e; subst e
    exact ⟨v, rfl, h1⟩
  | c :: ds, vs, i + 1, d, h, e => by
    obtain ⟨v, r, e2, _, h2⟩ := reps_cons.mp h
    subst e2
    obtain ⟨u, e3, h3⟩ := reps_get (i := i) h2 (by simpa using e)
    exact ⟨u, by simpa using e3, h3⟩
theorem reps_at : ∀ {ds : List D} {vs : List V} {i : Nat} {v : V}, Reps K H Y ds vs → vs[i]? = some v → ∃ d, ds[i]? = some d ∧ Rep K H Y d v
  | [], vs, i, v, h, e => by rw [reps_nil.mp h] at e; simp at e
  | c :: ds, vs, 0, v, h, e => by
    obtain ⟨u, r, e2, h1, _⟩ := reps_cons.mp h
    subst e2
    simp at e; subst e
    exact ⟨c, rfl, h1⟩
  | c :: ds, vs, i + 1, v, h, e => by
    obtain ⟨u, r, e2, _, h2⟩ := reps_cons.mp h
    subst e2
    obtain ⟨d, e3, h3⟩ := reps_at (i := i) h2 (by simpa using e)
    exact ⟨d, by simpa using e3, h3⟩
theorem reps_set : ∀ {ds : List D} {vs : List V} {i : Nat} {d : D} {v : V}, Reps K H Y ds vs → Rep K H Y d v → Reps K H Y (ds.set i d) (vs.set i v)
  | [], vs, i, d, v, h, g => by rw [reps_nil.mp h]; exact reps_nil.mpr rfl
  | c :: ds, vs, 0, d, v, h, g => by
    obtain ⟨u, r, e2, h1, h2⟩ := reps_cons.mp h
    subst e2
    exact reps_cons.mpr ⟨v, r, rfl, g, h2⟩
  | c :: ds, vs, i + 1, d, v, h, g => by
    obtain ⟨u, r, e2, h1, h2⟩ := reps_cons.mp h
    subst e2
    exact reps_cons.mpr ⟨u, r.set i v, rfl, h1, reps_set h2 g⟩
theorem reps_ints : ∀ {ns : List Int} {vs : List V}, Reps K H Y (ns.map D.int) vs → vs = ns.map V.int
  | [], vs, h => reps_nil.mp h
  | n :: ns, vs, h => by
    obtain ⟨v, r, e, h1, h2⟩ := reps_cons.mp h
    unfold Rep at h1
    rw [e, h1, reps_ints h2]; rfl
theorem reps_of_ints : ∀ {ns : List Int}, Reps K H Y (ns.map D.int) (ns.map V.int)
  | [] => reps_nil.mpr rfl
  | n :: ns => reps_cons.mpr ⟨_, _, rfl, by unfold Rep; rfl, reps_of_ints⟩
theorem rep_int {i : Int} {v : V} (h : Rep K H Y (.int i) v) : v = .int i := by unfold Rep at h; exact h
theorem rep_bl {i : Bool} {v : V} (h : Rep K H Y (.bl i) v) : v = .bl i := by unfold Rep at h; exact h
theorem rep_str {i : Str} {v : V} (h : Rep K H Y (.str i) v) : v = .str i := by unfold Rep at h; exact h
theorem rep_non {v : V} (h : Rep K H Y .non v) : v = .non := by unfold Rep at h; exact h
theorem mk_int {i : Int} : Rep K H Y (.int i) (.int i) := by unfold Rep; rfl
theorem mk_bl {i : Bool} : Rep K H Y (.bl i) (.bl i) := by unfold Rep; rfl
theorem mk_str {i : Str} : Rep K H Y (.str i) (.str i) := by unfold Rep; rfl
theorem mk_non : Rep K H Y .non .non := by unfold Rep; rfl
theorem rep_tup {ds : List D} {v : V} : Rep K H Y (.tup ds) v ↔ ∃ a vs, v = .ref a ∧ SqT K H a vs ∧ Reps K H Y ds vs := by
  constructor
  · intro h; unfold Rep at h; exact h
  · intro h; unfold Rep; exact h
theorem rep_lst {ds : List D} {v : V} : Rep K H Y (.lst ds) v ↔ ∃ a vs, v = .ref a ∧ LsY K H Y a vs ∧ Reps K H Y ds vs := by
  constructor
  · intro h; unfold Rep at h; exact h
  · intro h; unfold Rep; exact h
end

/-! ### the state -/
abbrev Yf (Xo : Addr → Prop) (js : List Addr) : Addr → Prop := fun a => Xo a ∨ a ∈ js
abbrev With (Xo : Addr → Prop) (p : Addr) : Addr → Prop := fun a => Xo a ∨ a = p
/-- how an exception lies: its class, its fields -/
def ExcAt (K : PySem.W.Frag) (Xo : Addr → Prop) (js : List Addr) (c : Str) (fs : List (Str × D)) (cls : Value) (od : Option Addr) (H : Hp) : Prop :=
  ∃ C, PySem.W.nsIn K mainGlobals c = some (some (.ref C)) ∧ cls = .ref C ∧ ∃ d us, od = some d ∧ H d = some (.xd us) ∧ us.map (·.1) = fs.map (·.1) ∧ Reps K H (Yf Xo js) (fs.map (·.2)) (us.map (·.2))
def HRep (K : PySem.W.Frag) (Z : List Zx) (H : Hp) (Y : Addr → Prop) (js : List Addr) : HV → V → Prop
  | .val d, v => Rep K H Y d v
  | .jar k, v => ∃ a, js[k]? = some a ∧ v = .ref a
  | .new _, _ => False
  | .exc k, v => ∃ z, Z[k]? = some z ∧ v = .ref z.a
def norm : HV → HV
  | .new ds => .val (.lst ds)
  | h => h
structure Fit (K : PySem.W.Frag) (Z : List Zx) (Xo : Addr → Prop) (js : List Addr) (H : Hp) (σ : St) (env : En) (J : Jr) : Prop where
  out : Lists H Xo
  nd : js.Nodup
  jx : ∀ a ∈ js, ¬ Xo a
  len : js.length = J.length
  slen : σ.length = env.length
  jar : ∀ (k : Nat) (a : Addr) (ds : List D), js[k]? = some a → J[k]? = some ds → ∃ vs, H a = some (.lst vs) ∧ Reps K H (Yf Xo js) ds vs
  slot : ∀ (i : Nat) (h : HV), env[i]? = some (some h) → ∃ v, σ[i]? = some (some v) ∧ HRep K Z H (Yf Xo js) js h v
  ez : ∀ z ∈ Z, ExcAt K Xo js z.c z.fs z.cls z.od H
section
variable {K : PySem.W.Frag} {Xo Xo' : Addr → Prop} {js : List Addr} {H H' : Hp} {σ : St} {env : En} {J : Jr} {Z : List Zx}
theorem Fit.at (F : Fit K Z Xo js H σ env J) {k : Nat} {a : Addr} (e : js[k]? = some a) : ∃ ds vs, J[k]? = some ds ∧ H a = some (.lst vs) ∧ Reps K H (Yf Xo js) ds vs := by
  have hk : k < js.length := (List.getElem?_eq_some_iff.mp e).1
  obtain ⟨ds, h⟩ : ∃ ds, J[k]? = some ds := ⟨J[k]'(by rw [← F.len]; exact hk), List.getElem?_eq_getElem _⟩
  obtain ⟨vs, h1, h2⟩ := F.jar k a ds e h
  exact ⟨ds, vs, h, h1, h2⟩
theorem Fit.lists (F : Fit K Z Xo js H σ env J) : Lists H (Yf Xo js) := fun a h => by
  rcases h with h | h
  · exact F.out a h
  · obtain ⟨k, hk, e⟩ := List.getElem_of_mem h
    obtain ⟨ds, vs, _, h1, _⟩ := F.at (k := k) (a := a) (by rw [List.getElem?_eq_getElem hk, e])
    exact ⟨vs, h1⟩
theorem HRep.move {Y Y' : Addr → Prop} (hE : ∀ a o, H a = some o → ¬ Y a → H' a = some o) (hY : ∀ a, Y' a → Y a ∨ H a = none) (hl : Lists H Y) {h : HV} {v : V} (x : HRep K Z H Y js h v) : HRep K Z H' Y' js h v := by
  cases h with
  | val d => exact rep_move hE hY hl d v x
  | jar k => exact x
  | new ds => exact x
  | exc k => exact x
/-- another heap, other locks -/
theorem ExcAt.move {js' : List Addr} {c : Str} {fs : List (Str × D)} {cls : Value} {od : Option Addr} (x : ExcAt K Xo js c fs cls od H) (hE : ∀ a o, H a = some o → ¬ Yf Xo js a → H' a = some o) (hY : ∀ a, Yf Xo' js' a → Yf Xo js a ∨ H a = none) (hl : Lists H (Yf Xo js)) : ExcAt K Xo' js' c fs cls od H' := by
  obtain ⟨C, c1, c2, d, us, d1, d2, d3, d4⟩ := x
  refine ⟨C, c1, c2, d, us, d1, hE d _ d2 fun y => ?_, d3, reps_move hE hY hl _ _ d4⟩
  obtain ⟨xs, e⟩ := hl d y
  rw [d2] at e; cases e
theorem Fit.move (F : Fit K Z Xo js H σ env J) (hE : ∀ a o, H a = some o → H' a = some o) (hX : ∀ a, Xo' a → Xo a ∨ H a = none) (ho : Lists H' Xo') : Fit K Z Xo' js H' σ env J := by
  have hl := F.lists
  have hY : ∀ a, Yf Xo' js a → Yf Xo js a ∨ H a = none := fun a h => by
    rcases h with h | h
    · rcases hX a h with z | z
      · exact .inl (.inl z)
      · exact .inr z
    · exact .inl (.inr h)
  refine ⟨ho, F.nd, fun a ha z => ?_, F.len, F.slen, fun k a ds e1 e2 => ?_, fun i h e => ?_, fun z hz => (F.ez z hz).move (fun a o q _ => hE a o q) hY hl⟩
  · rcases hX a z with z | z
    · exact F.jx a ha z
    · obtain ⟨xs, q⟩ := hl a (.inr ha)
      rw [q] at z; cases z
  · obtain ⟨vs, h1, h2⟩ := F.jar k a ds e1 e2
    exact ⟨vs, hE _ _ h1, reps_move (fun a o q _ => hE a o q) hY hl _ _ h2⟩
  · obtain ⟨v, h1, h2⟩ := F.slot i h e
    exact ⟨v, h1, h2.move (fun a o q _ => hE a o q) hY hl⟩
theorem Fit.same (F : Fit K Z Xo js H σ env J) (hE : Same H H') : Fit K Z Xo js H' σ env J :=
  F.move hE (fun _ h => .inl h) fun a h => let ⟨xs, e⟩ := F.out a h; ⟨xs, hE _ _ e⟩
theorem Fit.lock (F : Fit K Z Xo js H σ env J) (hE : Same H H') {p : Addr} {vs : List V} (hp : H p = none) (e : H' p = some (.lst vs)) : Fit K Z (With Xo p) js H' σ env J :=
  F.move hE (fun a h => h.elim .inl fun z => .inr (z ▸ hp)) fun a h => h.elim (fun h => let ⟨xs, e⟩ := F.out a h; ⟨xs, hE _ _ e⟩) fun z => ⟨vs, z ▸ e⟩
theorem Fit.unlock {p : Addr} (F : Fit K Z (With Xo p) js H σ env J) : Fit K Z Xo js H σ env J :=
  F.move (fun _ _ e => e) (fun _ h => .inl (.inl h)) fun a h => F.out a (.inl h)
theorem same_upd {H : Hp} {p : Addr} {o : HO} (h : H p = none) : Same H (upd H p o) := fun b x e => by
  rw [upd_ne (ne_of_none e h)]
  exact e
end

/-! ### readings of expressions -/
abbrev Ext (js : List Addr) (H H' : Hp) : Prop := ∀ a o, H a = some o → a ∉ js → H' a = some o
theorem Ext.of {js : List Addr} {H H' : Hp} (s : Same H H') : Ext js H H' := fun a o e _ => s a o e
theorem Ext.trans {js : List Addr} {H H1 H2 : Hp} (a : Ext js H H1) (b : Ext js H1 H2) : Ext js H H2 := fun c o e n => b c o (a c o e n) n
theorem Ext.refl {js : List Addr} {H : Hp} : Ext js H H := fun _ _ e _ => e
def OutN (K : PySem.W.Frag) (Z : List Zx) (Xo : Addr → Prop) (js : List Addr) (H H' : Hp) (σ : St) (env : En) (J : Jr) (h : HV) (v : V) : Prop := match h with
  | .new ds => ∃ p vs, v = .ref p ∧ H p = none ∧ H' p = some (.lst vs) ∧ Fit K Z (With Xo p) js H' σ env J ∧ Reps K H' (Yf (With Xo p) js) ds vs
  | h => Fit K Z Xo js H' σ env J ∧ HRep K Z H' (Yf Xo js) js h v
def Flies (K : PySem.W.Frag) (Z : List Zx) (W : WX) (Xo : Addr → Prop) (js : List Addr) (H : Hp) (σ : St) (env : En) (c : Str) (fs : List (Str × D)) (J : Jr) : Prop :=
  ∀ cls od H', ExcAt K Xo js c fs cls od H' → Ext js H H' → Fit K Z Xo js H' σ env J → W cls od σ H'
/-- raw: fresh lists are told -/
def PostN (K : PySem.W.Frag) (Z : List Zx) (W : WX) (Xo : Addr → Prop) (js : List Addr) (H : Hp) (σ : St) (env : En) (Q : VK) : R HV → Prop
  | .ok h J => ∀ v H', Ext js H H' → OutN K Z Xo js H H' σ env J h v → Q v H'
  | .err c fs J => Flies K Z W Xo js H σ env c fs J
  | .stuck => False
def PostD (K : PySem.W.Frag) (Z : List Zx) (W : WX) (Xo : Addr → Prop) (js : List Addr) (H : Hp) (σ : St) (env : En) (Q : VK) : R HV → Prop
  | .ok h J => ∀ v H', Ext js H H' → Fit K Z Xo js H' σ env J → HRep K Z H' (Yf Xo js) js (norm h) v → Q v H'
  | .err c fs J => Flies K Z W Xo js H σ env c fs J
  | .stuck => False
def PostB (K : PySem.W.Frag) (Z : List Zx) (W : WX) (Xo : Addr → Prop) (js : List Addr) (H : Hp) (σ : St) (env : En) (Q : Bool → Hp → Prop) : R Bool → Prop
  | .ok b J => ∀ H', Ext js H H' → Fit K Z Xo js H' σ env J → Q b H'
  | .err c fs J => Flies K Z W Xo js H σ env c fs J
  | .stuck => False
def tN (K : PySem.W.Frag) (Z : List Zx) (W : WX) (f : EF) : TE := fun σ H Q => ∃ Xo js env J, Fit K Z Xo js H σ env J ∧ PostN K Z W Xo js H σ env Q (f env J)
def tD (K : PySem.W.Frag) (Z : List Zx) (W : WX) (f : EF) : TE := fun σ H Q => ∃ Xo js env J, Fit K Z Xo js H σ env J ∧ PostD K Z W Xo js H σ env Q (f env J)
abbrev BF := En → Jr → R Bool
def tT (K : PySem.W.Frag) (Z : List Zx) (W : WX) (f : BF) : TT := fun σ H Q => ∃ Xo js env J, Fit K Z Xo js H σ env J ∧ PostB K Z W Xo js H σ env Q (f env J)
theorem Flies.later {K : PySem.W.Frag} {Z : List Zx} {W : WX} {Xo : Addr → Prop} {js : List Addr} {H H1 : Hp} {σ : St} {env : En} {c : Str} {fs : List (Str × D)} {J : Jr} (h : Flies K Z W Xo js H σ env c fs J) (e : Ext js H H1) : Flies K Z W Xo js H1 σ env c fs J :=
  fun cls od H' x y z => h cls od H' x (e.trans y) z

theorem pe_mono {X : Cx} {e : Expr} {t t' : TE} (h : PE X e t) (m : ∀ σ H Q, t' σ H Q → t σ H Q) : PE X e t' := ⟨fun pins s σ H Q I w => h.run pins s σ H Q I (m σ H Q w)⟩
theorem pt_mono {X : Cx} {e : Expr} {t t' : TT} (h : PT X e t) (m : ∀ σ H Q, t' σ H Q → t σ H Q) : PT X e t' := ⟨fun pins s σ H Q I w => h.run pins s σ H Q I (m σ H Q w)⟩
theorem ps_mono {X : Cx} {e : Stmt} {t t' : TS} (h : PS X e t) (m : ∀ D σ H, t' D σ H → t D σ H) : PS X e t' := ⟨fun pins s σ H D I w => h.run pins s σ H D I (m D σ H w)⟩
theorem pss_mono {X : Cx} {e : List Stmt} {t t' : TS} (h : PSs X e t) (m : ∀ D σ H, t' D σ H → t D σ H) : PSs X e t' := ⟨fun pins s σ H D I w => h.run pins s σ H D I (m D σ H w)⟩

theorem outN_norm {K : PySem.W.Frag} {Z : List Zx} {Xo : Addr → Prop} {js : List Addr} {H H' : Hp} {σ : St} {env : En} {J : Jr} {h : HV} {v : V} (hl : Lists H Xo) (o : OutN K Z Xo js H H' σ env J h v) : Fit K Z Xo js H' σ env J ∧ HRep K Z H' (Yf Xo js) js (norm h) v := by
  cases h with
  | val d => exact o
  | jar k => exact o
  | exc k => exact o
  | new ds =>
    obtain ⟨p, vs, e, hp, hq, F, r⟩ := o
    refine ⟨F.unlock, rep_lst.mpr ⟨p, vs, e, .inl ⟨.inl hq, fun y => ?_⟩, ?_⟩⟩
    · rcases y with y | y
      · obtain ⟨xs, z⟩ := hl p y
        rw [hp] at z; cases z
      · exact F.jx p y (.inr rfl)
    · exact reps_move (fun _ _ e _ => e) (fun a y => .inl (y.elim (fun y => .inl (.inl y)) .inr)) F.lists _ _ r
end L2.Pz
set_option Elab.async false
set_option linter.all false
set_option maxRecDepth 100000
set_option maxHeartbeats 4000000
set_option autoImplicit false
namespace L2.Pz
open PySem PySem.Spec PyProof.Rows

/-! ### evaluation: names, constants, operators -/
def eName (i : Nat) : EF := fun env J => match env[i]? with
  | some (some h) => .ok h J
  | _ => .stuck
def eC (d : D) : EF := fun _ J => .ok (.val d) J
def deref (J : Jr) : HV → Option D
  | .val d => some d
  | .new ds => some (.lst ds)
  | .jar k => (J[k]?).map D.lst
  | .exc _ => none
abbrev F1 := D → Option HV
abbrev F2 := D → D → Option HV
def give (J : Jr) : Option HV → R HV
  | some z => .ok z J
  | none => .stuck
def app1 (fo : F1) (J : Jr) (h1 : HV) : R HV := match deref J h1 with
  | some d => give J (fo d)
  | none => .stuck
def app2 (fo : F2) (J : Jr) (h1 h2 : HV) : R HV := match deref J h1, deref J h2 with
  | some d, some e => give J (fo d e)
  | _, _ => .stuck
def eUn (fo : F1) (f : EF) : EF := fun env J => (f env J).bind fun h1 J1 => app1 fo J1 h1
def eBin (fo : F2) (f g : EF) : EF := fun env J => (f env J).bind fun h1 J1 => (g env J1).bind fun h2 J2 => app2 fo J2 h1 h2
def toB : R HV → R Bool := fun r => r.bind fun h J => match h with
  | .val (.bl b) => .ok b J
  | _ => .stuck
def truth : D → Option Bool
  | .non => some false
  | .bl b => some b
  | .int i => some (i != 0)
  | .str y => if y.length ≤ big then some ((y.length : Int) != 0) else none
  | .tup xs => some (!xs.isEmpty)
  | .lst xs => some (!xs.isEmpty)
def bTruth (f : EF) : BF := fun env J => (f env J).bind fun h J1 => match deref J1 h with
  | some d => (match truth d with | some b => .ok b J1 | none => .stuck)
  | none => .stuck
def bCmp (fo : F2) (f g : EF) : BF := fun env J => toB (eBin fo f g env J)
def bNot (c : BF) : BF := fun env J => (c env J).bind fun b J1 => .ok (!b) J1
def bAnd (c d : BF) : BF := fun env J => (c env J).bind fun b J1 => if b = true then d env J1 else .ok false J1
def bOr (c d : BF) : BF := fun env J => (c env J).bind fun b J1 => if b = true then .ok true J1 else d env J1
def eNot (f : EF) : EF := fun env J => (toB (f env J)).bind fun b J1 => .ok (.val (.bl (!b))) J1
def eAnd (f g : EF) : EF := fun env J => (toB (f env J)).bind fun b J1 => if b = true then g env J1 else .ok (.val (.bl false)) J1
def eOr (f g : EF) : EF := fun env J => (toB (f env J)).bind fun b J1 => if b = true then .ok (.val (.bl true)) J1 else g env J1
def eIf (c : BF) (f g : EF) : EF := fun env J => (c env J).bind fun b J1 => if b = true then f env J1 else g env J1
/-- a < b < c -/
def eChain (fo go : F2) (f g k : EF) : EF := fun env J => (f env J).bind fun h1 J1 => (g env J1).bind fun h2 J2 => (toB (app2 fo J2 h1 h2)).bind fun b J3 =>
  if b = true then (k env J3).bind fun h3 J4 => app2 go J4 h2 h3 else .ok (.val (.bl false)) J3

def RepTop (K : PySem.W.Frag) (H : Hp) (Y : Addr → Prop) : D → V → Prop
  | .lst ds, v => ∃ a vs, v = .ref a ∧ SqL K H a vs ∧ Reps K H Y ds vs
  | d, v => Rep K H Y d v
def PureOut (K : PySem.W.Frag) (Y : Addr → Prop) (H H' : Hp) (z : HV) (v : V) : Prop := Same H H' ∧ match z with
  | .val d => Rep K H' Y d v
  | .new ds => ∃ p vs, v = .ref p ∧ H p = none ∧ H' p = some (.lst vs) ∧ Reps K H' (fun a => Y a ∨ a = p) ds vs
  | .jar _ => False
  | .exc _ => False
def Sem1 (K : PySem.W.Frag) (r : V → Hp → VK → Prop) (fo : F1) : Prop := ∀ (H : Hp) (Y : Addr → Prop) (x : V) (d : D) (z : HV) (Q : VK), Lists H Y → RepTop K H Y d x → fo d = some z → (∀ v H', PureOut K Y H H' z v → Q v H') → r x H Q
def Sem2 (K : PySem.W.Frag) (r : R2) (fo : F2) : Prop := ∀ (H : Hp) (Y : Addr → Prop) (x y : V) (d e : D) (z : HV) (Q : VK), Lists H Y → RepTop K H Y d x → RepTop K H Y e y → fo d e = some z → (∀ v H', PureOut K Y H H' z v → Q v H') → r x y H Q

section
variable {K : PySem.W.Frag} {H : Hp} {Y : Addr → Prop} {v : V} {Z : List Zx}
theorem top_non (h : RepTop K H Y .non v) : v = .non := rep_non (K := K) (H := H) (Y := Y) h
theorem top_bl {b : Bool} (h : RepTop K H Y (.bl b) v) : v = .bl b := rep_bl (K := K) (H := H) (Y := Y) h
theorem top_int {b : Int} (h : RepTop K H Y (.int b) v) : v = .int b := rep_int (K := K) (H := H) (Y := Y) h
theorem top_str {b : Str} (h : RepTop K H Y (.str b) v) : v = .str b := rep_str (K := K) (H := H) (Y := Y) h
theorem top_tup {b : List D} (h : RepTop K H Y (.tup b) v) : ∃ a vs, v = .ref a ∧ SqT K H a vs ∧ Reps K H Y b vs := rep_tup (K := K) (H := H) (Y := Y).mp h
end
section
variable {K : PySem.W.Frag} {W : WX} {Xo : Addr → Prop} {js : List Addr} {H H1 H2 H' : Hp} {σ : L2.St} {env : En} {J J1 J2 : Jr} {Z : List Zx}
theorem deref_top (F : Fit K Z Xo js H σ env J) {h : HV} {v : V} {d : D} (x : HRep K Z H (Yf Xo js) js (norm h) v) (e : deref J h = some d) : RepTop K H (Yf Xo js) d v := by
  have val : ∀ d, Rep K H (Yf Xo js) d v → RepTop K H (Yf Xo js) d v := fun d r => by
    cases d with
    | lst ds =>
      obtain ⟨a, vs, e, s, q⟩ := rep_lst.mp r
      exact ⟨a, vs, e, s.sq, q⟩
    | _ => exact r
  cases h with
  | val d' =>
    cases e
    exact val _ x
  | new ds =>
    cases e
    exact val _ x
  | exc k => cases e
  | jar k =>
    obtain ⟨a, ea, ev⟩ := x
    obtain ⟨ds, vs, h1, h2, h3⟩ := F.at ea
    have e' : (J[k]?).map D.lst = some d := e
    rw [h1] at e'
    cases e'
    exact ⟨a, vs, ev, .of h2, h3⟩
theorem none_back (e : Ext js H H2) (hl : Lists H2 (Yf Xo js)) {p : Addr} (h : H2 p = none) : H p = none := by
  cases q : H p with
  | none => rfl
  | some o =>
    by_cases hp : p ∈ js
    · obtain ⟨xs, z⟩ := hl p (.inr hp)
      rw [h] at z; cases z
    · rw [e p o q hp] at h; cases h
theorem HRep.ext (F : Fit K Z Xo js H σ env J) (e : Ext js H H1) {h : HV} {v : V} (x : HRep K Z H (Yf Xo js) js h v) : HRep K Z H1 (Yf Xo js) js h v :=
  x.move (fun a o q n => e a o q fun z => n (.inr z)) (fun _ y => .inl y) F.lists
theorem Rep.ext (F : Fit K Z Xo js H σ env J) (e : Ext js H H1) {d : D} {v : V} (x : Rep K H (Yf Xo js) d v) : Rep K H1 (Yf Xo js) d v :=
  rep_move (fun a o q n => e a o q fun z => n (.inr z)) (fun _ y => .inl y) F.lists _ _ x
theorem Reps.ext (F : Fit K Z Xo js H σ env J) (e : Ext js H H1) {d : List D} {v : List V} (x : Reps K H (Yf Xo js) d v) : Reps K H1 (Yf Xo js) d v :=
  reps_move (fun a o q n => e a o q fun z => n (.inr z)) (fun _ y => .inl y) F.lists _ _ x
/-- a pure operation's end -/
theorem pure_out (F : Fit K Z Xo js H σ env J) (e0 : Ext js H1 H) {z : HV} {v : V} (p : PureOut K (Yf Xo js) H H' z v) : Ext js H1 H' ∧ OutN K Z Xo js H1 H' σ env J z v := by
  obtain ⟨s, q⟩ := p
  refine ⟨e0.trans (.of s), ?_⟩
  cases z with
  | val d => exact ⟨F.same s, q⟩
  | jar k => exact q.elim
  | exc k => exact q.elim
  | new ds =>
    obtain ⟨p, vs, e, hp, hq, r⟩ := q
    have G := F.lock s hp hq
    refine ⟨p, vs, e, none_back e0 F.lists hp, hq, G, reps_move (fun _ _ e _ => e) (fun a y => .inl ?_) (fun a y => ?_) _ _ r⟩
    · rcases y with (y | y) | y
      · exact .inl (.inl y)
      · exact .inr y
      · exact .inl (.inr y)
    · rcases y with (y | y) | y
      · exact G.lists a (.inl (.inl y))
      · exact G.lists a (.inr y)
      · exact G.lists a (.inl (.inr y))
theorem postD_of {Q : VK} {r : R HV} (F : Fit K Z Xo js H σ env J) (p : PostD K Z W Xo js H σ env Q r) : PostN K Z W Xo js H σ env Q r := by
  cases r with
  | ok h J1 => exact fun v H' e o => let ⟨G, x⟩ := outN_norm F.out o; p v H' e G x
  | err c fs J1 => exact p
  | stuck => exact p
end

section
variable {X : Cx} {W : WX} {e a b c : Expr} {f g k : EF} {pos : Pos} {rest : List Expr} {cb db : BF} {Z : List Zx}
theorem toD (h : PE X e (tN X.K Z W f)) : PE X e (tD X.K Z W f) := pe_mono h fun σ H Q ⟨Xo, js, env, J, F, p⟩ => ⟨Xo, js, env, J, F, postD_of F p⟩
/-- where no fresh list comes -/
def NoNew (f : EF) : Prop := ∀ env J h J', f env J = .ok h J' → norm h = h ∧ ∀ ds, h ≠ .new ds
theorem toN (h : PE X e (tD X.K Z W f)) (hn : NoNew f) : PE X e (tN X.K Z W f) := pe_mono h fun σ H Q ⟨Xo, js, env, J, F, p⟩ => ⟨Xo, js, env, J, F, by
  cases r : f env J with
  | ok z J1 =>
    rw [r] at p
    intro v H' e1 G x
    obtain ⟨n1, n2⟩ := hn env J z J1 r
    rw [n1] at x
    refine p v H' e1 ?_
    cases z with
    | val d => exact ⟨G, x⟩
    | jar k => exact ⟨G, x⟩
    | exc k => exact ⟨G, x⟩
    | new ds => exact (n2 ds rfl).elim
  | err c fs J1 => rw [r] at p; exact p
  | stuck => rw [r] at p; exact p⟩

theorem pd_name {i : Nat} {x : Str} (h : PE X (.Name x pos) (tVar i)) : PE X (.Name x pos) (tD X.K Z W (eName i)) := pe_mono h fun σ H Q ⟨Xo, js, env, J, F, p⟩ => by
  unfold eName at p
  cases r : env[i]? with
  | none => rw [r] at p; exact p.elim
  | some o =>
    cases o with
    | none => rw [r] at p; exact p.elim
    | some z =>
      rw [r] at p
      obtain ⟨v, e1, x⟩ := F.slot i z r
      refine ⟨v, e1, p v H .refl F ?_⟩
      cases z with
      | new ds => exact x.elim
      | _ => exact x
theorem nn_name {i : Nat} : True := trivial
theorem pd_c {t : TE} {d : D} {v : V} (h : PE X e (tC v)) (hr : ∀ H Y, Rep X.K H Y d v) : PE X e (tD X.K Z W (eC d)) := pe_mono h fun σ H Q ⟨Xo, js, env, J, F, p⟩ => p v H .refl F (hr _ _)
theorem pd_int {i j} : PE X (.Constant (.int i) j pos) (tD X.K Z W (eC (.int i))) := pd_c (t := tC (.int i)) pe_int fun _ _ => mk_int
theorem pd_bl {i j} : PE X (.Constant (.bool i) j pos) (tD X.K Z W (eC (.bl i))) := pd_c (t := tC (.bl i)) pe_bl fun _ _ => mk_bl
theorem pd_str {i j} : PE X (.Constant (.str i) j pos) (tD X.K Z W (eC (.str i))) := pd_c (t := tC (.str i)) pe_str fun _ _ => mk_str
theorem pd_non {j} : PE X (.Constant .none j pos) (tD X.K Z W (eC .non)) := pd_c (t := tC .non) pe_non fun _ _ => mk_non

theorem un_read {r : V → Hp → VK → Prop} {fo : F1} {ta : TE} (sem : Sem1 X.K r fo) (m : ∀ σ H Q, tD X.K Z W f σ H Q → ta σ H Q) {σ : L2.St} {H : Hp} {Q : VK} (w : tN X.K Z W (eUn fo f) σ H Q) : ta σ H fun x H1 => r x H1 Q := by
  obtain ⟨Xo, js, env, J, F, p⟩ := w
  refine m _ _ _ ⟨Xo, js, env, J, F, ?_⟩
  unfold eUn at p
  cases hf : f env J with
  | stuck => rw [hf] at p; exact p.elim
  | err c fs J1 => rw [hf] at p; exact p
  | ok h1 J1 =>
    rw [hf] at p
    intro x H1 e1 F1 x1
    have p : PostN X.K Z W Xo js H σ env Q (app1 fo J1 h1) := p
    unfold app1 at p
    cases hd : deref J1 h1 with
    | none => rw [hd] at p; exact p.elim
    | some d =>
      rw [hd] at p
      have p : PostN X.K Z W Xo js H σ env Q (give J1 (fo d)) := p
      cases hz : fo d with
      | none => rw [hz] at p; exact p.elim
      | some z =>
        rw [hz] at p
        refine sem H1 (Yf Xo js) x d z Q F1.lists (deref_top F1 x1 hd) hz fun v H' o => ?_
        obtain ⟨e2, o2⟩ := pure_out F1 e1 o
        exact p v H' e2 o2
theorem app2_read {r : R2} {fo : F2} (sem : Sem2 X.K r fo) {Xo : Addr → Prop} {js : List Addr} {H H2 : Hp} {σ : L2.St} {env : En} {J2 : Jr} {h1 h2 : HV} {x y : V} {Q : VK} (e02 : Ext js H H2) (F2 : Fit X.K Z Xo js H2 σ env J2)
    (x1 : HRep X.K Z H2 (Yf Xo js) js (norm h1) x) (y2 : HRep X.K Z H2 (Yf Xo js) js (norm h2) y) (p : PostN X.K Z W Xo js H σ env Q (app2 fo J2 h1 h2)) : r x y H2 Q := by
  unfold app2 at p
  cases hd : deref J2 h1 with
  | none => rw [hd] at p; exact p.elim
  | some d =>
    cases he : deref J2 h2 with
    | none => rw [hd, he] at p; exact p.elim
    | some e =>
      rw [hd, he] at p
      have p : PostN X.K Z W Xo js H σ env Q (give J2 (fo d e)) := p
      cases hz : fo d e with
      | none => rw [hz] at p; exact p.elim
      | some z =>
        rw [hz] at p
        refine sem H2 (Yf Xo js) x y d e z Q F2.lists (deref_top F2 x1 hd) (deref_top F2 y2 he) hz fun v H' o => ?_
        obtain ⟨e3, o2⟩ := pure_out F2 e02 o
        exact p v H' e3 o2
theorem bin_read {r : R2} {fo : F2} (sem : Sem2 X.K r fo) {σ : L2.St} {H : Hp} {Q : VK} (w : tN X.K Z W (eBin fo f g) σ H Q) : tOp r (tD X.K Z W f) (tD X.K Z W g) σ H Q := by
  obtain ⟨Xo, js, env, J, F, p⟩ := w
  refine ⟨Xo, js, env, J, F, ?_⟩
  unfold eBin at p
  cases hf : f env J with
  | stuck => rw [hf] at p; exact p.elim
  | err c fs J1 => rw [hf] at p; exact p
  | ok h1 J1 =>
    rw [hf] at p
    intro x H1 e1 F1 x1
    have p : PostN X.K Z W Xo js H σ env Q ((g env J1).bind fun h2 J2 => app2 fo J2 h1 h2) := p
    refine ⟨Xo, js, env, J1, F1, ?_⟩
    cases hg : g env J1 with
    | stuck => rw [hg] at p; exact p.elim
    | err c fs J2 => rw [hg] at p; exact p.later e1
    | ok h2 J2 =>
      rw [hg] at p
      intro y H2 e2 F2 y2
      exact app2_read sem (e1.trans e2) F2 (x1.ext F1 e2) y2 p
theorem pn_bin {op : Operator} {r : R2} {fo : F2} (ho : OpR X (binaryOp op) r) (sem : Sem2 X.K r fo) (ha : PE X a (tD X.K Z W f)) (hb : PE X b (tD X.K Z W g)) : PE X (.BinOp a op b pos) (tN X.K Z W (eBin fo f g)) :=
  pe_mono (pe_op ho ha hb) fun σ H Q w => bin_read sem w
theorem pn_cmp {op : CmpOp} {r : R2} {fo : F2} (ho : OpR X (compareOp op) r) (sem : Sem2 X.K r fo) (ha : PE X a (tD X.K Z W f)) (hb : PE X b (tD X.K Z W g)) (hm : behindInMarks op b = false) : PE X (.Compare a [op] [b] pos) (tN X.K Z W (eBin fo f g)) :=
  pe_mono (pe_cmpR ho ha hb hm) fun σ H Q w => bin_read sem w
theorem pn_un {op : UnaryOp} {r : V → Hp → VK → Prop} {fo : F1} (ho : UnR X (unaryOp op) r) (sem : Sem1 X.K r fo) (ha : PE X a (tD X.K Z W f)) : PE X (.UnaryOp op a pos) (tN X.K Z W (eUn fo f)) :=
  pe_mono (pe_un ho ha) fun σ H Q w => un_read sem (fun _ _ _ z => z) w
theorem pn_ix {r : R2} {fo : F2} (ho : IxR X r) (sem : Sem2 X.K r fo) (ha : PE X a (tD X.K Z W f)) (hb : PE X b (tD X.K Z W g)) (hs : PlainIx b) : PE X (.Subscript a b pos) (tN X.K Z W (eBin fo f g)) :=
  pe_mono (pe_ix ho ha hb hs) fun σ H Q w => bin_read sem w
/-- a built-in of one, of two arguments -/
theorem pn_b1 {x : Str} {id : String} {p : Pos} {r : List V → Hp → VK → Prop} {fo : F1} (hc : CallR X (.builtin id) r) (sem : Sem1 X.K (fun x H Q => r [x] H Q) fo) (hg : Gl X x) (hm : X.mg x = none) (hv : bootBuiltins x = some (.builtin id)) (ha : PE X a (tD X.K Z W f))
    (hn : x ≠ "__name__") (hdb : (x == ("__debug__" : Str)) = false) (h1 : starEach [a] X.env = (false, eval a X.env) :: starEach [] X.env) (hpl : (backTo pos (starEach [] X.env)).any (·.1) = false) : PE X (.Call (.Name x p) [a] [] pos) (tN X.K Z W (eUn fo f)) :=
  pe_mono (pe_callB hc hg hm hv (pa_cons ha pa_nil h1) hn hdb h1 hpl) fun σ H Q w => un_read (ta := tD X.K Z W f) sem (fun _ _ _ z => z) w
theorem pn_t1 {x : Str} {T : String} {p : Pos} {r : List V → Hp → VK → Prop} {fo : F1} (hc : CallR X (.type T) r) (sem : Sem1 X.K (fun x H Q => r [x] H Q) fo) (hg : Gl X x) (hm : X.mg x = none) (hv : bootBuiltins x = some (.type T)) (ha : PE X a (tD X.K Z W f))
    (hn : x ≠ "__name__") (hdb : (x == ("__debug__" : Str)) = false) (h1 : starEach [a] X.env = (false, eval a X.env) :: starEach [] X.env) (hpl : (backTo pos (starEach [] X.env)).any (·.1) = false) : PE X (.Call (.Name x p) [a] [] pos) (tN X.K Z W (eUn fo f)) :=
  pe_mono (pe_callTy hc hg hm hv (pa_cons ha pa_nil h1) hn hdb h1 hpl) fun σ H Q w => un_read (ta := tD X.K Z W f) sem (fun _ _ _ z => z) w
theorem pn_b2 {x : Str} {id : String} {p : Pos} {r : List V → Hp → VK → Prop} {fo : F2} (hc : CallR X (.builtin id) r) (sem : Sem2 X.K (fun x y H Q => r [x, y] H Q) fo) (hg : Gl X x) (hm : X.mg x = none) (hv : bootBuiltins x = some (.builtin id)) (ha : PE X a (tD X.K Z W f)) (hb : PE X b (tD X.K Z W g))
    (hn : x ≠ "__name__") (hdb : (x == ("__debug__" : Str)) = false) (h1 : starEach [a, b] X.env = (false, eval a X.env) :: starEach [b] X.env) (h2 : starEach [b] X.env = (false, eval b X.env) :: starEach [] X.env) (hpl : (backTo pos (starEach [b] X.env)).any (·.1) = false) : PE X (.Call (.Name x p) [a, b] [] pos) (tN X.K Z W (eBin fo f g)) :=
  pe_mono (pe_callB hc hg hm hv (pa_cons ha (pa_cons hb pa_nil h2) h1) hn hdb h1 hpl) fun σ H Q w => bin_read sem w
/-- isinstance(x, T), T a name of a built-in class -/
theorem pn_isi {x : Str} {n : String} {p p2 : Pos} {y : Str} {r : List V → Hp → VK → Prop} {fo : F1} (hc : CallR X (.builtin "isinstance") r) (sem : Sem1 X.K (fun x H Q => r [x, .ty n] H Q) fo) (hg : Gl X x) (hm : X.mg x = none) (hv : bootBuiltins x = some (.builtin "isinstance")) (ha : PE X a (tD X.K Z W f))
    (hy : PE X (.Name y p2) (tC (.ty n)))
    (hn : x ≠ "__name__") (hdb : (x == ("__debug__" : Str)) = false) (h1 : starEach [a, .Name y p2] X.env = (false, eval a X.env) :: starEach [.Name y p2] X.env) (h2 : starEach [.Name y p2] X.env = (false, eval (.Name y p2) X.env) :: starEach [] X.env) (hpl : (backTo pos (starEach [.Name y p2] X.env)).any (·.1) = false) :
    PE X (.Call (.Name x p) [a, .Name y p2] [] pos) (tN X.K Z W (eUn fo f)) :=
  pe_mono (pe_callB hc hg hm hv (pa_cons ha (pa_cons hy pa_nil h2) h1) hn hdb h1 hpl) fun σ H Q w => un_read (ta := tD X.K Z W f) sem (fun _ _ _ z => z) w

/-! ### tests -/
theorem outN_bl {Xo : Addr → Prop} {js : List Addr} {H H' : Hp} {σ : L2.St} {env : En} {J : Jr} {b : Bool} {v : V} (o : OutN X.K Z Xo js H H' σ env J (.val (.bl b)) v) : v = .bl b :=
  rep_bl (K := X.K) (H := H') (Y := Yf Xo js) o.2
theorem out_val {Xo : Addr → Prop} {js : List Addr} {H H' : Hp} {σ : L2.St} {env : En} {J : Jr} {d : D} {v : V} (G : Fit X.K Z Xo js H' σ env J) (r : Rep X.K H' (Yf Xo js) d v) : OutN X.K Z Xo js H H' σ env J (.val d) v := ⟨G, r⟩
theorem out_bl {Xo : Addr → Prop} {js : List Addr} {H H' : Hp} {σ : L2.St} {env : En} {J : Jr} {b : Bool} (G : Fit X.K Z Xo js H' σ env J) : OutN X.K Z Xo js H H' σ env J (.val (.bl b)) (.bl b) := out_val G mk_bl
theorem toB_read {f : EF} {σ : L2.St} {H : Hp} {Q : Bool → Hp → Prop} (w : tT X.K Z W (fun env J => toB (f env J)) σ H Q) : tN X.K Z W f σ H fun x H' => ∃ k, x = .bl k ∧ Q k H' := by
  obtain ⟨Xo, js, env, J, F, p⟩ := w
  refine ⟨Xo, js, env, J, F, ?_⟩
  unfold toB at p
  dsimp only at p
  cases hf : f env J with
  | stuck => rw [hf] at p; exact p.elim
  | err c fs J1 => rw [hf] at p; exact p
  | ok z J1 =>
    rw [hf] at p
    intro v H' e o
    cases z with
    | jar k => exact p.elim
    | exc k => exact p.elim
    | new ds => exact p.elim
    | val d =>
      cases d with
      | bl b => exact ⟨b, outN_bl o, p H' e o.1⟩
      | _ => exact p.elim
theorem pt_cmpD {op : CmpOp} {r : R2} {fo : F2} (ho : OpR X (compareOp op) r) (sem : Sem2 X.K r fo) (ha : PE X a (tD X.K Z W f)) (hb : PE X b (tD X.K Z W g)) (hm : behindInMarks op b = false) : PT X (.Compare a [op] [b] pos) (tT X.K Z W (bCmp fo f g)) :=
  pt_mono (pt_cmpR ho ha hb hm) fun σ H Q w => bin_read sem (toB_read w)
theorem top_truth {H : Hp} {Y : Addr → Prop} {d : D} {v : V} {k : Bool} (x : RepTop X.K H Y d v) (h : truth d = some k) : TruV X.K v H k := by
  cases d with
  | non => cases top_non x; cases h; rfl
  | bl b => cases top_bl x; cases h; rfl
  | int i => cases top_int x; cases h; rfl
  | str y =>
    cases top_str x
    have h : (if y.length ≤ big then some ((y.length : Int) != 0) else none) = some k := h
    by_cases hy : y.length ≤ big
    · rw [if_pos hy] at h
      cases h
      exact ⟨by rw [big_eq]; exact hy, rfl⟩
    · rw [if_neg hy] at h
      cases h
  | tup ds =>
    obtain ⟨a, vs, e, s, q⟩ := top_tup x
    cases e
    cases h
    refine .inr (.inl ⟨vs, s, ?_⟩)
    have := reps_len q
    cases ds <;> cases vs <;> simp_all
  | lst ds =>
    obtain ⟨a, vs, e, s, q⟩ := x
    cases e
    cases h
    refine .inl ⟨vs, s, ?_⟩
    have := reps_len q
    cases ds <;> cases vs <;> simp_all
theorem pt_truthD (ha : PE X a (tD X.K Z W f)) (he : ∀ whole, isTrue a X.env whole = (do let v ← whole; standAt a.pos; holding [v] (truthy v))) : PT X a (tT X.K Z W (bTruth f)) :=
  pt_mono (pt_truth ha he) fun σ H Q ⟨Xo, js, env, J, F, p⟩ => by
    refine ⟨Xo, js, env, J, F, ?_⟩
    unfold bTruth at p
    cases hf : f env J with
    | stuck => rw [hf] at p; exact p.elim
    | err c fs J1 => rw [hf] at p; exact p
    | ok z J1 =>
      rw [hf] at p
      intro v H' e F1 o
      have p : PostB X.K Z W Xo js H σ env Q (match deref J1 z with
        | some d => (match truth d with | some b => .ok b J1 | none => .stuck)
        | none => .stuck) := p
      cases hd : deref J1 z with
      | none => rw [hd] at p; exact p.elim
      | some d =>
        rw [hd] at p
        have p : PostB X.K Z W Xo js H σ env Q (match truth d with | some b => .ok b J1 | none => .stuck) := p
        cases ht : truth d with
        | none => rw [ht] at p; exact p.elim
        | some k =>
          rw [ht] at p
          exact ⟨k, top_truth (deref_top F1 o hd) ht, p H' e F1⟩
theorem pt_notD (ha : PT X a (tT X.K Z W cb)) : PT X (.UnaryOp .Not a pos) (tT X.K Z W (bNot cb)) := pt_mono (pt_not ha) fun σ H Q ⟨Xo, js, env, J, F, p⟩ => by
  refine ⟨Xo, js, env, J, F, ?_⟩
  unfold bNot at p
  cases hf : cb env J with
  | stuck => rw [hf] at p; exact p.elim
  | err c fs J1 => rw [hf] at p; exact p
  | ok z J1 => rw [hf] at p; exact fun H' e G => p H' e G
theorem pw_mono {X : Cx} {e : Expr} {t t' : TT} (h : PW X e t) (m : ∀ σ H Q, t' σ H Q → t σ H Q) : PW X e t' := ⟨fun wh pins s σ H Q I w => h.run wh pins s σ H Q I (m σ H Q w)⟩
theorem pw_andD (ha : PT X a (tT X.K Z W cb)) (hb : PW X (.BoolOp .And (b :: rest) pos) (tT X.K Z W db)) : PW X (.BoolOp .And (a :: b :: rest) pos) (tT X.K Z W (bAnd cb db)) := pw_mono (pw_and ha hb) fun σ H Q ⟨Xo, js, env, J, F, p⟩ => by
  refine ⟨Xo, js, env, J, F, ?_⟩
  unfold bAnd at p
  cases hf : cb env J with
  | stuck => rw [hf] at p; exact p.elim
  | err c fs J1 => rw [hf] at p; exact p
  | ok z J1 =>
    rw [hf] at p
    intro H' e G
    cases z with
    | false => exact iteF (p H' e G)
    | true =>
      refine iteT ⟨Xo, js, env, J1, G, ?_⟩
      have p : PostB X.K Z W Xo js H σ env Q (db env J1) := p
      cases hd : db env J1 with
      | stuck => rw [hd] at p; exact p.elim
      | err c fs J2 => rw [hd] at p; exact p.later e
      | ok y J2 => rw [hd] at p; exact fun H2 e2 G2 => p H2 (e.trans e2) G2
theorem pw_orD (ha : PT X a (tT X.K Z W cb)) (hb : PW X (.BoolOp .Or (b :: rest) pos) (tT X.K Z W db)) : PW X (.BoolOp .Or (a :: b :: rest) pos) (tT X.K Z W (bOr cb db)) := pw_mono (pw_or ha hb) fun σ H Q ⟨Xo, js, env, J, F, p⟩ => by
  refine ⟨Xo, js, env, J, F, ?_⟩
  unfold bOr at p
  cases hf : cb env J with
  | stuck => rw [hf] at p; exact p.elim
  | err c fs J1 => rw [hf] at p; exact p
  | ok z J1 =>
    rw [hf] at p
    intro H' e G
    cases z with
    | true => exact iteT (p H' e G)
    | false =>
      refine iteF ⟨Xo, js, env, J1, G, ?_⟩
      have p : PostB X.K Z W Xo js H σ env Q (db env J1) := p
      cases hd : db env J1 with
      | stuck => rw [hd] at p; exact p.elim
      | err c fs J2 => rw [hd] at p; exact p.later e
      | ok y J2 => rw [hd] at p; exact fun H2 e2 G2 => p H2 (e.trans e2) G2
/-! ### not, and, or as values of bools; a if t else b -/
theorem later_N {Xo : Addr → Prop} {js : List Addr} {H H1 : Hp} {σ : L2.St} {env : En} {Q : VK} {r : R HV} (F : Lists H1 (Yf Xo js)) (e : Ext js H H1) (p : PostN X.K Z W Xo js H σ env Q r) : PostN X.K Z W Xo js H1 σ env Q r := by
  cases r with
  | stuck => exact p
  | err c fs J => exact p.later e
  | ok h J =>
    intro v H' e2 o
    refine p v H' (e.trans e2) ?_
    cases h with
    | val d => exact o
    | jar k => exact o
    | exc k => exact o
    | new ds =>
      obtain ⟨p, vs, a1, a2, a3⟩ := o
      exact ⟨p, vs, a1, none_back e F a2, a3⟩
theorem pn_not (ha : PE X a (tN X.K Z W f)) : PE X (.UnaryOp .Not a pos) (tN X.K Z W (eNot f)) := pe_mono (pe_not ha) fun σ H Q ⟨Xo, js, env, J, F, p⟩ => by
  refine toB_read (Q := fun k H' => Q (.bl (!k)) H') ⟨Xo, js, env, J, F, (?_ : PostB X.K Z W Xo js H σ env _ (toB (f env J)))⟩
  unfold eNot at p
  cases hf : toB (f env J) with
  | stuck => rw [hf] at p; exact p.elim
  | err c fs J1 => rw [hf] at p; exact p
  | ok z J1 => rw [hf] at p; exact fun H' e G => p (.bl (!z)) H' e (out_bl G)
theorem pn_one {op} (h : PE X a (tN X.K Z W f)) : PE X (.BoolOp op [a] pos) (tN X.K Z W f) := pe_one h
theorem pn_and (ha : PE X a (tN X.K Z W f)) (hb : PE X (.BoolOp .And (b :: rest) pos) (tN X.K Z W g)) : PE X (.BoolOp .And (a :: b :: rest) pos) (tN X.K Z W (eAnd f g)) := pe_mono (pe_and ha hb) fun σ H Q ⟨Xo, js, env, J, F, p⟩ => by
  refine toB_read (Q := fun k H' => if k = true then tN X.K Z W g σ H' Q else Q (.bl false) H') ⟨Xo, js, env, J, F, (?_ : PostB X.K Z W Xo js H σ env _ (toB (f env J)))⟩
  unfold eAnd at p
  cases hf : toB (f env J) with
  | stuck => rw [hf] at p; exact p.elim
  | err c fs J1 => rw [hf] at p; exact p
  | ok z J1 =>
    rw [hf] at p
    intro H' e G
    cases z with
    | false => exact iteF (p (.bl false) H' e (out_bl G))
    | true => exact iteT ⟨Xo, js, env, J1, G, later_N G.lists e p⟩
theorem pn_or (ha : PE X a (tN X.K Z W f)) (hb : PE X (.BoolOp .Or (b :: rest) pos) (tN X.K Z W g)) : PE X (.BoolOp .Or (a :: b :: rest) pos) (tN X.K Z W (eOr f g)) := pe_mono (pe_or ha hb) fun σ H Q ⟨Xo, js, env, J, F, p⟩ => by
  refine toB_read (Q := fun k H' => if k = true then Q (.bl true) H' else tN X.K Z W g σ H' Q) ⟨Xo, js, env, J, F, (?_ : PostB X.K Z W Xo js H σ env _ (toB (f env J)))⟩
  unfold eOr at p
  cases hf : toB (f env J) with
  | stuck => rw [hf] at p; exact p.elim
  | err c fs J1 => rw [hf] at p; exact p
  | ok z J1 =>
    rw [hf] at p
    intro H' e G
    cases z with
    | true => exact iteT (p (.bl true) H' e (out_bl G))
    | false => exact iteF ⟨Xo, js, env, J1, G, later_N G.lists e p⟩
theorem pn_if (hc : PT X c (tT X.K Z W cb)) (ha : PE X a (tN X.K Z W f)) (hb : PE X b (tN X.K Z W g)) : PE X (.IfExp c a b pos) (tN X.K Z W (eIf cb f g)) := pe_mono (pe_ifExp hc ha hb) fun σ H Q ⟨Xo, js, env, J, F, p⟩ => by
  refine ⟨Xo, js, env, J, F, ?_⟩
  unfold eIf at p
  cases hf : cb env J with
  | stuck => rw [hf] at p; exact p.elim
  | err c fs J1 => rw [hf] at p; exact p
  | ok z J1 =>
    rw [hf] at p
    intro H' e G
    cases z with
    | true => exact iteT ⟨Xo, js, env, J1, G, later_N G.lists e p⟩
    | false => exact iteF ⟨Xo, js, env, J1, G, later_N G.lists e p⟩
theorem pn_chain {op op' : CmpOp} {r r' : R2} {fo go : F2} {pos : Pos} (ho : OpR X (compareOp op) r) (ho' : OpR X (compareOp op') r') (sem : Sem2 X.K r fo) (sem' : Sem2 X.K r' go) (ha : PE X a (tD X.K Z W f)) (hb : PE X b (tD X.K Z W g)) (hc : PE X c (tD X.K Z W k))
    (w : PE X e (tChain r r' (tD X.K Z W f) (tD X.K Z W g) (tD X.K Z W k))) : PE X e (tN X.K Z W (eChain fo go f g k)) := pe_mono w fun σ H Q ⟨Xo, js, env, J, F, p⟩ => by
  refine ⟨Xo, js, env, J, F, ?_⟩
  unfold eChain at p
  cases hf : f env J with
  | stuck => rw [hf] at p; exact p.elim
  | err c fs J1 => rw [hf] at p; exact p
  | ok h1 J1 =>
    rw [hf] at p
    intro x H1 e1 F1 x1
    refine ⟨Xo, js, env, J1, F1, ?_⟩
    have p : PostN X.K Z W Xo js H σ env Q ((g env J1).bind fun h2 J2 => (toB (app2 fo J2 h1 h2)).bind fun b J3 => if b = true then (k env J3).bind fun h3 J4 => app2 go J4 h2 h3 else .ok (.val (.bl false)) J3) := p
    cases hg : g env J1 with
    | stuck => rw [hg] at p; exact p.elim
    | err c fs J2 => rw [hg] at p; exact p.later e1
    | ok h2 J2 =>
      rw [hg] at p
      intro y H2 e2 F2 y2
      refine app2_read (W := W) sem (H := H2) .refl F2 (x1.ext F1 e2) y2 ?_
      have p : PostN X.K Z W Xo js H σ env Q ((toB (app2 fo J2 h1 h2)).bind fun b J3 => if b = true then (k env J3).bind fun h3 J4 => app2 go J4 h2 h3 else .ok (.val (.bl false)) J3) := p
      cases hr : app2 fo J2 h1 h2 with
      | stuck => rw [hr] at p; exact p.elim
      | err c fs J3 => rw [hr] at p; exact p.later (e1.trans e2)
      | ok z J3 =>
        rw [hr] at p
        intro v H3 e3 o
        have e03 := (e1.trans e2).trans e3
        cases z with
        | jar k => exact p.elim
        | exc k => exact p.elim
        | new ds => exact p.elim
        | val d =>
          cases d with
          | bl q =>
            refine ⟨q, outN_bl o, ?_⟩
            cases q with
            | false => exact iteF (p (.bl false) H3 e03 (out_bl o.1))
            | true =>
              refine iteT ⟨Xo, js, env, J3, o.1, ?_⟩
              have p : PostN X.K Z W Xo js H σ env Q ((k env J3).bind fun h3 J4 => app2 go J4 h2 h3) := p
              cases hk : k env J3 with
              | stuck => rw [hk] at p; exact p.elim
              | err c fs J4 => rw [hk] at p; exact p.later e03
              | ok h3 J4 =>
                rw [hk] at p
                intro u H4 e4 F4 u4
                exact app2_read sem' (e03.trans e4) F4 ((y2.ext F2 e3).ext o.1 e4) u4 p
          | _ => exact p.elim
end
end L2.Pz
set_option Elab.async false
set_option linter.all false
set_option maxRecDepth 100000
set_option maxHeartbeats 4000000
set_option autoImplicit false
namespace L2.Pz
open PySem PySem.Spec PyProof.Rows

/-! ### what operators do with data -/
def dAdd : F2
  | .int i, .int j => some (.val (.int (i + j)))
  | .str x, .str y => if x.length + y.length ≤ big then some (.val (.str (x ++ y))) else none
  | .tup xs, .tup ys => if xs.length + ys.length ≤ big then some (.val (.tup (xs ++ ys))) else none
  | .lst xs, .lst ys => if xs.length + ys.length ≤ big then some (.new (xs ++ ys)) else none
  | _, _ => none
def dInt2 (C : Int → Int → Bool) (g : Int → Int → D) : F2
  | .int i, .int j => if C i j = true then some (.val (g i j)) else none
  | _, _ => none
def yes2 : Int → Int → Bool := fun _ _ => true
def dSub : F2 := dInt2 yes2 fun i j => .int (i - j)
def dMul : F2 := dInt2 (fun i j => decide (i.natAbs.log2 + j.natAbs.log2 < 1000000)) fun i j => .int (i * j)
def dMod : F2 := dInt2 (fun _ j => decide (0 < j)) fun i j => .int (i % j)
def dFloor : F2 := dInt2 (fun _ j => decide (0 < j) && decide (j.natAbs.log2 < 9000)) fun i j => .int (i / j)
def dShl : F2 := dInt2 (fun i j => decide (0 ≤ j) && (decide (j ≤ 1000000) && decide (i.natAbs < 2 ^ 64))) fun i j => .int (i * 2 ^ j.toNat)
def dPow : F2 := dInt2 (fun i j => decide (0 ≤ j) && (decide (j ≤ 1000000) && decide (i.natAbs < 2 ^ 64))) fun i j => .int (i ^ j.toNat)
def dShr : F2 := dInt2 (fun _ j => decide (0 ≤ j)) fun i j => .int (i / 2 ^ j.toNat)
def dXor : F2 := dInt2 yes2 fun i j => .int (Builtin.bitXor i j)
def dLt : F2 := dInt2 yes2 fun i j => .bl (decide (i < j))
def dLe : F2 := dInt2 yes2 fun i j => .bl (decide (i ≤ j))
def dGt : F2 := dInt2 yes2 fun i j => .bl (decide (j < i))
def dGe : F2 := dInt2 yes2 fun i j => .bl (decide (j ≤ i))
def dNeg : F1
  | .int i => some (.val (.int (-i)))
  | _ => none
mutual
def toPy : D → PyData
  | .non => .none
  | .bl b => .bool b
  | .int i => .int i
  | .str x => .str x
  | .tup ds => .tuple (toPys ds)
  | .lst ds => .list (toPys ds)
def toPys : List D → List PyData
  | [] => []
  | d :: ds => toPy d :: toPys ds
end
def shp (d : D) : Bool := SeqAt.shaped (toPy d)
def deq (d e : D) : Bool := PyData.eqv (toPy d) (toPy e)
def dEq : F2 := fun d e => if (shp d && shp e) = true then some (.val (.bl (deq d e))) else none
def dNe : F2 := fun d e => if (shp d && shp e) = true then some (.val (.bl (!deq d e))) else none
def dIsN : F1
  | .non => some (.val (.bl true))
  | _ => some (.val (.bl false))
def dNotN : F1
  | .non => some (.val (.bl false))
  | _ => some (.val (.bl true))
def inAny (d : D) (ds : List D) : Bool := ds.any fun z => deq z d
def dInS : D → Str → Option HV
  | .str x, y => match x.cps.toList with
    | [c] => some (.val (.bl (decide (c ∈ y.cps.toList))))
    | _ => none
  | _, _ => none
def dIn : F2 := fun d e => match e with
  | .str y => dInS d y
  | .lst ds => if (shp d && shp (.lst ds)) = true then some (.val (.bl (inAny d ds))) else none
  | .tup ds => if (shp d && shp (.tup ds)) = true then some (.val (.bl (inAny d ds))) else none
  | _ => none
def dNotIn : F2 := fun d e => match dIn d e with
  | some (.val (.bl b)) => some (.val (.bl (!b)))
  | _ => none
def dIx : F2
  | .lst ds, .int i => (atI ds i).map HV.val
  | .tup ds, .int i => (atI ds i).map HV.val
  | .str z, .int i => if z.length ≤ big then (atI z.cps.toList i).map fun c => .val (.str ⟨#[c]⟩) else none
  | _, _ => none
def dLen : F1
  | .lst ds => some (.val (.int ds.length))
  | .tup ds => some (.val (.int ds.length))
  | .str z => if z.length ≤ big then some (.val (.int z.length)) else none
  | _ => none
def dList : F1
  | .lst ds => some (.new ds)
  | .tup ds => some (.new ds)
  | _ => none
def dTuple : F1
  | .lst ds => some (.val (.tup ds))
  | .tup ds => some (.val (.tup ds))
  | _ => none
def dAbs : F1
  | .int i => some (.val (.int (if i < 0 then -i else i)))
  | _ => none
def dToInt : F1
  | .int i => some (.val (.int i))
  | .bl b => some (.val (.int (if b then 1 else 0)))
  | _ => none
def dMax : F2 := dInt2 yes2 fun i j => .int (if j > i then j else i)
def dMin : F2 := dInt2 yes2 fun i j => .int (if j < i then j else i)
def tyName : D → String
  | .non => "NoneType"
  | .bl _ => "bool"
  | .int _ => "int"
  | .str _ => "str"
  | .tup _ => "tuple"
  | .lst _ => "list"
def isaS (T n : String) : Bool := decide (n = T) || (decide (T = "int") && decide (n = "bool"))
def isa (T : String) (d : D) : Bool := isaS T (tyName d)
def dIsa (T : String) : F1 := fun d => some (.val (.bl (isa T d)))
def asInts : List D → Option (List Int)
  | [] => some []
  | .int i :: r => (asInts r).map (i :: ·)
  | _ => none
def insI (i : Int) : List Int → List Int
  | [] => [i]
  | j :: r => if i ≤ j then i :: j :: r else j :: insI i r
def isort : List Int → List Int
  | [] => []
  | i :: r => insI i (isort r)
def dSorted : F1
  | .lst ds => match asInts ds with
    | some ns => if ns.length < 64 then some (.new ((isort ns).map D.int)) else none
    | none => none
  | _ => none

section
variable {K : PySem.W.Frag} {H H' : Hp} {Y : Addr → Prop} {v x y : V} {Z : List Zx}
theorem po_val {d : D} (r : Rep K H Y d v) : PureOut K Y H H (.val d) v := ⟨Same.refl H, r⟩
theorem po_newt {ds : List D} {vs : List V} {p : Addr} (hl : Lists H Y) (hp : H p = none) (r : Reps K H Y ds vs) : PureOut K Y H (upd H p (.tup vs)) (.val (.tup ds)) (.ref p) :=
  ⟨same_upd hp, rep_tup.mpr ⟨p, vs, rfl, .of upd_same, reps_move (fun a o e _ => same_upd hp _ _ e) (fun _ y => .inl y) hl _ _ r⟩⟩
theorem po_newl {ds : List D} {vs : List V} {p : Addr} (hl : Lists H Y) (hp : H p = none) (r : Reps K H Y ds vs) : PureOut K Y H (upd H p (.lst vs)) (.new ds) (.ref p) :=
  ⟨same_upd hp, p, vs, rfl, hp, upd_same, reps_move (fun a o e _ => same_upd hp _ _ e) (fun a y => y.elim .inl fun z => .inr (z ▸ hp)) hl _ _ r⟩
theorem sem_int2 {C : Int → Int → Bool} {g : Int → Int → D} {C' : Int → Int → Prop} {gV : Int → Int → V} (hC : ∀ i j, C i j = true → C' i j) (hg : ∀ i j H Y, Rep K H Y (g i j) (gV i j)) : Sem2 K (rI C' gV) (dInt2 C g) := by
  intro H Y x y d e z Q hl hx hy hz q
  unfold dInt2 at hz
  split at hz
  · rename_i i j
    by_cases h : C i j = true
    · rw [if_pos h] at hz
      cases hz
      exact ⟨i, j, top_int hx, top_int hy, hC i j h, q _ _ (po_val (hg i j _ _))⟩
    · rw [if_neg h] at hz; cases hz
  · cases hz
theorem sem_int20 {g : Int → Int → D} {gV : Int → Int → V} (hg : ∀ i j H Y, Rep K H Y (g i j) (gV i j)) : Sem2 K (rI0 gV) (dInt2 yes2 g) := by
  intro H Y x y d e z Q hl hx hy hz q
  obtain ⟨i, j, a, b, _, c⟩ := sem_int2 (C' := fun _ _ => True) (fun _ _ _ => trivial) hg H Y x y d e z Q hl hx hy hz q
  exact ⟨i, j, a, b, c⟩
theorem sem_sub : Sem2 K (rI0 fun i j => .int (i - j)) dSub := sem_int20 fun _ _ _ _ => mk_int
theorem sem_mul : Sem2 K (rI CMulW fun i j => .int (i * j)) dMul := sem_int2 (fun i j h => show i.natAbs.log2 + j.natAbs.log2 < 1000000 from of_decide_eq_true h) fun _ _ _ _ => mk_int
theorem sem_mod : Sem2 K (rI (fun _ j => 0 < j) fun i j => .int (i % j)) dMod := sem_int2 (fun _ _ h => of_decide_eq_true h) fun _ _ _ _ => mk_int
theorem sem_floor : Sem2 K (rI CDivW fun i j => .int (i / j)) dFloor := sem_int2 (fun _ _ h => by rw [Bool.and_eq_true] at h; exact ⟨of_decide_eq_true h.1, of_decide_eq_true h.2⟩) fun _ _ _ _ => mk_int
theorem sem_shl : Sem2 K (rI CPow fun i j => .int (i * 2 ^ j.toNat)) dShl := sem_int2 (fun _ _ h => by rw [Bool.and_eq_true, Bool.and_eq_true] at h; exact ⟨of_decide_eq_true h.1, of_decide_eq_true h.2.1, of_decide_eq_true h.2.2⟩) fun _ _ _ _ => mk_int
theorem sem_pow : Sem2 K (rI CPow fun i j => .int (i ^ j.toNat)) dPow := sem_int2 (fun _ _ h => by rw [Bool.and_eq_true, Bool.and_eq_true] at h; exact ⟨of_decide_eq_true h.1, of_decide_eq_true h.2.1, of_decide_eq_true h.2.2⟩) fun _ _ _ _ => mk_int
theorem sem_shr : Sem2 K (rI (fun _ j => 0 ≤ j) fun i j => .int (i / 2 ^ j.toNat)) dShr := sem_int2 (fun _ _ h => of_decide_eq_true h) fun _ _ _ _ => mk_int
theorem sem_xor : Sem2 K (rI0 fun i j => .int (Builtin.bitXor i j)) dXor := sem_int20 fun _ _ _ _ => mk_int
theorem sem_lt : Sem2 K (rI0 fun i j => .bl (decide (i < j))) dLt := sem_int20 fun _ _ _ _ => mk_bl
theorem sem_le : Sem2 K (rI0 fun i j => .bl (decide (i ≤ j))) dLe := sem_int20 fun _ _ _ _ => mk_bl
theorem sem_gt : Sem2 K (rI0 fun i j => .bl (decide (j < i))) dGt := sem_int20 fun _ _ _ _ => mk_bl
theorem sem_ge : Sem2 K (rI0 fun i j => .bl (decide (j ≤ i))) dGe := sem_int20 fun _ _ _ _ => mk_bl
theorem sem_neg : Sem1 K (rU fun i => .int (-i)) dNeg := by
  intro H Y x d z Q hl hx hz q
  unfold dNeg at hz
  split at hz
  · cases hz; exact ⟨_, top_int hx, q _ _ (po_val mk_int)⟩
  · cases hz
/-! ### + -/
def rCatL (K : PySem.W.Frag) : R2 := fun x y H Q => ∃ a b xs zs, x = .ref a ∧ y = .ref b ∧ SqL K H a xs ∧ SqL K H b zs ∧ xs.length + zs.length ≤ sizeLine ∧ ∀ p, H p = none → Q (.ref p) (upd H p (.lst (xs ++ zs)))
theorem op_catL {X : Cx} : OpR X (binaryOp .Add) (rCatL X.K) := by
  intro pins s σ H x y v u Q I rx ry h
  obtain ⟨l, b, xs, zs, rfl, rfl, hH, hB, hz, q⟩ := h
  cases rx
  cases ry
  obtain ⟨its, r, pl, z⟩ := I.list hH
  obtain ⟨its2, r2, pl2, z2⟩ := I.list hB
  obtain ⟨⟨cls, dd, data, sl⟩, ho, hc, n, hd⟩ := pl.isList
  obtain ⟨⟨cls2, dd2, data2, sl2⟩, ho2, hc2, n2, hd2⟩ := pl2.isList
  simp only at hc hd hc2 hd2
  subst hc hd hc2 hd2
  have e : its.toArray ++ its2.toArray = (its ++ its2).toArray := by simp
  have h1 := r.length
  have h2 := r2.length
  refine concat_meets ⟨_, ho, rfl⟩ ⟨_, ho2, rfl⟩ noFill_list_add seq_list_add PySem.F.slot_list_add PySem.F.entry_list_add (PySem.F.args_list_add_2 _ _) (list_addW l b its.toArray its2.toArray n n2 dd dd2 sl sl2 (by simp; omega)) ⟨ho, ho2, ?_⟩
  rw [e]
  exact ⟨.ref _, _, I.lnew (t' := s.toks) (r.append r2) (by rw [List.length_append]; omega), rfl, q _ I.fresh⟩
abbrev rStrCat : R2 := fun x y H Q => ∃ i j, x = .str i ∧ y = .str j ∧ i.length + j.length ≤ sizeLine ∧ Q (.str (i ++ j)) H
def rAddAny (K : PySem.W.Frag) : R2 := fun x y H Q => rI0 (fun i j => .int (i + j)) x y H Q ∨ (rStrCat x y H Q ∨ (rCatA K x y H Q ∨ rCatL K x y H Q))
theorem op_addAny {X : Cx} : OpR X (binaryOp .Add) (rAddAny X.K) := op_add.or (op_add_str.or (op_catA.or op_catL))
theorem sem_add : Sem2 K (rAddAny K) dAdd := by
  intro H Y x y d e z Q hl hx hy hz q
  unfold dAdd at hz
  split at hz
  · cases hz
    exact .inl ⟨_, _, top_int hx, top_int hy, q _ _ (po_val mk_int)⟩
  · rename_i a b
    by_cases h : a.length + b.length ≤ big
    · rw [if_pos h] at hz
      cases hz
      exact .inr (.inl ⟨_, _, top_str hx, top_str hy, by rw [big_eq]; exact h, q _ _ (po_val mk_str)⟩)
    · rw [if_neg h] at hz; cases hz
  · rename_i xs ys
    by_cases h : xs.length + ys.length ≤ big
    · rw [if_pos h] at hz
      cases hz
      obtain ⟨a, vs, rfl, s1, r1⟩ := top_tup hx
      obtain ⟨b, us, rfl, s2, r2⟩ := top_tup hy
      have l1 := reps_len r1
      have l2 := reps_len r2
      refine .inr (.inr (.inl ⟨a, b, vs, us, rfl, rfl, s1, s2, by rw [big_eq, l1, l2]; exact h, fun e => ?_, fun _ e => ?_, fun _ _ p hp => q _ _ (po_newt hl hp (reps_append r1 r2))⟩))
      · have : xs = [] := by cases xs with | nil => rfl | cons c r => rw [e] at l1; simp at l1
        subst this
        exact q _ _ (po_val (rep_tup.mpr ⟨b, us, rfl, s2, r2⟩))
      · have : ys = [] := by cases ys with | nil => rfl | cons c r => rw [e] at l2; simp at l2
        subst this
        rw [List.append_nil] at q
        exact q _ _ (po_val (rep_tup.mpr ⟨a, vs, rfl, s1, r1⟩))
    · rw [if_neg h] at hz; cases hz
  · rename_i xs ys
    by_cases h : xs.length + ys.length ≤ big
    · rw [if_pos h] at hz
      cases hz
      obtain ⟨a, vs, rfl, s1, r1⟩ := hx
      obtain ⟨b, us, rfl, s2, r2⟩ := hy
      have l1 := reps_len r1
      have l2 := reps_len r2
      exact .inr (.inr (.inr ⟨a, b, vs, us, rfl, rfl, s1, s2, by rw [big_eq, l1, l2]; exact h, fun p hp => q _ _ (po_newl hl hp (reps_append r1 r2))⟩))
    · rw [if_neg h] at hz; cases hz
  · cases hz
/-! ### ==, in -/
mutual
theorem rep_dp : ∀ (d : D) (v : V), Rep K H Y d v → Dp K H v (toPy d)
  | .non, v, h => by rw [rep_non h]; unfold toPy; exact .non
  | .bl b, v, h => by rw [rep_bl h]; unfold toPy; exact .bl b
  | .int b, v, h => by rw [rep_int h]; unfold toPy; exact .int b
  | .str b, v, h => by rw [rep_str h]; unfold toPy; exact .str b
  | .tup ds, v, h => by
    obtain ⟨a, vs, e, s, r⟩ := rep_tup.mp h
    rw [e]; unfold toPy
    exact .tup s (reps_dp ds vs r)
  | .lst ds, v, h => by
    obtain ⟨a, vs, e, s, r⟩ := rep_lst.mp h
    rw [e]; unfold toPy
    exact .lst s.sq (reps_dp ds vs r)
theorem reps_dp : ∀ (ds : List D) (vs : List V), Reps K H Y ds vs → DpAll K H vs (toPys ds)
  | [], vs, h => by rw [reps_nil.mp h]; unfold toPys; exact .nil
  | d :: ds, vs, h => by
    obtain ⟨v, r, e, h1, h2⟩ := reps_cons.mp h
    rw [e]; unfold toPys
    exact .cons (rep_dp d v h1) (reps_dp ds r h2)
end
theorem top_dp {d : D} (h : RepTop K H Y d v) : Dp K H v (toPy d) := by
  cases d with
  | lst ds =>
    obtain ⟨a, vs, e, s, r⟩ := h
    rw [e]; unfold toPy
    exact .lst s (reps_dp ds vs r)
  | non => exact rep_dp (K := K) (H := H) (Y := Y) _ _ h
  | bl b => exact rep_dp (K := K) (H := H) (Y := Y) _ _ h
  | int b => exact rep_dp (K := K) (H := H) (Y := Y) _ _ h
  | str b => exact rep_dp (K := K) (H := H) (Y := Y) _ _ h
  | tup b => exact rep_dp (K := K) (H := H) (Y := Y) _ _ h
theorem sem_eq : Sem2 K (rEqD K) dEq := by
  intro H Y x y d e z Q hl hx hy hz q
  unfold dEq at hz
  by_cases h : (shp d && shp e) = true
  · rw [if_pos h] at hz
    cases hz
    rw [Bool.and_eq_true] at h
    exact ⟨toPy d, toPy e, top_dp hx, top_dp hy, h.1, h.2, q _ _ (po_val mk_bl)⟩
  · rw [if_neg h] at hz; cases hz
theorem sem_ne : Sem2 K (rNeD K) dNe := by
  intro H Y x y d e z Q hl hx hy hz q
  unfold dNe at hz
  by_cases h : (shp d && shp e) = true
  · rw [if_pos h] at hz
    cases hz
    rw [Bool.and_eq_true] at h
    exact ⟨toPy d, toPy e, top_dp hx, top_dp hy, h.1, h.2, q _ _ (po_val mk_bl)⟩
  · rw [if_neg h] at hz; cases hz
theorem toPys_any {d : D} : ∀ ds : List D, ((toPys ds).any fun z => PyData.eqv z (toPy d)) = inAny d ds
  | [] => by unfold toPys inAny; rfl
  | e :: ds => by
    unfold toPys
    rw [List.any_cons, toPys_any ds]
    rfl
end
/-! ### in: one sign in a text; an item in a list, a tuple -/
section
variable {X : Cx} {K : PySem.W.Frag} {Z : List Zx}
def rInT (K : PySem.W.Frag) (neg : Bool) : R2 := fun x y H Q => ∃ d ds, Dp K H x d ∧ Dp K H y (.tuple ds) ∧ SeqAt.shaped d = true ∧ SeqAt.shaped (.tuple ds) = true ∧ Q (.bl (if neg then !(ds.any fun z => PyData.eqv z d) else ds.any fun z => PyData.eqv z d)) H
theorem canLays_of {ds : List PyData} (h : SeqAt.shaped (.tuple ds) = true) : PyData.canLayAll0 ds = true := by
  have := SeqAt.canLay_of_shaped h
  unfold PyData.canLay0 at this
  exact this
theorem room_inT {A : Around} {d : PyData} {ds : List PyData} (h : SeqAt.shaped d = true) (hu : A.units + 200 < cLine) : A.units + 1 + min (PyData.depthAll ds) d.depth < cLine := by
  have h1 := SeqAt.depth_of_shaped h
  have h2 : min (PyData.depthAll ds) d.depth ≤ d.depth := Nat.min_le_right _ _
  omega
theorem op_inT (hu : X.A.units + 200 < cLine) : OpR X (compareOp .In) (rInT X.K false) := by
  intro pins s σ H x y v u Q I rx ry h
  obtain ⟨d, ds, hd, he, sd, se, q⟩ := h
  obtain ⟨as, r1⟩ := Dp.reads I d x v hd rx
  obtain ⟨bs, r2⟩ := Dp.reads I (.tuple ds) y u he ry
  exact SeqAt.in_tuple_reads r2 r1 (canLays_of se) (SeqAt.canLay_of_shaped sd) (room_inT sd hu) ⟨.bl _, H, I, rfl, q⟩
theorem op_notInT (hu : X.A.units + 200 < cLine) : OpR X (compareOp .NotIn) (rInT X.K true) := by
  intro pins s σ H x y v u Q I rx ry h
  obtain ⟨d, ds, hd, he, sd, se, q⟩ := h
  obtain ⟨as, r1⟩ := Dp.reads I d x v hd rx
  obtain ⟨bs, r2⟩ := Dp.reads I (.tuple ds) y u he ry
  exact SeqAt.notIn_tuple_reads r2 r1 (canLays_of se) (SeqAt.canLay_of_shaped sd) (room_inT sd hu) ⟨.bl _, H, I, rfl, q⟩
abbrev rInS (neg : Bool) : R2 := fun x y H Q => ∃ (c : Nat) (z : Str), x = .str ⟨#[c]⟩ ∧ y = .str z ∧ Q (.bl (if neg then !decide (c ∈ z.cps.toList) else decide (c ∈ z.cps.toList))) H
def rInAny (K : PySem.W.Frag) : R2 := fun x y H Q => rInS false x y H Q ∨ (rInD K x y H Q ∨ rInT K false x y H Q)
def rNotInAny (K : PySem.W.Frag) : R2 := fun x y H Q => rInS true x y H Q ∨ (rNotInD K x y H Q ∨ rInT K true x y H Q)
theorem op_inAny (hu : X.A.units + 200 < cLine) : OpR X (compareOp .In) (rInAny X.K) := OpR.or (r := rInS false) op_in_sign ((op_inD (by omega)).or (op_inT hu))
theorem op_notInAny (hu : X.A.units + 200 < cLine) : OpR X (compareOp .NotIn) (rNotInAny X.K) := OpR.or (r := rInS true) op_notIn_sign ((op_notInD (by omega)).or (op_notInT hu))
theorem str_one {x : Str} {c : Nat} (h : x.cps.toList = [c]) : x = ⟨#[c]⟩ := by
  cases x with
  | mk cps =>
    have h : cps.toList = [c] := h
    have : cps = #[c] := by
      apply Array.toList_inj.mp
      rw [h]
    rw [this]
theorem in_cases {H : Hp} {Y : Addr → Prop} {x y : V} {d e : D} {b : Bool} (hx : RepTop K H Y d x) (hy : RepTop K H Y e y) (h : dIn d e = some (.val (.bl b))) :
    (∃ (c : Nat) (z : Str), x = .str ⟨#[c]⟩ ∧ y = .str z ∧ b = decide (c ∈ z.cps.toList)) ∨
    (∃ ds, Dp K H x (toPy d) ∧ Dp K H y (.list ds) ∧ SeqAt.shaped (toPy d) = true ∧ SeqAt.shaped (.list ds) = true ∧ b = ds.any fun z => PyData.eqv z (toPy d)) ∨
    (∃ ds, Dp K H x (toPy d) ∧ Dp K H y (.tuple ds) ∧ SeqAt.shaped (toPy d) = true ∧ SeqAt.shaped (.tuple ds) = true ∧ b = ds.any fun z => PyData.eqv z (toPy d)) := by
  unfold dIn at h
  cases e with
  | non => cases h
  | bl b => cases h
  | int b => cases h
  | str z =>
    have h : dInS d z = some (.val (.bl b)) := h
    unfold dInS at h
    cases d with
    | str a =>
      dsimp only at h
      split at h
      · rename_i c hc
        cases h
        exact .inl ⟨c, z, by rw [top_str hx, str_one hc], top_str hy, rfl⟩
      · cases h
    | _ => cases h
  | lst ds =>
    have h : (if (shp d && shp (.lst ds)) = true then some (HV.val (.bl (inAny d ds))) else none) = some (.val (.bl b)) := h
    by_cases hs : (shp d && shp (.lst ds)) = true
    · rw [if_pos hs] at h
      cases h
      rw [Bool.and_eq_true] at hs
      have h2 := hs.2
      unfold shp toPy at h2
      have hp := top_dp hy
      unfold toPy at hp
      exact .inr (.inl ⟨toPys ds, top_dp hx, hp, hs.1, h2, (toPys_any ds).symm⟩)
    · rw [if_neg hs] at h; cases h
  | tup ds =>
    have h : (if (shp d && shp (.tup ds)) = true then some (HV.val (.bl (inAny d ds))) else none) = some (.val (.bl b)) := h
    by_cases hs : (shp d && shp (.tup ds)) = true
    · rw [if_pos hs] at h
      cases h
      rw [Bool.and_eq_true] at hs
      have h2 := hs.2
      unfold shp toPy at h2
      have hp := top_dp hy
      unfold toPy at hp
      exact .inr (.inr ⟨toPys ds, top_dp hx, hp, hs.1, h2, (toPys_any ds).symm⟩)
    · rw [if_neg hs] at h; cases h
theorem dIn_bl {d e : D} {z : HV} (h : dIn d e = some z) : ∃ b, z = .val (.bl b) := by
  unfold dIn at h
  cases e with
  | non => cases h
  | bl b => cases h
  | int b => cases h
  | str z =>
    have h : dInS d z = some _ := h
    unfold dInS at h
    cases d with
    | str a =>
      dsimp only at h
      split at h
      · cases h; exact ⟨_, rfl⟩
      · cases h
    | _ => cases h
  | lst ds =>
    dsimp only at h
    split at h
    · cases h; exact ⟨_, rfl⟩
    · cases h
  | tup ds =>
    dsimp only at h
    split at h
    · cases h; exact ⟨_, rfl⟩
    · cases h
theorem sem_in : Sem2 K (rInAny K) dIn := by
  intro H Y x y d e z Q hl hx hy hz q
  obtain ⟨b, rfl⟩ := dIn_bl hz
  have fin := q (.bl b) H (po_val mk_bl)
  rcases in_cases hx hy hz with ⟨c, z, h1, h2, h3⟩ | ⟨ds, h1, h2, h3, h4, h5⟩ | ⟨ds, h1, h2, h3, h4, h5⟩
  · subst h3; exact .inl ⟨c, z, h1, h2, fin⟩
  · subst h5; exact .inr (.inl ⟨_, ds, h1, h2, h3, h4, fin⟩)
  · subst h5; exact .inr (.inr ⟨_, ds, h1, h2, h3, h4, fin⟩)
theorem sem_notIn : Sem2 K (rNotInAny K) dNotIn := by
  intro H Y x y d e z Q hl hx hy hz q
  unfold dNotIn at hz
  split at hz
  · rename_i b hb
    cases hz
    have fin := q (.bl (!b)) H (po_val mk_bl)
    rcases in_cases hx hy hb with ⟨c, z, h1, h2, h3⟩ | ⟨ds, h1, h2, h3, h4, h5⟩ | ⟨ds, h1, h2, h3, h4, h5⟩
    · subst h3; exact .inl ⟨c, z, h1, h2, fin⟩
    · subst h5; exact .inr (.inl ⟨_, ds, h1, h2, h3, h4, fin⟩)
    · subst h5; exact .inr (.inr ⟨_, ds, h1, h2, h3, h4, fin⟩)
  · cases hz
/-! ### is None -/
theorem pn_isN {W : WX} {a : Expr} {f : EF} {j pos pos'} (ha : PE X a (tD X.K Z W f)) : PE X (.Compare a [.Is] [.Constant .none j pos'] pos) (tN X.K Z W (eUn dIsN f)) :=
  pe_mono (pe_cmp (pc_isN ha) rfl) fun σ H Q w => un_read (ta := tD X.K Z W f) (r := fun x H Q => Q (.bl (decide (x = .non))) H) (fo := dIsN) (fun H Y x d z Q hl hx hz q => by
    cases d with
    | non => cases hz; rw [top_non hx]; exact q _ _ (po_val mk_bl)
    | bl b => cases hz; rw [top_bl hx]; exact q _ _ (po_val mk_bl)
    | int b => cases hz; rw [top_int hx]; exact q _ _ (po_val mk_bl)
    | str b => cases hz; rw [top_str hx]; exact q _ _ (po_val mk_bl)
    | tup ds => obtain ⟨a, vs, rfl, _⟩ := top_tup hx; cases hz; exact q _ _ (po_val mk_bl)
    | lst ds => obtain ⟨a, vs, rfl, _⟩ := hx; cases hz; exact q _ _ (po_val mk_bl)) (fun _ _ _ z => z) w
theorem pn_notN {W : WX} {a : Expr} {f : EF} {j pos pos'} (ha : PE X a (tD X.K Z W f)) : PE X (.Compare a [.IsNot] [.Constant .none j pos'] pos) (tN X.K Z W (eUn dNotN f)) :=
  pe_mono (pe_cmp (pc_notN ha) rfl) fun σ H Q w => un_read (ta := tD X.K Z W f) (r := fun x H Q => Q (.bl (!decide (x = .non))) H) (fo := dNotN) (fun H Y x d z Q hl hx hz q => by
    cases d with
    | non => cases hz; rw [top_non hx]; exact q _ _ (po_val mk_bl)
    | bl b => cases hz; rw [top_bl hx]; exact q _ _ (po_val mk_bl)
    | int b => cases hz; rw [top_int hx]; exact q _ _ (po_val mk_bl)
    | str b => cases hz; rw [top_str hx]; exact q _ _ (po_val mk_bl)
    | tup ds => obtain ⟨a, vs, rfl, _⟩ := top_tup hx; cases hz; exact q _ _ (po_val mk_bl)
    | lst ds => obtain ⟨a, vs, rfl, _⟩ := hx; cases hz; exact q _ _ (po_val mk_bl)) (fun _ _ _ z => z) w
end
/-! ### x[i], len, list, tuple, abs, int, max, min, isinstance, sorted -/
section
variable {X : Cx} {K : PySem.W.Frag} {H : Hp} {Y : Addr → Prop} {Z : List Zx}
theorem atI_reps {ds : List D} {vs : List V} {i : Int} {d : D} (r : Reps K H Y ds vs) (h : atI ds i = some d) : ∃ v, atI vs i = some v ∧ Rep K H Y d v := by
  unfold atI at h ⊢
  rw [reps_len r]
  cases e : ixN ds.length i with
  | none => rw [e] at h; cases h
  | some j =>
    rw [e] at h
    exact reps_get r h
theorem sem_ix : Sem2 K (rIx K) dIx := by
  intro H Y x y d e z Q hl hx hy hz q
  unfold dIx at hz
  split at hz
  · rename_i ds i
    obtain ⟨a, vs, rfl, s, r⟩ := hx
    cases h : atI ds i with
    | none => rw [h] at hz; cases hz
    | some d =>
      rw [h] at hz; cases hz
      obtain ⟨v, h1, h2⟩ := atI_reps r h
      exact .inl ⟨a, vs, i, v, rfl, top_int hy, s, h1, q _ _ (po_val h2)⟩
  · rename_i ds i
    obtain ⟨a, vs, rfl, s, r⟩ := top_tup hx
    cases h : atI ds i with
    | none => rw [h] at hz; cases hz
    | some d =>
      rw [h] at hz; cases hz
      obtain ⟨v, h1, h2⟩ := atI_reps r h
      exact .inr (.inl ⟨a, vs, i, v, rfl, top_int hy, s, h1, q _ _ (po_val h2)⟩)
  · rename_i zz i
    by_cases hb : zz.length ≤ big
    · rw [if_pos hb] at hz
      cases h : atI zz.cps.toList i with
      | none => rw [h] at hz; cases hz
      | some c =>
        rw [h] at hz; cases hz
        exact .inr (.inr ⟨zz, i, c, top_str hx, top_int hy, by rw [big_eq]; exact hb, h, q _ _ (po_val mk_str)⟩)
    · rw [if_neg hb] at hz; cases hz
  · cases hz
def rLenAny (K : PySem.W.Frag) : List V → Hp → VK → Prop := fun xs H Q => (∃ p ys, xs = [.ref p] ∧ (SqL K H p ys ∨ SqT K H p ys) ∧ Q (.int ys.length) H) ∨ ∃ z, xs = [.str z] ∧ z.length ≤ sizeLine ∧ Q (.int z.length) H
theorem call_lenAny : CallR X (.builtin "len") (rLenAny X.K) := call_len_seq.or call_len_str
theorem sem_len : Sem1 K (fun x H Q => rLenAny K [x] H Q) dLen := by
  intro H Y x d z Q hl hx hz q
  unfold dLen at hz
  split at hz
  · obtain ⟨a, vs, rfl, s, r⟩ := hx
    cases hz
    exact .inl ⟨a, vs, rfl, .inl s, by rw [reps_len r]; exact q _ _ (po_val mk_int)⟩
  · obtain ⟨a, vs, rfl, s, r⟩ := top_tup hx
    cases hz
    exact .inl ⟨a, vs, rfl, .inr s, by rw [reps_len r]; exact q _ _ (po_val mk_int)⟩
  · rename_i zz
    by_cases hb : zz.length ≤ big
    · rw [if_pos hb] at hz
      cases hz
      exact .inr ⟨zz, by rw [top_str hx], by rw [big_eq]; exact hb, q _ _ (po_val mk_int)⟩
    · rw [if_neg hb] at hz; cases hz
  · cases hz
abbrev rListOf (K : PySem.W.Frag) : List V → Hp → VK → Prop := fun xs H Q => ∃ p ys, xs = [.ref p] ∧ (SqL K H p ys ∨ SqT K H p ys) ∧ ∀ l, H l = none → Q (.ref l) (upd H l (.lst ys))
theorem sem_list : Sem1 K (fun x H Q => rListOf K [x] H Q) dList := by
  intro H Y x d z Q hl hx hz q
  unfold dList at hz
  split at hz
  · obtain ⟨a, vs, rfl, s, r⟩ := hx
    cases hz
    exact ⟨a, vs, rfl, .inl s, fun p hp => q _ _ (po_newl hl hp r)⟩
  · obtain ⟨a, vs, rfl, s, r⟩ := top_tup hx
    cases hz
    exact ⟨a, vs, rfl, .inr s, fun p hp => q _ _ (po_newl hl hp r)⟩
  · cases hz
abbrev rTupOf (K : PySem.W.Frag) : List V → Hp → VK → Prop := fun xs H Q => ∃ p ys, xs = [.ref p] ∧ ((SqL K H p ys ∧ ∀ l, H l = none → Q (.ref l) (upd H l (.tup ys))) ∨ (SqT K H p ys ∧ Q (.ref p) H))
theorem sem_tuple : Sem1 K (fun x H Q => rTupOf K [x] H Q) dTuple := by
  intro H Y x d z Q hl hx hz q
  unfold dTuple at hz
  split at hz
  · obtain ⟨a, vs, rfl, s, r⟩ := hx
    cases hz
    exact ⟨a, vs, rfl, .inl ⟨s, fun p hp => q _ _ (po_newt hl hp r)⟩⟩
  · obtain ⟨a, vs, rfl, s, r⟩ := top_tup hx
    cases hz
    exact ⟨a, vs, rfl, .inr ⟨s, q _ _ (po_val (rep_tup.mpr ⟨a, vs, rfl, s, r⟩))⟩⟩
  · cases hz
abbrev rAbs : List V → Hp → VK → Prop := fun xs H Q => ∃ i, xs = [.int i] ∧ Q (.int (if i < 0 then -i else i)) H
theorem sem_abs : Sem1 K (fun x H Q => rAbs [x] H Q) dAbs := by
  intro H Y x d z Q hl hx hz q
  unfold dAbs at hz
  split at hz
  · cases hz; exact ⟨_, by rw [top_int hx], q _ _ (po_val mk_int)⟩
  · cases hz
abbrev rToInt : List V → Hp → VK → Prop := fun xs H Q => (∃ i, xs = [.int i] ∧ Q (.int i) H) ∨ ∃ k, xs = [.bl k] ∧ Q (.int (if k then 1 else 0)) H
theorem sem_toInt : Sem1 K (fun x H Q => rToInt [x] H Q) dToInt := by
  intro H Y x d z Q hl hx hz q
  unfold dToInt at hz
  split at hz
  · cases hz; exact .inl ⟨_, by rw [top_int hx], q _ _ (po_val mk_int)⟩
  · cases hz; exact .inr ⟨_, by rw [top_bl hx], q _ _ (po_val mk_int)⟩
  · cases hz
abbrev rMax2 : List V → Hp → VK → Prop := fun xs H Q => ∃ i j, xs = [.int i, .int j] ∧ Q (.int (if j > i then j else i)) H
abbrev rMin2 : List V → Hp → VK → Prop := fun xs H Q => ∃ i j, xs = [.int i, .int j] ∧ Q (.int (if j < i then j else i)) H
theorem sem_max : Sem2 K (fun x y H Q => rMax2 [x, y] H Q) dMax := by
  intro H Y x y d e z Q hl hx hy hz q
  obtain ⟨i, j, a, b, c⟩ := sem_int20 (K := K) (g := fun i j => .int (if j > i then j else i)) (gV := fun i j => .int (if j > i then j else i)) (fun _ _ _ _ => mk_int) H Y x y d e z Q hl hx hy hz q
  exact ⟨i, j, by rw [a, b], c⟩
theorem sem_min : Sem2 K (fun x y H Q => rMin2 [x, y] H Q) dMin := by
  intro H Y x y d e z Q hl hx hy hz q
  obtain ⟨i, j, a, b, c⟩ := sem_int20 (K := K) (g := fun i j => .int (if j < i then j else i)) (gV := fun i j => .int (if j < i then j else i)) (fun _ _ _ _ => mk_int) H Y x y d e z Q hl hx hy hz q
  exact ⟨i, j, by rw [a, b], c⟩
/-- the class of a value that data stand for -/
theorem tyx_of {d : D} {v : V} (h : RepTop K H Y d v) : TyX K H v (.type (tyName d)) := by
  have tl : ∀ {a : Addr} {vs : List V}, SqL K H a vs → TyX K H (.ref a) (.type "list") := fun {a vs} s => by
    rcases s with (s | ⟨o, s⟩) | ⟨o, its, n, hk, hc, _⟩
    · exact .base (.lst s)
    · exact .base (.frz s)
    · exact .kList hk hc
  cases d with
  | non => rw [top_non h]; exact .base .non
  | bl b => rw [top_bl h]; exact .base (.bl b)
  | int b => rw [top_int h]; exact .base (.int b)
  | str b => rw [top_str h]; exact .base (.str b)
  | lst ds =>
    obtain ⟨a, vs, rfl, s, _⟩ := h
    exact tl s
  | tup ds =>
    obtain ⟨a, vs, rfl, s, _⟩ := top_tup h
    rcases s with (s | ⟨o, s⟩) | ⟨o, its, n, hk, hc, _⟩
    · exact .base (.tup s)
    · exact .fTuple s
    · exact .kTuple hk hc
/-- T is one of the classes that data have -/
def IsaOk (T : String) : Prop := ∀ d : D, kitB (tyName d) T = some (isa T d)
theorem sem_isa {T : String} (hT : IsaOk T) : Sem1 K (fun x H Q => rIsi K [x, .ty T] H Q) (dIsa T) := by
  intro H Y x d z Q hl hx hz q
  cases hz
  exact ⟨x, .ty T, _, _, _, rfl, .ty T, tyx_of hx, kit_ty (hT d), q _ _ (po_val mk_bl)⟩
theorem isaOk_of {T : String} (h1 : kitB "NoneType" T = some (isaS T "NoneType")) (h2 : kitB "bool" T = some (isaS T "bool")) (h3 : kitB "int" T = some (isaS T "int")) (h4 : kitB "str" T = some (isaS T "str")) (h5 : kitB "tuple" T = some (isaS T "tuple")) (h6 : kitB "list" T = some (isaS T "list")) : IsaOk T := fun d => by
  cases d
  · exact h1
  · exact h2
  · exact h3
  · exact h4
  · exact h5
  · exact h6
theorem isa_int : IsaOk "int" := isaOk_of (by decide +kernel) (by decide +kernel) (by decide +kernel) (by decide +kernel) (by decide +kernel) (by decide +kernel)
theorem isa_bool : IsaOk "bool" := isaOk_of (by decide +kernel) (by decide +kernel) (by decide +kernel) (by decide +kernel) (by decide +kernel) (by decide +kernel)
theorem isa_str : IsaOk "str" := isaOk_of (by decide +kernel) (by decide +kernel) (by decide +kernel) (by decide +kernel) (by decide +kernel) (by decide +kernel)
theorem isa_tuple : IsaOk "tuple" := isaOk_of (by decide +kernel) (by decide +kernel) (by decide +kernel) (by decide +kernel) (by decide +kernel) (by decide +kernel)
theorem isa_list : IsaOk "list" := isaOk_of (by decide +kernel) (by decide +kernel) (by decide +kernel) (by decide +kernel) (by decide +kernel) (by decide +kernel)
theorem asInts_map : ∀ {ds : List D} {ns : List Int}, asInts ds = some ns → ds = ns.map D.int
  | [], ns, h => by cases h; rfl
  | .int i :: r, ns, h => by
    unfold asInts at h
    cases e : asInts r with
    | none => rw [e] at h; cases h
    | some ms =>
      rw [e] at h
      cases h
      rw [asInts_map e]; rfl
  | .non :: r, ns, h => by cases h
  | .bl _ :: r, ns, h => by cases h
  | .str _ :: r, ns, h => by cases h
  | .tup _ :: r, ns, h => by cases h
  | .lst _ :: r, ns, h => by cases h
theorem insI_perm (i : Int) : ∀ l : List Int, (insI i l).Perm (i :: l)
  | [] => .refl _
  | j :: r => by
    unfold insI
    split
    · exact .refl _
    · exact ((insI_perm i r).cons j).trans (.swap i j r)
theorem isort_perm : ∀ l : List Int, (isort l).Perm l
  | [] => .refl _
  | i :: r => (insI_perm i (isort r)).trans ((isort_perm r).cons i)
theorem insI_sorted (i : Int) : ∀ {l : List Int}, l.Pairwise (· ≤ ·) → (insI i l).Pairwise (· ≤ ·)
  | [], _ => List.pairwise_singleton _ _
  | j :: r, h => by
    have h2 := List.pairwise_cons.mp h
    unfold insI
    split
    · rename_i hij
      refine List.pairwise_cons.mpr ⟨fun a ha => ?_, h⟩
      rcases List.mem_cons.mp ha with rfl | ha
      · exact hij
      · exact Int.le_trans hij (h2.1 a ha)
    · rename_i hij
      refine List.pairwise_cons.mpr ⟨fun a ha => ?_, insI_sorted i h2.2⟩
      rcases List.mem_cons.mp ((insI_perm i r).mem_iff.mp ha) with rfl | ha
      · omega
      · exact h2.1 a ha
theorem isort_sorted : ∀ l : List Int, (isort l).Pairwise (· ≤ ·)
  | [] => .nil
  | i :: r => insI_sorted i (isort_sorted r)
theorem sem_sorted : Sem1 K (fun x H Q => rSorted K [x] H Q) dSorted := by
  intro H Y x d z Q hl hx hz q
  unfold dSorted at hz
  split at hz
  · rename_i ds
    split at hz
    · rename_i ns hn
      by_cases h64 : ns.length < 64
      · rw [if_pos h64] at hz
        cases hz
        obtain ⟨a, vs, rfl, s, r⟩ := hx
        rw [asInts_map hn] at r
        have e := reps_ints r
        subst e
        refine ⟨a, ns, rfl, s, h64, fun ns' p h1 h2 hp => ?_⟩
        have e : ns' = isort ns := PySem.W.ksm_same (h1.trans (isort_perm ns).symm) h2 (isort_sorted ns)
        subst e
        exact q _ _ (po_newl hl hp reps_of_ints)
      · rw [if_neg h64] at hz; cases hz
    · cases hz
  · cases hz
end
end L2.Pz
set_option Elab.async false
set_option linter.all false
set_option maxRecDepth 100000
set_option maxHeartbeats 4000000
set_option autoImplicit false
namespace L2.Pz
open PySem PySem.Spec PyProof.Rows

/-! ### displays -/
def toVal : HV → Option D
  | .val d => some d
  | .new ds => some (.lst ds)
  | .jar _ => none
  | .exc _ => none
def eItems : List EF → En → Jr → R (List D)
  | [], _, J => .ok [] J
  | f :: fs, env, J => (f env J).bind fun h J1 => match toVal h with
    | some d => (eItems fs env J1).bind fun ds J2 => .ok (d :: ds) J2
    | none => .stuck
def eTup (fs : List EF) : EF := fun env J => (eItems fs env J).bind fun ds J1 => if ds.length ≤ big then .ok (.val (.tup ds)) J1 else .stuck
def eLst (fs : List EF) : EF := fun env J => (eItems fs env J).bind fun ds J1 => if ds.length ≤ big then .ok (.new ds) J1 else .stuck
def PostI (K : PySem.W.Frag) (Z : List Zx) (W : WX) (Xo : Addr → Prop) (js : List Addr) (H : Hp) (σ : L2.St) (env : En) (Q : List V → Hp → Prop) : R (List D) → Prop
  | .ok ds J => ∀ vs H', Ext js H H' → Fit K Z Xo js H' σ env J → Reps K H' (Yf Xo js) ds vs → Q vs H'
  | .err c fs J => Flies K Z W Xo js H σ env c fs J
  | .stuck => False
def tI (K : PySem.W.Frag) (Z : List Zx) (W : WX) (fs : List EF) : TA := fun σ H Q => ∃ Xo js env J, Fit K Z Xo js H σ env J ∧ PostI K Z W Xo js H σ env Q (eItems fs env J)
theorem pa_mono {X : Cx} {es : List Expr} {t t' : TA} (h : PA X es t) (m : ∀ σ H Q, t' σ H Q → t σ H Q) : PA X es t' := ⟨fun pos pins s σ H Q I w => h.run pos pins s σ H Q I (m σ H Q w)⟩
section
variable {X : Cx} {W : WX} {e : Expr} {es : List Expr} {f : EF} {fs : List EF} {pos : Pos} {Z : List Zx}
theorem val_rep {Xo : Addr → Prop} {js : List Addr} {H : Hp} {h : HV} {v : V} {d : D} (x : HRep X.K Z H (Yf Xo js) js (norm h) v) (e : toVal h = some d) : Rep X.K H (Yf Xo js) d v := by
  cases h with
  | val d' => cases e; exact x
  | new ds => cases e; exact x
  | jar k => cases e
  | exc k => cases e
theorem pi_nilD : PA X [] (tI X.K Z W []) := pa_mono pa_nil fun σ H Q ⟨Xo, js, env, J, F, p⟩ => p [] H .refl F (reps_nil.mpr rfl)
theorem pi_consD (ha : PE X e (tD X.K Z W f)) (hb : PA X es (tI X.K Z W fs)) (hs : starEach (e :: es) X.env = (false, eval e X.env) :: starEach es X.env) : PA X (e :: es) (tI X.K Z W (f :: fs)) :=
  pa_mono (pa_cons ha hb hs) fun σ H Q ⟨Xo, js, env, J, F, p⟩ => by
    refine ⟨Xo, js, env, J, F, ?_⟩
    unfold eItems at p
    cases hf : f env J with
    | stuck => rw [hf] at p; exact p.elim
    | err c fs J1 => rw [hf] at p; exact p
    | ok h J1 =>
      rw [hf] at p
      intro x H1 e1 F1 x1
      have p : PostI X.K Z W Xo js H σ env Q (match toVal h with
        | some d => (eItems fs env J1).bind fun ds J2 => .ok (d :: ds) J2
        | none => .stuck) := p
      cases ht : toVal h with
      | none => rw [ht] at p; exact p.elim
      | some d =>
        rw [ht] at p
        have r1 := val_rep x1 ht
        refine ⟨Xo, js, env, J1, F1, ?_⟩
        have p : PostI X.K Z W Xo js H σ env Q ((eItems fs env J1).bind fun ds J2 => .ok (d :: ds) J2) := p
        cases hg : eItems fs env J1 with
        | stuck => rw [hg] at p; exact p.elim
        | err c fs J2 => rw [hg] at p; exact p.later e1
        | ok ds J2 =>
          rw [hg] at p
          intro vs H2 e2 F2 r2
          exact p (x :: vs) H2 (e1.trans e2) F2 (reps_cons.mpr ⟨x, vs, rfl, r1.ext F1 e2, r2⟩)
theorem pn_tup {x1} (h : PA X es (tI X.K Z W fs)) : PE X (.Tuple es x1 pos) (tN X.K Z W (eTup fs)) := pe_mono (pe_tup h) fun σ H Q ⟨Xo, js, env, J, F, p⟩ => by
  refine ⟨Xo, js, env, J, F, ?_⟩
  unfold eTup at p
  cases hg : eItems fs env J with
  | stuck => rw [hg] at p; exact p.elim
  | err c fs J2 => rw [hg] at p; exact p
  | ok ds J2 =>
    rw [hg] at p
    intro vs H2 e2 F2 r2
    have p : PostN X.K Z W Xo js H σ env Q (if ds.length ≤ big then .ok (.val (.tup ds)) J2 else .stuck) := p
    by_cases hb : ds.length ≤ big
    · rw [if_pos hb] at p
      refine ⟨by rw [big_eq, reps_len r2]; exact hb, fun q hq => ?_⟩
      obtain ⟨e3, o⟩ := pure_out F2 e2 (po_newt F2.lists hq r2)
      exact p _ _ e3 o
    · rw [if_neg hb] at p; exact p.elim
theorem pn_lst (h : PA X es (tI X.K Z W fs)) : PE X (.List es pos) (tN X.K Z W (eLst fs)) := pe_mono (pe_lst h) fun σ H Q ⟨Xo, js, env, J, F, p⟩ => by
  refine ⟨Xo, js, env, J, F, ?_⟩
  unfold eLst at p
  cases hg : eItems fs env J with
  | stuck => rw [hg] at p; exact p.elim
  | err c fs J2 => rw [hg] at p; exact p
  | ok ds J2 =>
    rw [hg] at p
    intro vs H2 e2 F2 r2
    have p : PostN X.K Z W Xo js H σ env Q (if ds.length ≤ big then .ok (.new ds) J2 else .stuck) := p
    by_cases hb : ds.length ≤ big
    · rw [if_pos hb] at p
      refine ⟨by rw [big_eq, reps_len r2]; exact hb, fun q hq => ?_⟩
      obtain ⟨e3, o⟩ := pure_out F2 e2 (po_newl F2.lists hq r2)
      exact p _ _ e3 o
    · rw [if_neg hb] at p; exact p.elim
/-- [c] * n -/
def repOk (n : Nat) (k : Int) : Bool := decide (-(2 ^ 63) ≤ k) && (decide (k < 2 ^ 63) && decide (n * k.toNat ≤ big))
def repEnd (J : Jr) : HV → Option D → R HV
  | .new ds, some (.int k) => if repOk ds.length k = true then .ok (.new (List.replicate k.toNat ds).flatten) J else .stuck
  | _, _ => .stuck
def eRep (f g : EF) : EF := fun env J => (f env J).bind fun h1 J1 => (g env J1).bind fun h2 J2 => repEnd J2 h1 (deref J2 h2)
theorem reps_rep {K : PySem.W.Frag} {H : Hp} {Y : Addr → Prop} {ds : List D} {vs : List V} (r : Reps K H Y ds vs) : ∀ n : Nat, Reps K H Y (List.replicate n ds).flatten (List.replicate n vs).flatten
  | 0 => reps_nil.mpr rfl
  | n + 1 => by
    rw [List.replicate_succ, List.replicate_succ, List.flatten_cons, List.flatten_cons]
    exact reps_append r (reps_rep r n)
theorem pn_rep {a b : Expr} {g : EF} (ha : PE X a (tN X.K Z W f)) (hb : PE X b (tD X.K Z W g)) : PE X (.BinOp a .Mult b pos) (tN X.K Z W (eRep f g)) := pe_mono (pe_op op_rep ha hb) fun σ H Q ⟨Xo, js, env, J, F, p⟩ => by
  refine ⟨Xo, js, env, J, F, ?_⟩
  unfold eRep at p
  cases hf : f env J with
  | stuck => rw [hf] at p; exact p.elim
  | err c fs J1 => rw [hf] at p; exact p
  | ok h1 J1 =>
    rw [hf] at p
    intro x H1 e1 o1
    have p : PostN X.K Z W Xo js H σ env Q ((g env J1).bind fun h2 J2 => repEnd J2 h1 (deref J2 h2)) := p
    obtain ⟨F1, x1⟩ := outN_norm F.out o1
    cases h1 with
    | val d => 
      refine ⟨Xo, js, env, J1, F1, ?_⟩
      cases hg : g env J1 with
      | stuck => rw [hg] at p; exact p.elim
      | err c fs J2 => rw [hg] at p; exact p.later e1
      | ok h2 J2 => rw [hg] at p; exact p.elim
    | jar d => 
      refine ⟨Xo, js, env, J1, F1, ?_⟩
      cases hg : g env J1 with
      | stuck => rw [hg] at p; exact p.elim
      | err c fs J2 => rw [hg] at p; exact p.later e1
      | ok h2 J2 => rw [hg] at p; exact p.elim
    | exc d => 
      refine ⟨Xo, js, env, J1, F1, ?_⟩
      cases hg : g env J1 with
      | stuck => rw [hg] at p; exact p.elim
      | err c fs J2 => rw [hg] at p; exact p.later e1
      | ok h2 J2 => rw [hg] at p; exact p.elim
    | new ds =>
      obtain ⟨q, vs, rfl, hq0, hq, G1, r1⟩ := o1
      have nq : q ∉ js := fun z => G1.jx q z (.inr rfl)
      refine ⟨Xo, js, env, J1, F1, ?_⟩
      cases hg : g env J1 with
      | stuck => rw [hg] at p; exact p.elim
      | err c fs J2 => rw [hg] at p; exact p.later e1
      | ok h2 J2 =>
        rw [hg] at p
        intro y H2 e2 F2 y2
        have p : PostN X.K Z W Xo js H σ env Q (repEnd J2 (.new ds) (deref J2 h2)) := p
        cases hd : deref J2 h2 with
        | none => rw [hd] at p; exact p.elim
        | some d =>
          rw [hd] at p
          cases d with
          | int k =>
            have p : PostN X.K Z W Xo js H σ env Q (if repOk ds.length k = true then .ok (.new (List.replicate k.toNat ds).flatten) J2 else .stuck) := p
            split at p
            · rename_i hb
              unfold repOk at hb
              rw [Bool.and_eq_true, Bool.and_eq_true] at hb
              have r2 : Reps X.K H1 (Yf Xo js) ds vs := reps_move (fun _ _ e _ => e) (fun a y => .inl (y.elim (fun y => .inl (.inl y)) .inr)) G1.lists _ _ r1
              refine ⟨q, k, vs, rfl, top_int (deref_top F2 y2 hd), e2 _ _ hq nq, of_decide_eq_true hb.1, of_decide_eq_true hb.2.1, by rw [big_eq, reps_len r1]; exact of_decide_eq_true hb.2.2, fun u hu => ?_⟩
              obtain ⟨e3, o⟩ := pure_out F2 (e1.trans e2) (po_newl F2.lists hu (reps_rep (r2.ext F1 e2) k.toNat))
              exact p _ _ e3 o
            · exact p.elim
          | _ => exact p.elim
end

/-! ### slices -/
def partV : Option EF → En → Jr → R (Option Int)
  | none, _, J => .ok none J
  | some f, env, J => (f env J).bind fun h J1 => match h with
    | .val (.int i) => .ok (some i) J1
    | _ => .stuck
def cutD (ds : List D) (lo hi : Option Int) : List D := (ds.drop (HT.sIx ds.length 0 lo)).take (HT.sIx ds.length ds.length hi - HT.sIx ds.length 0 lo)
def dSl : D → Option Int → Option Int → Option HV
  | .lst ds, lo, hi => some (.new (cutD ds lo hi))
  | .tup ds, lo, hi => some (.val (.tup (cutD ds lo hi)))
  | .str z, lo, hi => if z.length ≤ big then some (.val (.str (cutS z lo hi))) else none
  | _, _, _ => none
def eSl (f : EF) (lo hi : Option EF) : EF := fun env J => (f env J).bind fun h J1 => (partV lo env J1).bind fun l J2 => (partV hi env J2).bind fun u J3 => match deref J3 h with
  | some d => give J3 (dSl d l u)
  | none => .stuck
def PostO (K : PySem.W.Frag) (Z : List Zx) (W : WX) (Xo : Addr → Prop) (js : List Addr) (H : Hp) (σ : L2.St) (env : En) (Q : Option Int → Hp → Prop) : R (Option Int) → Prop
  | .ok i J => ∀ H', Ext js H H' → Fit K Z Xo js H' σ env J → Q i H'
  | .err c fs J => Flies K Z W Xo js H σ env c fs J
  | .stuck => False
def tO (K : PySem.W.Frag) (Z : List Zx) (W : WX) (f : Option EF) : TO := fun σ H Q => ∃ Xo js env J, Fit K Z Xo js H σ env J ∧ PostO K Z W Xo js H σ env Q (partV f env J)
section
variable {X : Cx} {W : WX} {e : Expr} {lo hi : Option Expr} {f : EF} {fl fh : Option EF} {pos p2 : Pos} {Z : List Zx}
theorem po_mono {e : Option Expr} {t t' : TO} (h : PO X e t) (m : ∀ σ H Q, t' σ H Q → t σ H Q) : PO X e t' := ⟨fun pins s σ H Q I w => h.run pins s σ H Q I (m σ H Q w)⟩
theorem po_noneD : PO X none (tO X.K Z W none) := po_mono po_none fun σ H Q ⟨Xo, js, env, J, F, p⟩ => p H .refl F
theorem po_someD (h : PE X e (tD X.K Z W f)) : PO X (some e) (tO X.K Z W (some f)) := po_mono (po_some h) fun σ H Q ⟨Xo, js, env, J, F, p⟩ => by
  refine ⟨Xo, js, env, J, F, ?_⟩
  unfold partV at p
  dsimp only at p
  cases hf : f env J with
  | stuck => rw [hf] at p; exact p.elim
  | err c fs J1 => rw [hf] at p; exact p
  | ok h J1 =>
    rw [hf] at p
    intro v H' e1 G x
    cases h with
    | jar k => exact p.elim
    | exc k => exact p.elim
    | new ds => exact p.elim
    | val d =>
      cases d with
      | int i => exact ⟨i, rep_int (K := X.K) (H := H') (Y := Yf Xo js) x, p H' e1 G⟩
      | _ => exact p.elim
def rSlAny (K : PySem.W.Frag) : V → Option Int → Option Int → Hp → VK → Prop := fun x lo hi H Q => rSlL K x lo hi H Q ∨ (rSlA K x lo hi H Q ∨ rSlS x lo hi H Q)
theorem sl_any : SlR X (rSlAny X.K) := sl_list.or (sl_tupA.or sl_str)
theorem cutD_all {ds : List D} {lo hi : Option Int} (h : HT.sIx ds.length 0 lo = 0 ∧ HT.sIx ds.length ds.length hi = ds.length) : cutD ds lo hi = ds := by
  unfold cutD
  rw [h.1, h.2, List.drop_zero, Nat.sub_zero, List.take_length]
theorem sem_sl {K : PySem.W.Frag} {H : Hp} {Y : Addr → Prop} {x : V} {d : D} {z : HV} {Q : VK} {l u : Option Int} (hl : Lists H Y) (hx : RepTop K H Y d x) (hz : dSl d l u = some z) (q : ∀ v H', PureOut K Y H H' z v → Q v H') : rSlAny K x l u H Q := by
  cases d with
  | lst ds =>
    obtain ⟨a, vs, rfl, s, r⟩ := hx
    cases hz
    refine .inl ⟨a, vs, rfl, s, fun p hp => ?_⟩
    have := po_newl hl hp (reps_take (HT.sIx vs.length vs.length u - HT.sIx vs.length 0 l) (reps_drop (HT.sIx vs.length 0 l) r))
    refine q _ _ ?_
    unfold cutD cutV
    rw [reps_len r] at this
    rw [reps_len r]
    exact this
  | tup ds =>
    obtain ⟨a, vs, rfl, s, r⟩ := top_tup hx
    cases hz
    refine .inr (.inl ⟨a, vs, rfl, s, fun h => ?_, fun _ p hp => ?_⟩)
    · rw [reps_len r] at h
      refine q _ _ ?_
      rw [cutD_all h]
      exact po_val (rep_tup.mpr ⟨a, vs, rfl, s, r⟩)
    · have := po_newt hl hp (reps_take (HT.sIx vs.length vs.length u - HT.sIx vs.length 0 l) (reps_drop (HT.sIx vs.length 0 l) r))
      refine q _ _ ?_
      unfold cutD cutV
      rw [reps_len r] at this
      rw [reps_len r]
      exact this
  | str zz =>
    have hz : (if zz.length ≤ big then some (HV.val (.str (cutS zz l u))) else none) = some z := hz
    by_cases hb : zz.length ≤ big
    · rw [if_pos hb] at hz
      cases hz
      exact .inr (.inr ⟨zz, top_str hx, by rw [big_eq]; exact hb, q _ _ (po_val mk_str)⟩)
    · rw [if_neg hb] at hz; cases hz
  | non => cases hz
  | bl b => cases hz
  | int b => cases hz
theorem pn_slice (he : PE X e (tD X.K Z W f)) (hl : PO X lo (tO X.K Z W fl)) (hu : PO X hi (tO X.K Z W fh)) : PE X (.Subscript e (.Slice lo hi none p2) pos) (tN X.K Z W (eSl f fl fh)) := pe_mono (pe_slice sl_any he hl hu) fun σ H Q ⟨Xo, js, env, J, F, p⟩ => by
  refine ⟨Xo, js, env, J, F, ?_⟩
  unfold eSl at p
  cases hf : f env J with
  | stuck => rw [hf] at p; exact p.elim
  | err c fs J1 => rw [hf] at p; exact p
  | ok h J1 =>
    rw [hf] at p
    intro x H1 e1 F1 x1
    refine ⟨Xo, js, env, J1, F1, ?_⟩
    have p : PostN X.K Z W Xo js H σ env Q ((partV fl env J1).bind fun l J2 => (partV fh env J2).bind fun u J3 => match deref J3 h with
      | some d => give J3 (dSl d l u)
      | none => .stuck) := p
    cases hl : partV fl env J1 with
    | stuck => rw [hl] at p; exact p.elim
    | err c fs J2 => rw [hl] at p; exact p.later e1
    | ok l J2 =>
      rw [hl] at p
      intro H2 e2 F2
      refine ⟨Xo, js, env, J2, F2, ?_⟩
      have p : PostN X.K Z W Xo js H σ env Q ((partV fh env J2).bind fun u J3 => match deref J3 h with
        | some d => give J3 (dSl d l u)
        | none => .stuck) := p
      cases hu : partV fh env J2 with
      | stuck => rw [hu] at p; exact p.elim
      | err c fs J3 => rw [hu] at p; exact p.later (e1.trans e2)
      | ok u J3 =>
        rw [hu] at p
        intro H3 e3 F3
        have p : PostN X.K Z W Xo js H σ env Q (match deref J3 h with
          | some d => give J3 (dSl d l u)
          | none => .stuck) := p
        cases hd : deref J3 h with
        | none => rw [hd] at p; exact p.elim
        | some d =>
          rw [hd] at p
          have p : PostN X.K Z W Xo js H σ env Q (give J3 (dSl d l u)) := p
          cases hz : dSl d l u with
          | none => rw [hz] at p; exact p.elim
          | some z =>
            rw [hz] at p
            refine sem_sl F3.lists (deref_top F3 ((x1.ext F1 e2).ext F2 e3) hd) hz fun v H' o => ?_
            obtain ⟨e4, o2⟩ := pure_out F3 ((e1.trans e2).trans e3) o
            exact p v H' e4 o2
end

/-! ### calls -/
abbrev FT := List HV → Jr → R HV
def HReps (K : PySem.W.Frag) (Z : List Zx) (H : Hp) (Y : Addr → Prop) (js : List Addr) : List HV → List V → Prop
  | [], vs => vs = []
  | h :: hs, vs => ∃ v r, vs = v :: r ∧ HRep K Z H Y js h v ∧ HReps K Z H Y js hs r
def isExc : HV → Bool
  | .exc _ => true
  | _ => false
def eArgs : List EF → En → Jr → R (List HV)
  | [], _, J => .ok [] J
  | f :: fs, env, J => (f env J).bind fun h J1 => (eArgs fs env J1).bind fun hs J2 => if isExc h = true then .stuck else .ok (norm h :: hs) J2
def eCall (F : FT) (fs : List EF) : EF := fun env J => (eArgs fs env J).bind fun hs J1 => F hs J1
def PostH (K : PySem.W.Frag) (Z : List Zx) (W : WX) (Xo : Addr → Prop) (js : List Addr) (H : Hp) (σ : L2.St) (env : En) (Q : List V → Hp → Prop) : R (List HV) → Prop
  | .ok hs J => ∀ vs H', Ext js H H' → Fit K Z Xo js H' σ env J → HReps K [] H' (Yf Xo js) js hs vs → Q vs H'
  | .err c fs J => Flies K Z W Xo js H σ env c fs J
  | .stuck => False
def tH (K : PySem.W.Frag) (Z : List Zx) (W : WX) (fs : List EF) : TA := fun σ H Q => ∃ Xo js env J, Fit K Z Xo js H σ env J ∧ PostH K Z W Xo js H σ env Q (eArgs fs env J)
/-- a call's end -/
def PostC (K : PySem.W.Frag) (Z : List Zx) (Xo : Addr → Prop) (js : List Addr) (H : Hp) (Q : VK) (E : XK) : R HV → Prop
  | .ok h J => ∀ v H', Ext js H H' → OutN K Z Xo js H H' [] [] J h v → Q v H'
  | .err c fs J => ∀ cls od H', ExcAt K Xo js c fs cls od H' → Ext js H H' → Fit K Z Xo js H' [] [] J → E cls od H'
  | .stuck => False
/-- the promise of a def: it is F -/
def spF (K : PySem.W.Frag) (n : Nat) (F : FT) : Sp := fun vs H Q E => ∃ Xo js J hs, Fit K [] Xo js H [] [] J ∧ hs.length = n ∧ HReps K [] H (Yf Xo js) js hs vs ∧ PostC K [] Xo js H Q E (F hs J)
section
variable {X : Cx} {W : WX} {e : Expr} {es : List Expr} {f : EF} {fs : List EF} {pos : Pos} {K : PySem.W.Frag} {Xo : Addr → Prop} {js : List Addr} {H H' : Hp} {σ : L2.St} {env : En} {J J' : Jr} {Z : List Zx}
theorem hreps_len {Y : Addr → Prop} : ∀ {hs : List HV} {vs : List V}, HReps K Z H Y js hs vs → vs.length = hs.length
  | [], vs, h => by unfold HReps at h; rw [h]; rfl
  | d :: ds, vs, h => by
    unfold HReps at h
    obtain ⟨v, r, e, _, h2⟩ := h
    rw [e, List.length_cons, List.length_cons, hreps_len h2]
theorem spF_len {n : Nat} {F : FT} (vs : List V) (H : Hp) (Q : VK) (E : XK) (h : spF K n F vs H Q E) : vs.length = n := by
  obtain ⟨Xo, js, J, hs, _, hl, hr, _⟩ := h
  rw [hreps_len hr, hl]
theorem eArgs_len : ∀ {fs : List EF} {env : En} {J J' : Jr} {hs : List HV}, eArgs fs env J = .ok hs J' → hs.length = fs.length
  | [], env, J, J', hs, h => by cases h; rfl
  | f :: fs, env, J, J', hs, h => by
    unfold eArgs at h
    cases hf : f env J with
    | stuck => rw [hf] at h; cases h
    | err c fs J1 => rw [hf] at h; cases h
    | ok z J1 =>
      rw [hf] at h
      have h : ((eArgs fs env J1).bind fun hs J2 => if isExc z = true then R.stuck else R.ok (norm z :: hs) J2) = .ok hs J' := h
      cases hg : eArgs fs env J1 with
      | stuck => rw [hg] at h; cases h
      | err c fs J1 => rw [hg] at h; cases h
      | ok zs J2 =>
        rw [hg] at h
        have h : (if isExc z = true then R.stuck else R.ok (norm z :: zs) J2) = .ok hs J' := h
        by_cases hz : isExc z = true
        · rw [if_pos hz] at h; cases h
        rw [if_neg hz] at h
        cases h
        rw [List.length_cons, List.length_cons, eArgs_len hg]
theorem hrep_drop {Y : Addr → Prop} {h : HV} {v : V} (hz : ¬ isExc h = true) (x : HRep K Z H Y js (norm h) v) : HRep K [] H Y js (norm h) v := by
  cases h with
  | val d => exact x
  | jar k => exact x
  | new ds => exact x
  | exc k => exact absurd rfl hz
theorem Fit.bare (F : Fit K Z Xo js H σ env J) : Fit K Z Xo js H [] [] J := ⟨F.out, F.nd, F.jx, F.len, rfl, F.jar, fun i h e => (by simp at e), F.ez⟩
theorem Fit.bareZ (F : Fit K Z Xo js H σ env J) : Fit K [] Xo js H [] [] J := ⟨F.out, F.nd, F.jx, F.len, rfl, F.jar, fun i h e => (by simp at e), fun z hz => (by simp at hz)⟩
/-- behind a call: the slots as they were -/
theorem Fit.renew {Z' : List Zx} (F : Fit K Z Xo js H σ env J) (e : Ext js H H') {Xo' : Addr → Prop} (hX : ∀ a, Xo' a → Xo a ∨ H a = none) (G : Fit K Z' Xo' js H' [] [] J') : Fit K Z Xo' js H' σ env J' :=
  ⟨G.out, G.nd, G.jx, G.len, F.slen, G.jar, fun i h q => by
    obtain ⟨v, h1, h2⟩ := F.slot i h q
    exact ⟨v, h1, h2.move (fun a o q n => e a o q fun z => n (.inr z)) (fun a y => y.elim (fun y => (hX a y).elim (fun z => .inl (.inl z)) .inr) fun y => .inl (.inr y)) F.lists⟩, fun z hz => (F.ez z hz).move (fun a o q n => e a o q fun z => n (.inr z)) (fun a y => y.elim (fun y => (hX a y).elim (fun z => .inl (.inl z)) .inr) fun y => .inl (.inr y)) F.lists⟩
theorem ph_nil : PA X [] (tH X.K Z W []) := pa_mono pa_nil fun σ H Q ⟨Xo, js, env, J, F, p⟩ => p [] H .refl F rfl
theorem ph_cons (ha : PE X e (tD X.K Z W f)) (hb : PA X es (tH X.K Z W fs)) (hs : starEach (e :: es) X.env = (false, eval e X.env) :: starEach es X.env) : PA X (e :: es) (tH X.K Z W (f :: fs)) :=
  pa_mono (pa_cons ha hb hs) fun σ H Q ⟨Xo, js, env, J, F, p⟩ => by
    refine ⟨Xo, js, env, J, F, ?_⟩
    unfold eArgs at p
    cases hf : f env J with
    | stuck => rw [hf] at p; exact p.elim
    | err c fs J1 => rw [hf] at p; exact p
    | ok h J1 =>
      rw [hf] at p
      intro x H1 e1 F1 x1
      refine ⟨Xo, js, env, J1, F1, ?_⟩
      have p : PostH X.K Z W Xo js H σ env Q ((eArgs fs env J1).bind fun hs J2 => if isExc h = true then .stuck else .ok (norm h :: hs) J2) := p
      cases hg : eArgs fs env J1 with
      | stuck => rw [hg] at p; exact p.elim
      | err c fs J2 => rw [hg] at p; exact p.later e1
      | ok ds J2 =>
        rw [hg] at p
        intro vs H2 e2 F2 r2
        have p : PostH X.K Z W Xo js H σ env Q (if isExc h = true then .stuck else .ok (norm h :: ds) J2) := p
        by_cases hz : isExc h = true
        · rw [if_pos hz] at p; exact p.elim
        rw [if_neg hz] at p
        exact p (x :: vs) H2 (e1.trans e2) F2 ⟨x, vs, rfl, hrep_drop hz (x1.ext F1 e2), r2⟩
theorem call_read {n : Nat} {F : FT} {t : TA} (hn : fs.length = n) (m : ∀ σ H Q, tH X.K Z W fs σ H Q → t σ H Q) {σ : L2.St} {H : Hp} {Q : VK} {E : XK} (hE : ∀ cls od H, W cls od σ H → E cls od H) (w : tN X.K Z W (eCall F fs) σ H Q) : t σ H fun vs H1 => spF X.K n F vs H1 Q E := by
  obtain ⟨Xo, js, env, J, Fi, p⟩ := w
  refine m _ _ _ ⟨Xo, js, env, J, Fi, ?_⟩
  unfold eCall at p
  cases hf : eArgs fs env J with
  | stuck => rw [hf] at p; exact p.elim
  | err c fs J1 => rw [hf] at p; exact p
  | ok hs J1 =>
    rw [hf] at p
    intro vs H1 e1 F1 r1
    refine ⟨Xo, js, J1, hs, F1.bareZ, (eArgs_len hf).trans hn, r1, ?_⟩
    have p : PostN X.K Z W Xo js H σ env Q (F hs J1) := p
    cases hr : F hs J1 with
    | stuck => rw [hr] at p; exact p.elim
    | err c fs J2 => rw [hr] at p; exact fun cls od H2 x e2 G => hE _ _ _ (p cls od H2 x (e1.trans e2) (F1.renew e2 (fun _ h => .inl h) G))
    | ok h J2 =>
      rw [hr] at p
      intro v H2 e2 o
      refine p v H2 (e1.trans e2) ?_
      cases h with
      | val d => exact ⟨F1.renew e2 (fun _ h => .inl h) o.1, o.2⟩
      | jar k => exact ⟨F1.renew e2 (fun _ h => .inl h) o.1, o.2⟩
      | exc k =>
        obtain ⟨_, a, ha, _⟩ := o
        simp at ha
      | new ds =>
        obtain ⟨q, us, a1, a2, a3, a4, a5⟩ := o
        exact ⟨q, us, a1, none_back e1 F1.lists a2, a3, F1.renew e2 (fun a h => h.elim .inl fun z => .inr (z ▸ a2)) a4, a5⟩
variable {k : Nat} {g : Addr} {fd : FuncData} {ps : List Str} {x : Str} {p : Pos} {F : FT}
/-- f(e, ..), f a def of the text -/
theorem pn_call (G : FnOk X.prog X.w X.K X.mg X.base (L2.CX X.prog X.w) k g fd ps (spF X.K ps.length F)) (tk : Takes X W) (hr : Room k X.A) (hg : Gl X x) (hm : X.mg x = some (.ref g)) (hk : PySem.W.keepIn X.K (.ref g) = true) (hb : Binds X.K fd ps [])
    (ha : PA X (e :: es) (tH X.K Z W fs)) (hn : fs.length = ps.length) (hdb : (x == ("__debug__" : Str)) = false) (he : starEach (e :: es) X.env = (false, eval e X.env) :: starEach es X.env) (hpl : (backTo pos (starEach es X.env)).any (·.1) = false) :
    PE X (.Call (.Name x p) (e :: es) [] pos) (tN X.K Z W (eCall F fs)) :=
  pe_mono (pe_callS G hr hg hm hk hb (fun σ => passAt tk σ) ha hdb he hpl) fun σ H Q w => call_read hn (fun _ _ _ z => z) (fun _ _ _ z => z) w
/-- within a comprehension: nothing is let out -/
abbrev W0 : WX := fun _ _ _ _ => False
theorem pn_call0 (G : FnOk X.prog X.w X.K X.mg X.base (L2.CX X.prog X.w) k g fd ps (spF X.K ps.length F)) (hr : Room k X.A) (hg : Gl X x) (hm : X.mg x = some (.ref g)) (hk : PySem.W.keepIn X.K (.ref g) = true) (hb : Binds X.K fd ps [])
    (ha : PA X (e :: es) (tH X.K Z W0 fs)) (hn : fs.length = ps.length) (hdb : (x == ("__debug__" : Str)) = false) (he : starEach (e :: es) X.env = (false, eval e X.env) :: starEach es X.env) (hpl : (backTo pos (starEach es X.env)).any (·.1) = false) :
    PE X (.Call (.Name x p) (e :: es) [] pos) (tN X.K Z W0 (eCall F fs)) :=
  pe_mono (pe_call G hr hg hm hk hb .nil passL ha hdb he hpl) fun σ H Q w => by
    have := call_read (X := X) (W := W0) (t := tH X.K Z W0 fs) (E := E0) hn (fun _ _ _ z => z) (fun _ _ _ z => z) w
    unfold tCall
    simp only [List.append_nil]
    exact this
end
end L2.Pz
set_option Elab.async false
set_option linter.all false
set_option maxRecDepth 100000
set_option maxHeartbeats 4000000
set_option autoImplicit false
namespace L2.Pz
open PySem PySem.Spec PyProof.Rows

/-! ### what is walked -/
abbrev IF := En → Jr → R (List D)
def Keeps (Y : Addr → Prop) (H0 H : Hp) : Prop := ∀ a o, H0 a = some o → ¬ Y a → H a = some o
structure WalkD (K : PySem.W.Frag) (Y : Addr → Prop) (H0 : Hp) (J : It) (ds : List D) : Prop where
  ex : ∃ (G : Hp → Prop) (Yl : Nat → Hp → V → Hp → Prop), Walk J ds.length G Yl ∧ (∀ H, Keeps Y H0 H → G H) ∧
    ∀ Y' : Addr → Prop, (∀ a, Y' a → Y a ∨ H0 a = none) → ∀ i H x H', i < ds.length → Keeps Y H0 H → Lists H Y' → Yl i H x H' → Same H H' ∧ ∃ d, ds[i]? = some d ∧ Rep K H' Y' d x
def chars (z : Str) : List D := z.cps.toList.map fun c => .str ⟨#[c]⟩
def itemsOf : HV → Option (List D)
  | .val (.lst ds) => some ds
  | .val (.tup ds) => some ds
  | .new ds => some ds
  | .val (.str z) => some (chars z)
  | _ => none
def iAny (f : EF) : IF := fun env J => (f env J).bind fun h J1 => match itemsOf h with
  | some ds => .ok ds J1
  | none => .stuck
def rgD (lo : Int) (n : Nat) : List D := (List.range n).map fun i => .int (lo + (i : Nat))
def rgOk (i : Int) : Bool := decide (-(2 ^ 62) ≤ i) && decide (i < 2 ^ 62)
def iRange1 (f : EF) : IF := fun env J => (f env J).bind fun h J1 => match h with
  | .val (.int n) => if rgOk n = true then .ok (rgD 0 n.toNat) J1 else .stuck
  | _ => .stuck
def rg2End (J : Jr) : HV → HV → R (List D)
  | .val (.int m), .val (.int n) => if (rgOk m && rgOk n) = true then .ok (rgD m (n - m).toNat) J else .stuck
  | _, _ => .stuck
def iRange2 (f g : EF) : IF := fun env J => (f env J).bind fun h J1 => (g env J1).bind fun h2 J2 => rg2End J2 h h2
def PostW (K : PySem.W.Frag) (Z : List Zx) (W : WX) (Xo : Addr → Prop) (js : List Addr) (H : Hp) (σ : L2.St) (env : En) (Q : It → Hp → Prop) : R (List D) → Prop
  | .ok ds J => ∀ I H', Ext js H H' → Fit K Z Xo js H' σ env J → WalkD K (Yf Xo js) H' I ds → Q I H'
  | .err c fs J => Flies K Z W Xo js H σ env c fs J
  | .stuck => False
def tW (K : PySem.W.Frag) (Z : List Zx) (W : WX) (f : IF) : TI := fun σ H Q => ∃ Xo js env J, Fit K Z Xo js H σ env J ∧ PostW K Z W Xo js H σ env Q (f env J)
theorem pi_mono {X : Cx} {tg e : Expr} {t t' : TI} (h : PI X tg e t) (m : ∀ σ H Q, t' σ H Q → t σ H Q) : PI X tg e t' := ⟨fun pins s σ H Q I w => h.run pins s σ H Q I (m σ H Q w)⟩
section
variable {X : Cx} {tg e : Expr} {te : TE} {Z : List Zx}
def iAnyT (K : PySem.W.Frag) (tl : TE) : TI := fun σ H R => tl σ H fun x H1 => (∃ a, x = .ref a ∧ (∃ xs, SqL K H1 a xs) ∧ R (Itl K a) H1) ∨ (∃ a, x = .ref a ∧ (∃ xs, SqT K H1 a xs) ∧ R (Itt K a) H1) ∨ ∃ z, x = .str z ∧ R (Its z) H1
theorem pi_anyT (hl : PE X e te) : PI X tg e (iAnyT X.K te) := by
  refine ⟨fun pins s σ H R I h => ?_⟩
  refine thn (hl.run pins s σ H _ I h) fun v s1 ⟨x, H1, I1, r1, q1⟩ => ?_
  rcases q1 with ⟨a, e, ⟨xs, hq⟩, q⟩ | ⟨a, e, ⟨xs, hq⟩, q⟩ | ⟨z, e, q⟩
  · subst e
    cases r1
    obtain ⟨its, rv, p, hz⟩ := I1.list hq
    refine wpAny_pyIter_list p.isList ?_
    exact pi_one (tk := s1.toks) I1 _ (turn_list a _) ⟨_, Heap.get?_push_size _ rfl, rfl, rfl⟩ q
  · subst e
    cases r1
    obtain ⟨its, rv, p, hz⟩ := I1.tuple hq
    refine wpAny_pyIter_tuple (show s1.heap.IsTuple a its.toArray from p) ?_
    exact pi_one (tk := s1.toks) I1 _ (turn_tuple a _) ⟨_, Heap.get?_push_size _ rfl, rfl, rfl⟩ q
  · subst e
    obtain ⟨t, rfl⟩ := r1
    cases ha : z.cps.all (· < 128)
    · exact wpAny_pyIter_wide ha (pi_one (tk := s1.toks) I1 _ (turn_str _ z t "str_iterator" (.inr rfl)) ⟨_, Heap.get?_push_size _ rfl, rfl, rfl⟩ q)
    · exact wpAny_pyIter_ascii ha (pi_one (tk := s1.toks) I1 _ (turn_str _ z t "str_ascii_iterator" (.inl rfl)) ⟨_, Heap.get?_push_size _ rfl, rfl, rfl⟩ q)
end
section
variable {K : PySem.W.Frag} {H : Hp} {Y : Addr → Prop} {Z : List Zx}
theorem walkD_list {a : Addr} {vs : List V} {ds : List D} (hl : Lists H Y) (s : LsY K H Y a vs) (r : Reps K H Y ds vs) : WalkD K Y H (Itl K a) ds := by
  have w := walk_list (K := K) (a := a) (xs := vs)
  rw [reps_len r] at w
  refine ⟨_, _, w, fun H1 k => (lsY_move (Y' := Y) k (fun _ y => .inl y) s).sq, fun Y' hY i H1 x H' hi k _ y => ?_⟩
  obtain ⟨e, y⟩ := y
  subst e
  obtain ⟨d, h1, h2⟩ := reps_at r y
  exact ⟨Same.refl _, d, h1, rep_move k hY hl _ _ h2⟩
theorem walkD_tup {a : Addr} {vs : List V} {ds : List D} (hl : Lists H Y) (s : SqT K H a vs) (r : Reps K H Y ds vs) : WalkD K Y H (Itt K a) ds := by
  have w := walk_tup (K := K) (a := a) (xs := vs)
  rw [reps_len r] at w
  refine ⟨_, _, w, fun H1 k => sqT_move k hl s, fun Y' hY i H1 x H' hi k _ y => ?_⟩
  obtain ⟨e, y⟩ := y
  subst e
  obtain ⟨d, h1, h2⟩ := reps_at r y
  exact ⟨Same.refl _, d, h1, rep_move k hY hl _ _ h2⟩
theorem walkD_str {z : Str} : WalkD K Y H (Its z) (chars z) := by
  have w := walk_str (z := z)
  have e : z.cps.size = (chars z).length := by unfold chars; simp
  rw [e] at w
  refine ⟨_, _, w, fun _ _ => trivial, fun Y' hY i H1 x H' hi k _ y => ?_⟩
  obtain ⟨e, c, hc, hx⟩ := y
  subst e
  refine ⟨Same.refl _, .str ⟨#[c]⟩, ?_, by rw [hx]; exact mk_str⟩
  unfold chars
  rw [List.getElem?_map]
  simp [hc]
theorem walkD_range {lo : Int} {n : Nat} : WalkD K Y H (Itr lo n) (rgD lo n) := by
  have w := walk_range (lo := lo) (n := n)
  have e : n = (rgD lo n).length := by unfold rgD; simp
  refine ⟨fun _ => True, YFn fun i => .int (lo + i), ?_, fun _ _ => trivial, fun Y' hY i H1 x H' hi k _ y => ?_⟩
  · have : Walk (Itr lo n) n (fun _ => True) (YFn fun i => .int (lo + i)) := w
    exact e ▸ this
  · obtain ⟨e2, hx⟩ := y
    subst e2
    rw [← e] at hi
    refine ⟨Same.refl _, .int (lo + i), ?_, by rw [hx]; exact mk_int⟩
    unfold rgD
    rw [List.getElem?_map, List.getElem?_range hi]
    rfl
end
section
variable {X : Cx} {W : WX} {tg e a b : Expr} {f g : EF} {p pos : Pos} {Z : List Zx}
theorem pw_any (he : PE X e (tD X.K Z W f)) : PI X tg e (tW X.K Z W (iAny f)) := pi_mono (pi_anyT he) fun σ H Q ⟨Xo, js, env, J, F, p⟩ => by
  refine ⟨Xo, js, env, J, F, ?_⟩
  unfold iAny at p
  cases hf : f env J with
  | stuck => rw [hf] at p; exact p.elim
  | err c fs J1 => rw [hf] at p; exact p
  | ok h J1 =>
    rw [hf] at p
    intro x H1 e1 F1 x1
    have p : PostW X.K Z W Xo js H σ env Q (match itemsOf h with
      | some ds => .ok ds J1
      | none => .stuck) := p
    have lst : ∀ ds, norm h = .val (.lst ds) → itemsOf h = some ds → (∃ a, x = .ref a ∧ (∃ xs, SqL X.K H1 a xs) ∧ Q (Itl X.K a) H1) := fun ds hn hi => by
      rw [hi] at p
      rw [hn] at x1
      obtain ⟨a, vs, e, s, r⟩ := rep_lst (K := X.K) (H := H1) (Y := Yf Xo js).mp x1
      exact ⟨a, e, ⟨vs, s.sq⟩, p _ _ e1 F1 (walkD_list F1.lists s r)⟩
    cases h with
    | jar k => exact p.elim
    | exc k => exact p.elim
    | new ds => exact .inl (lst ds rfl rfl)
    | val d =>
      cases d with
      | lst ds => exact .inl (lst ds rfl rfl)
      | tup ds =>
        obtain ⟨a, vs, e, s, r⟩ := rep_tup (K := X.K) (H := H1) (Y := Yf Xo js).mp x1
        exact .inr (.inl ⟨a, e, ⟨vs, s⟩, p _ _ e1 F1 (walkD_tup F1.lists s r)⟩)
      | str z => exact .inr (.inr ⟨z, rep_str (K := X.K) (H := H1) (Y := Yf Xo js) x1, p _ _ e1 F1 walkD_str⟩)
      | non => exact p.elim
      | bl b => exact p.elim
      | int b => exact p.elim
theorem pw_range1 (hg : Gl X "range") (hm : X.mg "range" = none) (he : PE X a (tD X.K Z W f)) (h1 : starEach [a] X.env = (false, eval a X.env) :: starEach [] X.env) (hs : starEach [a] X.env = [(false, eval a X.env)]) : PI X tg (.Call (.Name "range" p) [a] [] pos) (tW X.K Z W (iRange1 f)) :=
  pi_mono (pi_range1 hg hm (pa_cons he pa_nil h1) hs) fun σ H Q ⟨Xo, js, env, J, F, p⟩ => by
    show tD X.K Z W f σ H fun x H1 => tNil σ H1 fun xs H2 => _
    refine ⟨Xo, js, env, J, F, ?_⟩
    unfold iRange1 at p
    cases hf : f env J with
    | stuck => rw [hf] at p; exact p.elim
    | err c fs J1 => rw [hf] at p; exact p
    | ok h J1 =>
      rw [hf] at p
      intro x H1 e1 F1 x1
      cases h with
      | jar k => exact p.elim
      | exc k => exact p.elim
      | new ds => exact p.elim
      | val d =>
        cases d with
        | int n =>
          have p : PostW X.K Z W Xo js H σ env Q (if rgOk n = true then .ok (rgD 0 n.toNat) J1 else .stuck) := p
          split at p
          · rename_i h
            unfold rgOk at h
            rw [Bool.and_eq_true] at h
            refine ⟨n, by rw [rep_int (K := X.K) (H := H1) (Y := Yf Xo js) x1], of_decide_eq_true h.1, of_decide_eq_true h.2, p _ _ e1 F1 walkD_range⟩
          · exact p.elim
        | _ => exact p.elim
theorem pw_range2 (hg : Gl X "range") (hm : X.mg "range" = none) (ha : PE X a (tD X.K Z W f)) (hb : PE X b (tD X.K Z W g)) (h1 : starEach [a, b] X.env = (false, eval a X.env) :: starEach [b] X.env) (h2 : starEach [b] X.env = (false, eval b X.env) :: starEach [] X.env)
    (hs : starEach [a, b] X.env = [(false, eval a X.env), (false, eval b X.env)]) (hs2 : starEach [b] X.env = [(false, eval b X.env)]) : PI X tg (.Call (.Name "range" p) [a, b] [] pos) (tW X.K Z W (iRange2 f g)) :=
  pi_mono (pi_range2 hg hm (pa_cons ha (pa_cons hb pa_nil h2) h1) hs hs2) fun σ H Q ⟨Xo, js, env, J, F, p⟩ => by
    show tD X.K Z W f σ H fun x H1 => tD X.K Z W g σ H1 fun y H2 => _
    refine ⟨Xo, js, env, J, F, ?_⟩
    unfold iRange2 at p
    cases hf : f env J with
    | stuck => rw [hf] at p; exact p.elim
    | err c fs J1 => rw [hf] at p; exact p
    | ok h J1 =>
      rw [hf] at p
      intro x H1 e1 F1 x1
      have p : PostW X.K Z W Xo js H σ env Q ((g env J1).bind fun h2 J2 => rg2End J2 h h2) := p
      refine ⟨Xo, js, env, J1, F1, ?_⟩
      cases hg : g env J1 with
      | stuck => rw [hg] at p; exact p.elim
      | err c fs J2 => rw [hg] at p; exact p.later e1
      | ok h2 J2 =>
        rw [hg] at p
        intro y H2 e2 F2 y2
        have x2 := x1.ext F1 e2
        cases h with
        | jar k => exact p.elim
        | exc k => exact p.elim
        | new ds => exact p.elim
        | val d =>
          cases d with
          | int m =>
            cases h2 with
            | jar k => exact p.elim
            | exc k => exact p.elim
            | new ds => exact p.elim
            | val d =>
              cases d with
              | int n =>
                have p : PostW X.K Z W Xo js H σ env Q (if (rgOk m && rgOk n) = true then .ok (rgD m (n - m).toNat) J2 else .stuck) := p
                split at p
                · rename_i h
                  unfold rgOk at h
                  rw [Bool.and_eq_true, Bool.and_eq_true, Bool.and_eq_true] at h
                  refine ⟨m, n, by rw [rep_int (K := X.K) (H := H2) (Y := Yf Xo js) x2, rep_int (K := X.K) (H := H2) (Y := Yf Xo js) y2], ⟨of_decide_eq_true h.1.1, of_decide_eq_true h.1.2, of_decide_eq_true h.2.1, of_decide_eq_true h.2.2⟩, p _ _ (e1.trans e2) F2 walkD_range⟩
                · exact p.elim
              | _ => exact p.elim
          | _ => exact p.elim
end

/-! ### targets -/
abbrev TF := D → En → Option En
def tgName (i : Nat) : TF := fun d env => some (env.set i (some (.val d)))
def tgs : List Nat → List D → En → Option En
  | [], [], env => some env
  | i :: is, d :: ds, env => tgs is ds (env.set i (some (.val d)))
  | _, _, _ => none
def tgTup (is : List Nat) : TF := fun d env => match d with
  | .tup ds => tgs is ds env
  | .lst ds => none
  | _ => none
/-- a target's reading: data of d come to slots -/
def TgOk (K : PySem.W.Frag) (Z : List Zx) (g : TG) (t : TF) : Prop := ∀ (Xo : Addr → Prop) (js : List Addr) (H : Hp) (σ : L2.St) (env env' : En) (J : Jr) (d : D) (v : V) (Q : L2.St → Hp → Prop), Fit K Z Xo js H σ env J → Rep K H (Yf Xo js) d v → t d env = some env' →
  (∀ σ', Fit K Z Xo js H σ' env' J → Q σ' H) → g v σ H Q
section
variable {K : PySem.W.Frag} {Xo : Addr → Prop} {js : List Addr} {H H' : Hp} {σ : L2.St} {env : En} {J : Jr} {Z : List Zx}
theorem Fit.set (F : Fit K Z Xo js H σ env J) (i : Nat) {h : HV} {v : V} (x : HRep K Z H (Yf Xo js) js h v) : Fit K Z Xo js H (σ.set i (some v)) (env.set i (some h)) J :=
  ⟨F.out, F.nd, F.jx, F.len, by rw [List.length_set, List.length_set]; exact F.slen, F.jar, fun j h' e => by
    by_cases hj : i = j
    · subst hj
      have hi : i < env.length := by
        have := (List.getElem?_eq_some_iff.mp e).1
        rw [List.length_set] at this
        exact this
      rw [List.getElem?_set_self hi] at e
      cases e
      exact ⟨v, List.getElem?_set_self (by rw [F.slen]; exact hi), x⟩
    · rw [List.getElem?_set_ne hj] at e
      obtain ⟨u, h1, h2⟩ := F.slot j h' e
      exact ⟨u, by rw [List.getElem?_set_ne hj]; exact h1, h2⟩, F.ez⟩
theorem tgok_name {i : Nat} : TgOk K Z (gName i) (tgName i) := fun Xo js H σ env env' J d v Q F r e q => by
  cases e
  exact q _ (F.set i (h := .val d) r)
def TgsOk (K : PySem.W.Frag) (Z : List Zx) (g : TGs) (is : List Nat) : Prop := ∀ (Xo : Addr → Prop) (js : List Addr) (H : Hp) (σ : L2.St) (env env' : En) (J : Jr) (ds : List D) (vs : List V) (Q : L2.St → Hp → Prop), Fit K Z Xo js H σ env J → Reps K H (Yf Xo js) ds vs → tgs is ds env = some env' →
  (∀ σ', Fit K Z Xo js H σ' env' J → Q σ' H) → g vs σ H Q
theorem tgsok_nil : TgsOk K Z gNil [] := fun Xo js H σ env env' J ds vs Q F r e q => by
  cases ds with
  | nil => cases e; exact ⟨reps_nil.mp r, q _ F⟩
  | cons d ds => cases e
theorem tgsok_cons {i : Nat} {is : List Nat} {u : TGs} (h : TgsOk K Z u is) : TgsOk K Z (gCons (gName i) u) (i :: is) := fun Xo js H σ env env' J ds vs Q F r e q => by
  cases ds with
  | nil => cases e
  | cons d ds =>
    obtain ⟨v, r', e1, h1, h2⟩ := reps_cons.mp r
    exact ⟨v, r', e1, h Xo js H _ _ _ J ds r' Q (F.set i (h := .val d) h1) h2 e q⟩
theorem tgs_len : ∀ {is : List Nat} {ds : List D} {env env' : En}, tgs is ds env = some env' → ds.length = is.length
  | [], [], _, _, _ => rfl
  | [], _ :: _, _, _, h => by cases h
  | _ :: _, [], _, _, h => by cases h
  | i :: is, d :: ds, env, env', h => by
    rw [List.length_cons, List.length_cons, tgs_len (is := is) (ds := ds) (env := env.set i (some (.val d))) h]
theorem tgok_tup {n : Nat} {is : List Nat} {u : TGs} (h : TgsOk K Z u is) (hn : is.length = n) : TgOk K Z (gTup K n u) (tgTup is) := fun Xo js H σ env env' J d v Q F r e q => by
  cases d with
  | tup ds =>
    obtain ⟨a, vs, e1, s, r1⟩ := rep_tup.mp r
    exact ⟨a, vs, e1, s, by rw [reps_len r1, ← hn]; exact tgs_len e, h Xo js H σ env env' J ds vs Q F r1 e q⟩
  | _ => cases e
end

/-! ### comprehensions -/
def wipeE (env : En) : List Nat → En
  | [] => env
  | v :: vs => (wipeE env vs).set v none
def lcLoop (t : TF) (c : BF) (f : EF) (env : En) : List D → List D → Jr → R HV
  | [], acc, J => .ok (.new acc) J
  | d :: ds, acc, J => match t d env with
    | none => .stuck
    | some env1 => (c env1 J).bind fun b J1 => if b = true then (f env1 J1).bind fun h J2 => match toVal h with
        | some y => if acc.length < big then lcLoop t c f env ds (acc ++ [y]) J2 else .stuck
        | none => .stuck
      else lcLoop t c f env ds acc J1
/-- nothing is let out of the loop's parts -/
def noErr {α : Type} : R α → R α
  | .err _ _ _ => .stuck
  | r => r
def bYes : BF := fun _ J => .ok true J
def eLc (it : IF) (t : TF) (c : BF) (f : EF) (own : List Nat) : EF := fun env J => (it env J).bind fun ds J1 => noErr (lcLoop t c f (wipeE env own) ds [] J1)
section
variable {K : PySem.W.Frag} {Xo : Addr → Prop} {js : List Addr} {H H' : Hp} {σ : L2.St} {env : En} {J : Jr} {Z : List Zx}
theorem Fit.wipe (F : Fit K Z Xo js H σ env J) : ∀ vs : List Nat, Fit K Z Xo js H (L2.wipe σ vs) (wipeE env vs) J
  | [] => F
  | v :: vs => by
    have G := F.wipe vs
    refine ⟨G.out, G.nd, G.jx, G.len, by unfold L2.wipe wipeE; rw [List.length_set, List.length_set]; exact G.slen, G.jar, fun i h e => ?_, G.ez⟩
    unfold wipeE at e
    by_cases hi : v = i
    · subst hi
      have hl : v < (wipeE env vs).length := by
        have := (List.getElem?_eq_some_iff.mp e).1
        rw [List.length_set] at this
        exact this
      rw [List.getElem?_set_self hl] at e
      cases e
    · rw [List.getElem?_set_ne hi] at e
      obtain ⟨u, h1, h2⟩ := G.slot i h e
      refine ⟨u, ?_, h2⟩
      unfold L2.wipe
      rw [List.getElem?_set_ne hi]
      exact h1
/-- the target's slots are the block's own -/
def TgIn (g : TG) (own : List Nat) : Prop := ∀ v (σ : L2.St) (H : Hp) (Q : L2.St → Hp → Prop), g v (L2.wipe σ own) H Q → g v (L2.wipe σ own) H fun σ2 H2 => L2.wipe σ2 own = L2.wipe σ own ∧ Q σ2 H2
end
section
variable {X : Cx} {tg e elt : Expr} {ifs : List Expr} {scope : Scope} {own : List (Str × Nat)} {pos : Pos} {g : TG} {t : TF} {it : IF} {c : BF} {f : EF} {W : WX} {Z : List Zx}
theorem lc_read (htg : TgOk X.K Z g t) (hin : TgIn g (own.map (·.2))) {σ : L2.St} {H : Hp} {Q : VK} (w : tN X.K Z W (eLc it t c f (own.map (·.2))) σ H Q) : tLc (tW X.K Z W it) g (tT X.K Z W0 c) (tD X.K Z W0 f) (own.map (·.2)) σ H Q := by
  obtain ⟨Xo, js, env, J, F, p⟩ := w
  refine ⟨Xo, js, env, J, F, ?_⟩
  unfold eLc at p
  cases hi : it env J with
  | stuck => rw [hi] at p; exact p.elim
  | err c fs J1 => rw [hi] at p; exact p
  | ok ds J1 =>
    rw [hi] at p
    have p : PostN X.K Z W Xo js H σ env Q (noErr (lcLoop t c f (wipeE env (own.map (·.2))) ds [] J1)) := p
    intro I H1 e1 F1 wd D hD
    obtain ⟨G, Yl, wk, hG, hY⟩ := wd.ex
    -- the new list at D is locked meanwhile
    have F2 : Fit X.K Z (With Xo D) js (upd H1 D (.lst [])) σ env J1 := F1.lock (same_upd hD) hD upd_same
    have hDj : D ∉ js := fun z => F2.jx D z (.inr rfl)
    have kp : ∀ {H2 : Hp}, Keeps (Yf (With Xo D) js) (upd H1 D (.lst [])) H2 → Keeps (Yf Xo js) H1 H2 := fun {H2} k a o q n => by
      have ne : a ≠ D := fun z => by rw [z, hD] at q; cases q
      exact k a o (by rw [upd_ne ne]; exact q) fun y => y.elim (fun y => y.elim (fun y => n (.inl y)) fun z => ne z) fun y => n (.inr y)
    refine lc_it wk (fun i H3 => ∃ acc vs J3, H3 D = some (.lst vs) ∧ Fit X.K Z (With Xo D) js H3 σ env J3 ∧ Reps X.K H3 (Yf (With Xo D) js) acc vs ∧ Keeps (Yf (With Xo D) js) (upd H1 D (.lst [])) H3 ∧
        PostN X.K Z W Xo js H σ env Q (noErr (lcLoop t c f (wipeE env (own.map (·.2))) (ds.drop i) acc J3)) ∧ Ext js H H3) ?_ ?_ ?_ ?_
    · exact ⟨[], [], J1, upd_same, F2, reps_nil.mpr rfl, fun a o q _ => q, p, e1.trans (.of (same_upd hD))⟩
    · rintro i H3 hi ⟨acc, vs, J3, h1, h2, h3, h4, h5, h6⟩
      exact hG H3 (kp h4)
    · rintro i x H3 H4 hi ⟨acc, vs, J3, h1, h2, h3, h4, h5, h6⟩ y
      obtain ⟨sm, d, hd, rd'⟩ := hY (Yf (With Xo D) js) (fun a z => z.elim (fun z => z.elim (fun z => .inl (.inl z)) fun z => .inr (z ▸ hD)) fun z => .inl (.inr z)) i H3 x H4 hi (kp h4) h2.lists y
      have hdrop : ds.drop i = d :: ds.drop (i + 1) := by
        obtain ⟨hl, he⟩ := List.getElem?_eq_some_iff.mp hd
        rw [← he]
        exact List.drop_eq_getElem_cons hl
      rw [hdrop] at h5
      unfold lcLoop at h5
      cases ht : t d (wipeE env (own.map (·.2))) with
      | none => rw [ht] at h5; exact h5.elim
      | some env1 =>
        rw [ht] at h5
        have h5 : PostN X.K Z W Xo js H σ env Q (noErr ((c env1 J3).bind fun b J1 => if b = true then (f env1 J1).bind fun h J2 => match toVal h with
            | some y => if acc.length < big then lcLoop t c f (wipeE env (own.map (·.2))) (ds.drop (i + 1)) (acc ++ [y]) J2 else .stuck
            | none => .stuck
          else lcLoop t c f (wipeE env (own.map (·.2))) (ds.drop (i + 1)) acc J1)) := h5
        have F4 : Fit X.K Z (With Xo D) js H4 σ env J3 := h2.same sm
        refine hin _ _ _ _ (htg _ _ _ _ _ _ _ _ _ _ (F4.wipe (own.map (·.2))) rd' ht fun σ2 F5 => ?_)
        refine ⟨With Xo D, js, env1, J3, F5, ?_⟩
        cases hc : c env1 J3 with
        | stuck => rw [hc] at h5; exact h5.elim
        | err cc fs J5 => rw [hc] at h5; exact h5.elim
        | ok b J5 =>
          rw [hc] at h5
          intro H5 e5 F6
          have hD4 : H4 D = some (.lst vs) := sm _ _ h1
          have r4 : Reps X.K H4 (Yf (With Xo D) js) acc vs := reps_move (fun a o q _ => sm _ _ q) (fun _ y => .inl y) h2.lists _ _ h3
          cases b with
          | false =>
            refine iteF ⟨acc, vs, J5, e5 _ _ hD4 hDj, ?_, r4.ext F5 e5, fun a o q n => e5 _ _ (sm _ _ (h4 a o q n)) fun z => n (.inr z), h5, (h6.trans (.of sm)).trans e5⟩
            exact F4.renew e5 (fun _ h => .inl h) F6.bare
          | true =>
            refine iteT ⟨With Xo D, js, env1, J5, F6, ?_⟩
            have h5 : PostN X.K Z W Xo js H σ env Q (noErr ((f env1 J5).bind fun h J2 => match toVal h with
              | some y => if acc.length < big then lcLoop t c f (wipeE env (own.map (·.2))) (ds.drop (i + 1)) (acc ++ [y]) J2 else .stuck
              | none => .stuck)) := h5
            cases hf : f env1 J5 with
            | stuck => rw [hf] at h5; exact h5.elim
            | err cc fs J6 => rw [hf] at h5; exact h5.elim
            | ok h J6 =>
              rw [hf] at h5
              intro y H6 e6 F7 x7
              have h5 : PostN X.K Z W Xo js H σ env Q (noErr (match toVal h with
                | some y => if acc.length < big then lcLoop t c f (wipeE env (own.map (·.2))) (ds.drop (i + 1)) (acc ++ [y]) J6 else .stuck
                | none => .stuck)) := h5
              cases hv : toVal h with
              | none => rw [hv] at h5; exact h5.elim
              | some dy =>
                rw [hv] at h5
                have h5 : PostN X.K Z W Xo js H σ env Q (noErr (if acc.length < big then lcLoop t c f (wipeE env (own.map (·.2))) (ds.drop (i + 1)) (acc ++ [dy]) J6 else .stuck)) := h5
                by_cases hb : acc.length < big
                · rw [if_pos hb] at h5
                  have ry := val_rep x7 hv
                  have e46 : Ext js H4 H6 := e5.trans e6
                  have hD6 : H6 D = some (.lst vs) := e46 _ _ hD4 hDj
                  have r6 : Reps X.K H6 (Yf (With Xo D) js) acc vs := r4.ext F5 e46
                  have F8 : Fit X.K Z (With Xo D) js H6 σ env J6 := F4.renew e46 (fun _ h => .inl h) F7.bare
                  have up : ∀ a o, H6 a = some o → ¬ Yf (With Xo D) js a → upd H6 D (.lst (vs ++ [y])) a = some o := fun a o q n => by
                    rw [upd_ne fun z => n (.inl (.inr z))]; exact q
                  have ls : Lists (upd H6 D (.lst (vs ++ [y]))) (With Xo D) := fun a z => by
                    by_cases ha : a = D
                    · exact ⟨_, by rw [ha]; exact upd_same⟩
                    · rw [upd_ne ha]; exact F8.out a z
                  refine ⟨vs, hD6, by rw [big_eq, reps_len r6]; exact hb, acc ++ [dy], vs ++ [y], J6, upd_same, ?_, ?_, fun a o q n => up _ _ (e46 _ _ (sm _ _ (h4 a o q n)) fun z => n (.inr z)) n, h5, ?_⟩
                  · refine ⟨ls, F8.nd, F8.jx, F8.len, F8.slen, fun k a ds' q1 q2 => ?_, fun k h' q => ?_, fun z hz => (F8.ez z hz).move up (fun _ y => .inl y) F8.lists⟩
                    · obtain ⟨us, u1, u2⟩ := F8.jar k a ds' q1 q2
                      have ha : a ≠ D := fun z => hDj (z ▸ List.mem_of_getElem? q1)
                      exact ⟨us, by rw [upd_ne ha]; exact u1, reps_move up (fun _ y => .inl y) F8.lists _ _ u2⟩
                    · obtain ⟨u, u1, u2⟩ := F8.slot k h' q
                      exact ⟨u, u1, u2.move up (fun _ y => .inl y) F8.lists⟩
                  · exact reps_append (reps_move up (fun _ y => .inl y) F8.lists _ _ r6) (reps_cons.mpr ⟨y, [], rfl, rep_move up (fun _ y => .inl y) F8.lists _ _ ry, reps_nil.mpr rfl⟩)
                  · refine fun a o q n => ?_
                    have q3 := h6 a o q n
                    have ha : a ≠ D := fun z => by
                      have hD0 : H D = none := none_back e1 F1.lists hD
                      rw [z, hD0] at q; cases q
                    rw [upd_ne ha]
                    exact e46 _ _ (sm _ _ q3) n
                · rw [if_neg hb] at h5; exact h5.elim
    · rintro H3 ⟨acc, vs, J3, h1, h2, h3, h4, h5, h6⟩
      rw [List.drop_length] at h5
      exact h5 (.ref D) H3 h6 ⟨D, vs, rfl, none_back e1 F1.lists hD, h1, h2, h3⟩
end
end L2.Pz
set_option Elab.async false
set_option linter.all false
set_option maxRecDepth 100000
set_option maxHeartbeats 4000000
set_option autoImplicit false
namespace L2.Pz
open PySem PySem.Spec PyProof.Rows

/-! ### comprehensions as a rule -/
theorem wipe_at (σ : L2.St) : ∀ (vs : List Nat) (j : Nat), (L2.wipe σ vs)[j]? = if j ∈ vs then (σ[j]?.map fun _ => none) else σ[j]?
  | [], j => by unfold L2.wipe; simp
  | v :: vs, j => by
    unfold L2.wipe
    by_cases h : v = j
    · subst h
      rw [if_pos List.mem_cons_self]
      by_cases hl : v < (L2.wipe σ vs).length
      · rw [List.getElem?_set_self hl]
        rw [L2.wipe_length] at hl
        rw [List.getElem?_eq_getElem hl]; rfl
      · rw [List.getElem?_eq_none (by rw [List.length_set]; omega)]
        rw [L2.wipe_length] at hl
        rw [List.getElem?_eq_none (by omega)]; rfl
    · rw [List.getElem?_set_ne h, wipe_at σ vs j]
      have : (j ∈ v :: vs) ↔ j ∈ vs := by
        constructor
        · intro q
          rcases List.mem_cons.mp q with e | q
          · exact (h e.symm).elim
          · exact q
        · exact List.mem_cons_of_mem _
      by_cases hj : j ∈ vs
      · rw [if_pos hj, if_pos (this.mpr hj)]
      · rw [if_neg hj, if_neg fun q => hj (this.mp q)]
theorem wipe_wset (σ : L2.St) {own : List Nat} {i : Nat} (h : i ∈ own) (x : Option V) {τ : L2.St} (ht : L2.wipe τ own = L2.wipe σ own) : L2.wipe (τ.set i x) own = L2.wipe σ own := by
  rw [← ht]
  refine List.ext_getElem? fun j => ?_
  rw [wipe_at, wipe_at]
  by_cases hj : j ∈ own
  · rw [if_pos hj, if_pos hj]
    by_cases hi : i = j
    · subst hi
      by_cases hl : i < τ.length
      · rw [List.getElem?_set_self hl, List.getElem?_eq_getElem hl]; rfl
      · rw [List.getElem?_eq_none (by rw [List.length_set]; omega), List.getElem?_eq_none (by omega)]
    · rw [List.getElem?_set_ne hi]
  · rw [if_neg hj, if_neg hj, List.getElem?_set_ne fun e => hj (by rw [← e]; exact h)]
theorem wipe_wipe (σ : L2.St) (own : List Nat) : L2.wipe (L2.wipe σ own) own = L2.wipe σ own := by
  refine List.ext_getElem? fun j => ?_
  rw [wipe_at, wipe_at]
  by_cases hj : j ∈ own
  · rw [if_pos hj, if_pos hj]
    cases σ[j]? <;> rfl
  · rw [if_neg hj, if_neg hj]
theorem tgin_name {own : List Nat} {i : Nat} (h : i ∈ own) : TgIn (gName i) own := fun v σ H Q q => ⟨wipe_wset σ h _ (wipe_wipe σ own), q⟩
def TgsIn (u : TGs) (own : List Nat) : Prop := ∀ vs (σ τ : L2.St) (H : Hp) (Q : L2.St → Hp → Prop), L2.wipe τ own = L2.wipe σ own → u vs τ H Q → u vs τ H fun σ2 H2 => L2.wipe σ2 own = L2.wipe σ own ∧ Q σ2 H2
theorem tgsin_nil {own : List Nat} : TgsIn gNil own := fun vs σ τ H Q e ⟨q1, q2⟩ => ⟨q1, e, q2⟩
theorem tgsin_cons {own : List Nat} {i : Nat} {u : TGs} (h : i ∈ own) (hu : TgsIn u own) : TgsIn (gCons (gName i) u) own := fun vs σ τ H Q e ⟨v, r, e1, q⟩ => ⟨v, r, e1, hu r σ _ H Q (wipe_wset σ h _ e) q⟩
theorem tgin_tup {K : PySem.W.Frag} {own : List Nat} {n : Nat} {u : TGs} (hu : TgsIn u own) : TgIn (gTup K n u) own := fun v σ H Q ⟨a, xs, e, s, l, q⟩ => ⟨a, xs, e, s, l, hu xs σ _ H Q (wipe_wipe σ own) q⟩
section
variable {X : Cx} {tg iter elt : Expr} {ifs : List Expr} {scope : Scope} {own : List (Str × Nat)} {pos : Pos} {g : TG} {t : TF} {it : IF} {c : BF} {f : EF} {W : WX} {Z : List Zx}
theorem pn_lc (hc : X.calm = true) (hN : X.N.Nodup) (hi : PI X tg iter (tW X.K Z W it)) (ok : BlkOk X.N X.env.scope scope own)
    (hg : ∀ (s : Shared) (H : Hp) (C : Addr) (cl : List (Str × Addr)) (fp : List Addr), PG (X.blk s H scope (compEnvC scope cl C X.env) fp) tg g) (ht : ∀ (s : Shared) (H : Hp) (C : Addr) (cl : List (Str × Addr)) (fp : List Addr), PTs (X.blk s H scope (compEnvC scope cl C X.env) fp) ifs (tT X.K Z W0 c))
    (he : ∀ (s : Shared) (H : Hp) (C : Addr) (cl : List (Str × Addr)) (fp : List Addr), PE (X.blk s H scope (compEnvC scope cl C X.env) fp) elt (tD X.K Z W0 f)) (htg : TgOk X.K Z g t) (hin : TgIn g (own.map (·.2))) (hs : ∀ x, foldedSetIterable iter X.env x = pure x) :
    PE X (.ListComp elt [⟨tg, iter, ifs, 0⟩] scope pos) (tN X.K Z W (eLc it t c f (own.map (·.2)))) :=
  pe_mono (pe_lc hc hN hi ok hg ht he hs) fun σ H Q w => lc_read htg hin w
theorem pts_yes : PTs X [] (tT X.K Z W0 bYes) := ⟨fun pins s σ H Q I ⟨Xo, js, env, J, F, p⟩ => pts_nil.run pins s σ H Q I (p H .refl F)⟩
theorem pts_oneD {e : Expr} (h : PT X e (tT X.K Z W0 c)) : PTs X [e] (tT X.K Z W0 c) := pts_one h
end

/-! ### statements -/
inductive RS where
  | nx (env : En) (J : Jr) | rt (h : HV) (J : Jr) | bk (env : En) (J : Jr) | ct (env : En) (J : Jr) | err (c : Str) (fs : List (Str × D)) (env : En) (J : Jr) | stuck
abbrev SF := Nat → En → Jr → RS
structure Stp (n0 : Nat) (js js' : List Addr) (H H' : Hp) : Prop where
  ext : Ext js H H'
  new : ∀ a ∈ js', a ∈ js ∨ H a = none
  pre : js'.take n0 = js.take n0
  back : ∀ a, H' a = none → H a = none
theorem Stp.refl {n0 : Nat} {js : List Addr} {H : Hp} : Stp n0 js js H H := ⟨.refl, fun _ h => .inl h, rfl, fun _ h => h⟩
theorem Stp.trans {n0 : Nat} {js js1 js2 : List Addr} {H H1 H2 : Hp} (a : Stp n0 js js1 H H1) (b : Stp n0 js1 js2 H1 H2) : Stp n0 js js2 H H2 where
  ext := fun c o e n => b.ext c o (a.ext c o e n) fun z => (a.new c z).elim n fun w => by rw [e] at w; cases w
  new := fun c h => by
    rcases b.new c h with z | z
    · exact a.new c z
    · exact .inr (a.back c z)
  pre := b.pre.trans a.pre
  back := fun c h => a.back c (b.back c h)
section
variable {K : PySem.W.Frag} {W : WX} {Xo : Addr → Prop} {js js' : List Addr} {H H' : Hp} {σ : L2.St} {env : En} {J : Jr} {n0 : Nat} {Z : List Zx}
theorem Stp.of_ext (F : Fit K Z Xo js H' σ env J) (e : Ext js H H') : Stp n0 js js H H' := ⟨e, fun _ h => .inl h, rfl, fun a h => none_back e F.lists h⟩
end
def PostS (K : PySem.W.Frag) (Z : List Zx) (W : WX) (n0 : Nat) (Xo : Addr → Prop) (js : List Addr) (H : Hp) (D : Ends) : RS → Prop
  | .nx env J => ∀ σ' H' js', Stp n0 js js' H H' → Fit K Z Xo js' H' σ' env J → D.nx σ' H'
  | .bk env J => ∀ σ' H' js', Stp n0 js js' H H' → Fit K Z Xo js' H' σ' env J → D.bk σ' H'
  | .ct env J => ∀ σ' H' js', Stp n0 js js' H H' → Fit K Z Xo js' H' σ' env J → D.ct σ' H'
  | .rt h J => ∀ v H' js', Stp n0 js js' H H' → OutN K Z Xo js' H H' [] [] J h v → D.rt v H'
  | .err c fs env J => ∀ cls od σ' H' js', ExcAt K Xo js' c fs cls od H' → Stp n0 js js' H H' → Fit K Z Xo js' H' σ' env J → W cls od σ' H'
  | .stuck => False
def tS (K : PySem.W.Frag) (Z : List Zx) (W : WX) (n0 : Nat) (g : SF) : TS := fun D σ H => ∃ Xo js env J, Fit K Z Xo js H σ env J ∧ PostS K Z W n0 Xo js H D (g n0 env J)
/-- an expression's outcome within a statement -/
def onS {α : Type} (env : En) (r : R α) (k : α → Jr → RS) : RS := match r with
  | .ok a J => k a J
  | .err c fs J => .err c fs env J
  | .stuck => .stuck
def sSeq (a b : SF) : SF := fun n env J => match a n env J with
  | .nx e1 J1 => b n e1 J1
  | r => r
def sNext : SF := fun _ env J => .nx env J
def sBreak : SF := fun _ env J => .bk env J
def sCont : SF := fun _ env J => .ct env J
def sExpr (f : EF) : SF := fun _ env J => onS env (f env J) fun _ J1 => .nx env J1
def sRet (f : EF) : SF := fun _ env J => onS env (f env J) fun h J1 => .rt h J1
def sRetN : SF := fun _ env J => .rt (.val .non) J
def sSet (i : Nat) (f : EF) : SF := fun _ env J => onS env (f env J) fun h J1 => .nx (env.set i (some (norm h))) J1
/-- name = a fresh list that will be changed -/
def sNew (i : Nat) (f : EF) : SF := fun n env J => onS env (f env J) fun h J1 => match h with
  | .new ds => if n ≤ J1.length then .nx (env.set i (some (.jar J1.length))) (J1 ++ [ds]) else .stuck
  | _ => .stuck
def sAsg (t : TF) (f : EF) : SF := fun _ env J => onS env (f env J) fun h J1 => match toVal h with
  | some d => (match t d env with | some e1 => .nx e1 J1 | none => .stuck)
  | none => .stuck
def sIf (c : BF) (a b : SF) : SF := fun n env J => onS env (c env J) fun k J1 => if k = true then a n env J1 else b n env J1
def loopD (t : TF) (body : SF) (n0 : Nat) : List D → En → Jr → RS
  | [], env, J => .nx env J
  | d :: ds, env, J => match t d env with
    | none => .stuck
    | some e1 => match body n0 e1 J with
      | .nx e2 J2 => loopD t body n0 ds e2 J2
      | .ct e2 J2 => loopD t body n0 ds e2 J2
      | .bk e2 J2 => .nx e2 J2
      | r => r
def sFor (it : IF) (t : TF) (body : SF) : SF := fun n env J => onS env (it env J) fun ds J1 => loopD t body n ds env J1
/-- x.append(e), x a cell -/
def sAppend (i : Nat) (f : EF) : SF := fun _ env J => onS env (f env J) fun h J1 => match env[i]?, toVal h with
  | some (some (.jar k)), some d => (match J1[k]? with
    | some ds => if ds.length < big then .nx env (J1.set k (ds ++ [d])) else .stuck
    | none => .stuck)
  | _, _ => .stuck
/-- x[j] = e, x a cell -/
def sSetIx (i : Nat) (ix f : EF) : SF := fun _ env J => onS env (f env J) fun h J1 => onS env (ix env J1) fun hj J2 => match env[i]?, toVal h, hj with
  | some (some (.jar k)), some d, .val (.int j) => (match J2[k]? with
    | some ds => (match ixN ds.length j with | some m => .nx env (J2.set k (ds.set m d)) | none => .stuck)
    | none => .stuck)
  | _, _, _ => .stuck
section
variable {K : PySem.W.Frag} {W : WX} {Xo : Addr → Prop} {js js' : List Addr} {H H1 H' : Hp} {σ : L2.St} {env : En} {J : Jr} {n0 : Nat} {Dn : Ends} {Z : List Zx}
theorem PostS.later {r : RS} (s : Stp n0 js js' H H1) (p : PostS K Z W n0 Xo js H Dn r) : PostS K Z W n0 Xo js' H1 Dn r := by
  cases r with
  | nx env J => exact fun σ' H' js2 s2 F => p σ' H' js2 (s.trans s2) F
  | bk env J => exact fun σ' H' js2 s2 F => p σ' H' js2 (s.trans s2) F
  | ct env J => exact fun σ' H' js2 s2 F => p σ' H' js2 (s.trans s2) F
  | rt h J =>
    intro v H' js2 s2 o
    refine p v H' js2 (s.trans s2) ?_
    cases h with
    | val d => exact o
    | jar k => exact o
    | exc k => exact o
    | new ds =>
      obtain ⟨q, us, a1, a2, a3⟩ := o
      exact ⟨q, us, a1, s.back q a2, a3⟩
  | err c fs env J => exact fun cls od σ' H' js2 x s2 F => p cls od σ' H' js2 x (s.trans s2) F
  | stuck => exact p
theorem flies_S {c : Str} {fs : List (Str × D)} (p : PostS K Z W n0 Xo js H Dn (.err c fs env J)) : Flies K Z W Xo js H σ env c fs J :=
  fun cls od H' x e F => p cls od σ H' js x (.of_ext F e) F
end
section
variable {X : Cx} {W : WX} {n0 : Nat} {st : Stmt} {rest : List Stmt} {a b : SF} {f : EF} {c : BF} {e tg iter : Expr} {pos : Pos} {ta tb : List Stmt} {Z : List Zx}
theorem ss_nil : PSs X [] (tS X.K Z W n0 sNext) := pss_mono pss_nil fun D σ H ⟨Xo, js, env, J, F, p⟩ => p σ H js .refl F
theorem ss_one (h : PS X st (tS X.K Z W n0 a)) : PSs X [st] (tS X.K Z W n0 a) := pss_one h
theorem ss_cons (h1 : PS X st (tS X.K Z W n0 a)) (h2 : PSs X rest (tS X.K Z W n0 b)) : PSs X (st :: rest) (tS X.K Z W n0 (sSeq a b)) := pss_mono (pss_cons h1 h2) fun D σ H ⟨Xo, js, env, J, F, p⟩ => by
  refine ⟨Xo, js, env, J, F, ?_⟩
  unfold sSeq at p
  cases r : a n0 env J with
  | nx e1 J1 =>
    rw [r] at p
    exact fun σ' H' js' s F' => ⟨Xo, js', e1, J1, F', p.later s⟩
  | bk e1 J1 => rw [r] at p; exact p
  | ct e1 J1 => rw [r] at p; exact p
  | rt h J1 => rw [r] at p; exact p
  | err c fs e1 J1 => rw [r] at p; exact p
  | stuck => rw [r] at p; exact p
theorem s_pass : PS X (.Pass pos) (tS X.K Z W n0 sNext) := ps_mono ps_pass fun D σ H ⟨Xo, js, env, J, F, p⟩ => p σ H js .refl F
theorem s_break : PS X (.Break pos) (tS X.K Z W n0 sBreak) := ps_mono ps_break fun D σ H ⟨Xo, js, env, J, F, p⟩ => p σ H js .refl F
theorem s_cont : PS X (.Continue pos) (tS X.K Z W n0 sCont) := ps_mono ps_continue fun D σ H ⟨Xo, js, env, J, F, p⟩ => p σ H js .refl F
theorem s_expr (he : PE X e (tD X.K Z W f)) (hs : swapsWith e none pos.line X.env = pure false) : PS X (.Expr e pos) (tS X.K Z W n0 (sExpr f)) := ps_mono (ps_expr he hs) fun D σ H ⟨Xo, js, env, J, F, p⟩ => by
  refine ⟨Xo, js, env, J, F, ?_⟩
  unfold sExpr at p
  cases r : f env J with
  | stuck => rw [r] at p; exact p.elim
  | err c fs J1 => rw [r] at p; exact flies_S p
  | ok h J1 => rw [r] at p; exact fun v H' e1 G _ => p σ H' js (.of_ext G e1) G
theorem s_ret (he : PE X e (tN X.K Z W f)) : PS X (.Return (some e) pos) (tS X.K Z W n0 (sRet f)) := ps_mono (ps_ret he) fun D σ H ⟨Xo, js, env, J, F, p⟩ => by
  refine ⟨Xo, js, env, J, F, ?_⟩
  unfold sRet at p
  cases r : f env J with
  | stuck => rw [r] at p; exact p.elim
  | err c fs J1 => rw [r] at p; exact flies_S p
  | ok h J1 =>
    rw [r] at p
    intro v H' e1 o
    obtain ⟨G, _⟩ := outN_norm F.out o
    refine p v H' js (.of_ext G e1) ?_
    cases h with
    | val d => exact ⟨G.bare, o.2⟩
    | jar k => exact ⟨G.bare, o.2⟩
    | exc k => exact ⟨G.bare, o.2⟩
    | new ds =>
      obtain ⟨q, us, a1, a2, a3, a4, a5⟩ := o
      exact ⟨q, us, a1, a2, a3, a4.bare, a5⟩
theorem s_retN : PS X (.Return none pos) (tS X.K Z W n0 sRetN) := ps_mono ps_retN fun D σ H ⟨Xo, js, env, J, F, p⟩ => p .non H js .refl (out_val F.bare (mk_non (K := X.K) (H := H) (Y := Yf Xo js)))
theorem s_set {i : Nat} {x : Str} {pos' : Pos} (hN : X.N.Nodup) (hi : X.N[i]? = some x) (hx : Loc X.env.scope x) (he : PE X e (tD X.K Z W f)) (hs : swapsWith e (some (.Name x pos')) pos.line X.env = pure false) (hf : X.fn x = true ∨ X.env.scope.names.lookup x = some .local) :
    PS X (.Assign [.Name x pos'] e pos) (tS X.K Z W n0 (sSet i f)) := ps_mono (ps_set hN hi hx he hs hf) fun D σ H ⟨Xo, js, env, J, F, p⟩ => by
  refine ⟨Xo, js, env, J, F, ?_⟩
  unfold sSet at p
  cases r : f env J with
  | stuck => rw [r] at p; exact p.elim
  | err c fs J1 => rw [r] at p; exact flies_S p
  | ok h J1 => rw [r] at p; exact fun v H' e1 G x => p _ H' js (.of_ext G e1) (G.set i x)
theorem new_read {i : Nat} {D : Ends} {σ : L2.St} {H : Hp} (w : tS X.K Z W n0 (sNew i f) D σ H) : tAsg (tN X.K Z W f) (gName i) D σ H := by
  obtain ⟨Xo, js, env, J, F, p⟩ := w
  refine ⟨Xo, js, env, J, F, ?_⟩
  unfold sNew at p
  cases r : f env J with
  | stuck => rw [r] at p; exact p.elim
  | err c fs J1 => rw [r] at p; exact flies_S p
  | ok h J1 =>
    rw [r] at p
    intro v H' e1 o
    cases h with
    | val d => exact p.elim
    | jar k => exact p.elim
    | exc k => exact p.elim
    | new ds =>
      obtain ⟨q, us, a1, a2, a3, a4, a5⟩ := o
      have p : PostS X.K Z W n0 Xo js H D (if n0 ≤ J1.length then .nx (env.set i (some (.jar J1.length))) (J1 ++ [ds]) else .stuck) := p
      by_cases hn0 : n0 ≤ J1.length
      case neg => rw [if_neg hn0] at p; exact p.elim
      rw [if_pos hn0] at p
      have nq : q ∉ js := fun z => a4.jx q z (.inr rfl)
      have yy : ∀ a, Yf Xo (js ++ [q]) a → Yf (With Xo q) js a := fun a y => by
        rcases y with y | y
        · exact .inl (.inl y)
        · rcases List.mem_append.mp y with y | y
          · exact .inr y
          · exact .inl (.inr (by simpa using y))
      have hout : Lists H' Xo := fun a y => a4.out a (.inl y)
      have nX : ¬ Xo q := fun y => by
        obtain ⟨xs, z⟩ := F.out q y
        rw [a2] at z; cases z
      have G : Fit X.K Z Xo (js ++ [q]) H' σ env (J1 ++ [ds]) := by
        refine ⟨hout, ?_, fun a ha => ?_, by rw [List.length_append, List.length_append, a4.len]; rfl, a4.slen, fun k a ds' h1 h2 => ?_, fun k h' e => ?_, fun z hz => (a4.ez z hz).move (fun _ _ e _ => e) (fun a y => .inl (yy a y)) a4.lists⟩
        · rw [List.nodup_append]
          exact ⟨a4.nd, by simp, fun a ha b hb => by
            have : b = q := by simpa using hb
            rw [this]; exact fun z => nq (z ▸ ha)⟩
        · rcases List.mem_append.mp ha with ha | ha
          · exact fun z => a4.jx a ha (.inl z)
          · have : a = q := by simpa using ha
            rw [this]; exact nX
        · by_cases hk : k < js.length
          · rw [List.getElem?_append_left hk] at h1
            rw [List.getElem?_append_left (by rw [← a4.len]; exact hk)] at h2
            obtain ⟨us', u1, u2⟩ := a4.jar k a ds' h1 h2
            exact ⟨us', u1, reps_move (fun _ _ e _ => e) (fun a y => .inl (yy a y)) a4.lists _ _ u2⟩
          · rw [List.getElem?_append_right (by omega)] at h1
            rw [List.getElem?_append_right (by rw [← a4.len]; omega), ← a4.len] at h2
            have hk0 : k - js.length = 0 := by
              cases hh : k - js.length with
              | zero => rfl
              | succ m => rw [hh] at h1; simp at h1
            rw [hk0] at h1 h2
            have e1 : q = a := by simpa using h1
            have e2 : ds = ds' := by simpa using h2
            subst e1; subst e2
            exact ⟨us, a3, reps_move (fun _ _ e _ => e) (fun a y => .inl (yy a y)) a4.lists _ _ a5⟩
        · obtain ⟨u, u1, u2⟩ := a4.slot k h' e
          refine ⟨u, u1, ?_⟩
          have u3 := u2.move (fun _ _ e _ => e) (Y' := Yf Xo (js ++ [q])) (fun a y => .inl (yy a y)) a4.lists
          cases h' with
          | val d => exact u3
          | new ds => exact u3
          | exc m => exact u3
          | jar m =>
            obtain ⟨a, ea, ev⟩ := u3
            exact ⟨a, by rw [List.getElem?_append_left ((List.getElem?_eq_some_iff.mp ea).1)]; exact ea, ev⟩
      refine p _ H' (js ++ [q]) ⟨e1, fun a ha => ?_, ?_, fun a h => none_back e1 a4.unlock.lists h⟩ (G.set i (h := .jar J1.length) ?_)
      · rcases List.mem_append.mp ha with ha | ha
        · exact .inl ha
        · have : a = q := by simpa using ha
          rw [this]; exact .inr a2
      · rw [List.take_append_of_le_length (by rw [a4.len]; exact hn0)]
      · exact ⟨q, by rw [← a4.len]; simp, a1⟩
end
end L2.Pz
set_option Elab.async false
set_option linter.all false
set_option maxRecDepth 100000
set_option maxHeartbeats 4000000
set_option autoImplicit false
namespace L2.Pz
open PySem PySem.Spec PyProof.Rows

section
variable {K : PySem.W.Frag} {W : WX} {Xo : Addr → Prop} {js js' : List Addr} {H H1 H' : Hp} {σ : L2.St} {env : En} {J : Jr} {n0 : Nat} {Z : List Zx}
/-- a cell is written -/
theorem Fit.write (F : Fit K Z Xo js H σ env J) {k : Nat} {a : Addr} {ds : List D} {vs : List V} (e : js[k]? = some a) (r : Reps K H (Yf Xo js) ds vs) :
    Fit K Z Xo js (upd H a (.lst vs)) σ env (J.set k ds) ∧ Ext js H (upd H a (.lst vs)) := by
  have ha : a ∈ js := List.mem_of_getElem? e
  have up : ∀ b o, H b = some o → ¬ Yf Xo js b → upd H a (.lst vs) b = some o := fun b o q n => by
    rw [upd_ne (b := b) (a := a) fun z => n (.inr (by rw [z]; exact ha))]; exact q
  have hk : k < js.length := (List.getElem?_eq_some_iff.mp e).1
  have ls : ∀ b, (∃ xs, H b = some (.lst xs)) → ∃ xs, upd H a (.lst vs) b = some (.lst xs) := fun b ⟨xs, q⟩ => by
    by_cases hb : b = a
    · exact ⟨_, by rw [hb]; exact upd_same⟩
    · exact ⟨xs, by rw [upd_ne hb]; exact q⟩
  refine ⟨⟨fun b z => ls b (F.out b z), F.nd, F.jx, by rw [List.length_set]; exact F.len, F.slen, fun m b ds' q1 q2 => ?_, fun i h q => ?_, fun z hz => (F.ez z hz).move up (fun _ y => .inl y) F.lists⟩, fun b o q n => ?_⟩
  · by_cases hm : k = m
    · subst hm
      rw [e] at q1
      cases q1
      rw [List.getElem?_set_self (by rw [← F.len]; exact hk)] at q2
      cases q2
      exact ⟨vs, upd_same, reps_move up (fun _ y => .inl y) F.lists _ _ r⟩
    · rw [List.getElem?_set_ne hm] at q2
      obtain ⟨us, u1, u2⟩ := F.jar m b ds' q1 q2
      have hb : b ≠ a := fun z => by
        subst z
        obtain ⟨h1, e1⟩ := List.getElem?_eq_some_iff.mp e
        obtain ⟨h2, e2⟩ := List.getElem?_eq_some_iff.mp q1
        exact hm ((List.getElem_inj F.nd).mp (e1.trans e2.symm))
      exact ⟨us, by rw [upd_ne hb]; exact u1, reps_move up (fun _ y => .inl y) F.lists _ _ u2⟩
  · obtain ⟨u, u1, u2⟩ := F.slot i h q
    exact ⟨u, u1, u2.move up (fun _ y => .inl y) F.lists⟩
  · rw [upd_ne (b := b) (a := a) fun z => n (by rw [z]; exact ha)]; exact q
/-- the cells behind the n-th are let go -/
theorem Fit.trim (F : Fit K Z Xo js H [] [] J) (n : Nat) : Fit K Z Xo (js.take n) H [] [] (J.take n) := by
  have yy : ∀ a, Yf Xo (js.take n) a → Yf Xo js a := fun a y => y.elim .inl fun y => .inr (List.mem_of_mem_take y)
  refine ⟨F.out, F.nd.sublist (List.take_sublist _ _), fun a ha => F.jx a (List.mem_of_mem_take ha), by rw [List.length_take, List.length_take, F.len], rfl, fun k a ds h1 h2 => ?_, fun i h e => (by simp at e), fun z hz => (F.ez z hz).move (fun _ _ e _ => e) (fun a y => .inl (yy a y)) F.lists⟩
  have hk : k < n := by
    have := (List.getElem?_eq_some_iff.mp h1).1
    rw [List.length_take] at this
    omega
  rw [List.getElem?_take_of_lt hk] at h1 h2
  obtain ⟨vs, u1, u2⟩ := F.jar k a ds h1 h2
  exact ⟨vs, u1, reps_move (fun _ _ e _ => e) (fun a y => .inl (yy a y)) F.lists _ _ u2⟩
end
section
variable {X : Cx} {W : WX} {n0 : Nat} {st : Stmt} {a b : SF} {f ix : EF} {c : BF} {e tg iter : Expr} {pos : Pos} {ta tb : List Stmt} {g : TG} {t : TF} {it : IF} {Z : List Zx}
theorem s_new {i : Nat} {x : Str} {pos' : Pos} (hN : X.N.Nodup) (hi : X.N[i]? = some x) (hx : Loc X.env.scope x) (he : PE X e (tN X.K Z W f)) (hs : swapsWith e (some (.Name x pos')) pos.line X.env = pure false) (hf : X.fn x = true ∨ X.env.scope.names.lookup x = some .local) :
    PS X (.Assign [.Name x pos'] e pos) (tS X.K Z W n0 (sNew i f)) := ps_mono (ps_set hN hi hx he hs hf) fun D σ H w => new_read w
theorem set_read {i : Nat} {D : Ends} {σ : L2.St} {H : Hp} (w : tS X.K Z W n0 (sSet i f) D σ H) : tAsg (tN X.K Z W f) (gName i) D σ H := by
  obtain ⟨Xo, js, env, J, F, p⟩ := w
  refine ⟨Xo, js, env, J, F, ?_⟩
  unfold sSet at p
  cases r : f env J with
  | stuck => rw [r] at p; exact p.elim
  | err c fs J1 => rw [r] at p; exact flies_S p
  | ok h J1 =>
    rw [r] at p
    intro v H' e1 o
    obtain ⟨G, x⟩ := outN_norm F.out o
    exact p _ H' js (.of_ext G e1) (G.set i x)
/-- name = [..] -/
theorem s_setLc {i : Nat} {elt : Expr} {ifs : List Expr} {scope : Scope} {own : List (Str × Nat)} {py spos : Pos} {y : Str} (htg : TgOk X.K Z g t) (hin : TgIn g (own.map (·.2)))
    (h : PS X (.Assign [.Name y py] (.ListComp elt [⟨tg, iter, ifs, 0⟩] scope pos) spos) (tAsg (tLc (tW X.K Z W it) g (tT X.K Z W0 c) (tD X.K Z W0 f) (own.map (·.2))) (gName i))) :
    PS X (.Assign [.Name y py] (.ListComp elt [⟨tg, iter, ifs, 0⟩] scope pos) spos) (tS X.K Z W n0 (sSet i (eLc it t c f (own.map (·.2))))) := ps_mono h fun D σ H w => lc_read htg hin (set_read w)
theorem s_newLc {i : Nat} {elt : Expr} {ifs : List Expr} {scope : Scope} {own : List (Str × Nat)} {py spos : Pos} {y : Str} (htg : TgOk X.K Z g t) (hin : TgIn g (own.map (·.2)))
    (h : PS X (.Assign [.Name y py] (.ListComp elt [⟨tg, iter, ifs, 0⟩] scope pos) spos) (tAsg (tLc (tW X.K Z W it) g (tT X.K Z W0 c) (tD X.K Z W0 f) (own.map (·.2))) (gName i))) :
    PS X (.Assign [.Name y py] (.ListComp elt [⟨tg, iter, ifs, 0⟩] scope pos) spos) (tS X.K Z W n0 (sNew i (eLc it t c f (own.map (·.2))))) := ps_mono h fun D σ H w => lc_read htg hin (new_read w)
/-- a, b = e -/
theorem s_asg (htg : TgOk X.K Z g t) (h : PS X st (tAsg (tD X.K Z W f) g)) : PS X st (tS X.K Z W n0 (sAsg t f)) := ps_mono h fun D σ H ⟨Xo, js, env, J, F, p⟩ => by
  refine ⟨Xo, js, env, J, F, ?_⟩
  unfold sAsg at p
  cases r : f env J with
  | stuck => rw [r] at p; exact p.elim
  | err c fs J1 => rw [r] at p; exact flies_S p
  | ok h J1 =>
    rw [r] at p
    intro v H' e1 G x
    have p : PostS X.K Z W n0 Xo js H D (match toVal h with
      | some d => (match t d env with | some e1 => .nx e1 J1 | none => .stuck)
      | none => .stuck) := p
    cases hv : toVal h with
    | none => rw [hv] at p; exact p.elim
    | some d =>
      rw [hv] at p
      have p : PostS X.K Z W n0 Xo js H D (match t d env with | some e1 => .nx e1 J1 | none => .stuck) := p
      cases ht : t d env with
      | none => rw [ht] at p; exact p.elim
      | some e2 =>
        rw [ht] at p
        exact htg _ _ _ _ _ _ _ _ _ _ G (val_rep x hv) ht fun σ' F' => p σ' H' js (.of_ext F' e1) F'
theorem s_if (hc : PT X e (tT X.K Z W c)) (ha : PSs X ta (tS X.K Z W n0 a)) (hb : PSs X tb (tS X.K Z W n0 b)) : PS X (.If e ta tb pos) (tS X.K Z W n0 (sIf c a b)) := ps_mono (ps_if hc ha hb) fun D σ H ⟨Xo, js, env, J, F, p⟩ => by
  refine ⟨Xo, js, env, J, F, ?_⟩
  unfold sIf at p
  cases r : c env J with
  | stuck => rw [r] at p; exact p.elim
  | err c fs J1 => rw [r] at p; exact flies_S p
  | ok k J1 =>
    rw [r] at p
    intro H' e1 G
    have p : PostS X.K Z W n0 Xo js H D (if k = true then a n0 env J1 else b n0 env J1) := p
    cases k with
    | true => exact iteT ⟨Xo, js, env, J1, G, PostS.later (.of_ext G e1) p⟩
    | false => exact iteF ⟨Xo, js, env, J1, G, PostS.later (.of_ext G e1) p⟩
theorem s_for (hp : PassesOwn (model X.prog X.w) X.A X.env X.xe) (hc : X.calm = true) (hi : PI X tg iter (tW X.K Z W it)) (hg : PG X tg g) (htg : TgOk X.K Z g t) (hb : PSs X ta (tS X.K Z W n0 a)) (hs : ∀ x, foldedSetIterable iter X.env x = pure x) :
    PS X (.For tg iter ta [] pos) (tS X.K Z W n0 (sFor it t a)) := ps_mono (ps_for hp hc hi hg hb hs) fun D σ H ⟨Xo, js, env, J, F, p⟩ => by
  refine ⟨Xo, js, env, J, F, ?_⟩
  unfold sFor at p
  cases r : it env J with
  | stuck => rw [r] at p; exact p.elim
  | err c fs J1 => rw [r] at p; exact flies_S p
  | ok ds J1 =>
    rw [r] at p
    have p : PostS X.K Z W n0 Xo js H D (loopD t a n0 ds env J1) := p
    intro I H1 e1 F1 wd
    obtain ⟨G, Yl, wk, hG, hY⟩ := wd.ex
    have kp : ∀ {js3 : List Addr} {H3 : Hp}, Stp n0 js js3 H1 H3 → Keeps (Yf Xo js) H1 H3 := fun {js3 H3} s a o q n => s.ext a o q fun z => n (.inr z)
    refine for_it wk (fun i σ3 H3 => ∃ js3 env3 J3, Fit X.K Z Xo js3 H3 σ3 env3 J3 ∧ Stp n0 js js3 H1 H3 ∧ PostS X.K Z W n0 Xo js3 H3 D (loopD t a n0 (ds.drop i) env3 J3)) ?_ ?_ ?_ ?_
    · exact ⟨js, env, J1, F1, .refl, PostS.later (.of_ext F1 e1) p⟩
    · rintro i σ3 H3 hi ⟨js3, env3, J3, F3, s3, p3⟩
      exact hG H3 (kp s3)
    · rintro i x σ3 H3 H4 hi ⟨js3, env3, J3, F3, s3, p3⟩ y
      obtain ⟨sm, d, hd, rd⟩ := hY (Yf Xo js3) (fun a z => z.elim (fun z => .inl (.inl z)) fun z => (s3.new a z).elim (fun z => .inl (.inr z)) .inr) i H3 x H4 hi (kp s3) F3.lists y
      have hdrop : ds.drop i = d :: ds.drop (i + 1) := by
        obtain ⟨hl, he⟩ := List.getElem?_eq_some_iff.mp hd
        rw [← he]
        exact List.drop_eq_getElem_cons hl
      rw [hdrop] at p3
      unfold loopD at p3
      have F4 : Fit X.K Z Xo js3 H4 σ3 env3 J3 := F3.same sm
      have s4 : Stp n0 js3 js3 H3 H4 := .of_ext F4 (.of sm)
      cases ht : t d env3 with
      | none => rw [ht] at p3; exact p3.elim
      | some env4 =>
        rw [ht] at p3
        refine htg _ _ _ _ _ _ _ _ _ _ F4 rd ht fun σ5 F5 => ?_
        refine ⟨Xo, js3, env4, J3, F5, ?_⟩
        have p3 : PostS X.K Z W n0 Xo js3 H3 D (match a n0 env4 J3 with
          | .nx e2 J2 => loopD t a n0 (ds.drop (i + 1)) e2 J2
          | .ct e2 J2 => loopD t a n0 (ds.drop (i + 1)) e2 J2
          | .bk e2 J2 => .nx e2 J2
          | r => r) := p3
        cases hr : a n0 env4 J3 with
        | nx e2 J2 =>
          rw [hr] at p3
          exact fun σ' H' js' s F' => ⟨js', e2, J2, F', (s3.trans s4).trans s, PostS.later (s4.trans s) p3⟩
        | ct e2 J2 =>
          rw [hr] at p3
          exact fun σ' H' js' s F' => ⟨js', e2, J2, F', (s3.trans s4).trans s, PostS.later (s4.trans s) p3⟩
        | bk e2 J2 =>
          rw [hr] at p3
          exact fun σ' H' js' s F' => p3 σ' H' js' (s4.trans s) F'
        | rt h J2 => rw [hr] at p3; exact PostS.later (r := .rt h J2) s4 p3
        | err c fs e2 J2 => rw [hr] at p3; exact PostS.later (r := .err c fs e2 J2) s4 p3
        | stuck => rw [hr] at p3; exact p3.elim
    · rintro σ3 H3 ⟨js3, env3, J3, F3, s3, p3⟩
      rw [List.drop_length] at p3
      exact p3 σ3 H3 js3 .refl F3
end

/-! ### cells: append, x[i] = e -/
def appEnd (env : En) (J : Jr) (k : Nat) : Option D → RS
  | some d => (match J[k]? with
    | some ds => if ds.length < big then .nx env (J.set k (ds ++ [d])) else .stuck
    | none => .stuck)
  | none => .stuck
def sApp (i : Nat) (f : EF) : SF := fun _ env J => match env[i]? with
  | some (some (.jar k)) => onS env (f env J) fun h J1 => appEnd env J1 k (toVal h)
  | _ => .stuck
def setEnd (env : En) (J : Jr) (k : Nat) : Option D → HV → RS
  | some d, .val (.int j) => (match J[k]? with
    | some ds => (match ixN ds.length j with | some m => .nx env (J.set k (ds.set m d)) | none => .stuck)
    | none => .stuck)
  | _, _ => .stuck
def sSetI (i : Nat) (ix f : EF) : SF := fun _ env J => match env[i]? with
  | some (some (.jar k)) => onS env (f env J) fun h J1 => onS env (ix env J1) fun hj J2 => setEnd env J2 k (toVal h) hj
  | _ => .stuck
section
variable {X : Cx} {W : WX} {n0 : Nat} {st : Stmt} {f ix : EF} {i : Nat} {Z : List Zx}
theorem s_app (h : PS X st (tDrop (tBM X.K "list" rAppend (tVar i) (tCons (tD X.K Z W f) tNil)))) : PS X st (tS X.K Z W n0 (sApp i f)) := ps_mono h fun D σ H ⟨Xo, js, env, J, F, p⟩ => by
  unfold sApp at p
  cases hs : env[i]? with
  | none => rw [hs] at p; exact p.elim
  | some o =>
    cases o with
    | none => rw [hs] at p; exact p.elim
    | some z =>
      cases z with
      | val d => rw [hs] at p; exact p.elim
      | new d => rw [hs] at p; exact p.elim
      | exc k => rw [hs] at p; exact p.elim
      | jar k =>
        rw [hs] at p
        obtain ⟨v, hv, a, ha, rfl⟩ := F.slot i _ hs
        obtain ⟨ds0, vs0, _, hl0, _⟩ := F.at ha
        refine ⟨_, hv, .inl ⟨rfl, _, SqL.of hl0⟩, ?_⟩
        show tD X.K Z W f σ H fun x H1 => _
        refine ⟨Xo, js, env, J, F, ?_⟩
        have p : PostS X.K Z W n0 Xo js H D (onS env (f env J) fun h J1 => appEnd env J1 k (toVal h)) := p
        cases r : f env J with
        | stuck => rw [r] at p; exact p.elim
        | err c fs J1 => rw [r] at p; exact flies_S p
        | ok h J1 =>
          rw [r] at p
          intro x H1 e1 F1 x1
          have p : PostS X.K Z W n0 Xo js H D (appEnd env J1 k (toVal h)) := p
          cases hd : toVal h with
          | none => rw [hd] at p; exact p.elim
          | some d =>
            rw [hd] at p
            obtain ⟨ds, vs, hJ, hl, rs⟩ := F1.at ha
            have p : PostS X.K Z W n0 Xo js H D (match J1[k]? with
              | some ds => if ds.length < big then .nx env (J1.set k (ds ++ [d])) else .stuck
              | none => .stuck) := p
            rw [hJ] at p
            have p : PostS X.K Z W n0 Xo js H D (if ds.length < big then .nx env (J1.set k (ds ++ [d])) else .stuck) := p
            by_cases hb : ds.length < big
            · rw [if_pos hb] at p
              have r2 := reps_append rs (reps_cons.mpr ⟨x, [], rfl, val_rep x1 hd, reps_nil.mpr rfl⟩)
              obtain ⟨F2, e2⟩ := F1.write ha r2
              exact ⟨a, vs, x, rfl, rfl, hl, by rw [big_eq, reps_len rs]; exact hb, p _ _ js (.of_ext F2 (e1.trans e2)) F2⟩
            · rw [if_neg hb] at p; exact p.elim
theorem s_setI (h : PS X st (tAsg (tD X.K Z W f) (gSub (tVar i) (tD X.K Z W ix) rSetL))) : PS X st (tS X.K Z W n0 (sSetI i ix f)) := ps_mono h fun D σ H ⟨Xo, js, env, J, F, p⟩ => by
  unfold sSetI at p
  cases hs : env[i]? with
  | none => rw [hs] at p; exact p.elim
  | some o =>
    cases o with
    | none => rw [hs] at p; exact p.elim
    | some z =>
      cases z with
      | val d => rw [hs] at p; exact p.elim
      | new d => rw [hs] at p; exact p.elim
      | exc k => rw [hs] at p; exact p.elim
      | jar k =>
        rw [hs] at p
        obtain ⟨v, hv, a, ha, rfl⟩ := F.slot i _ hs
        refine ⟨Xo, js, env, J, F, ?_⟩
        have p : PostS X.K Z W n0 Xo js H D (onS env (f env J) fun h J1 => onS env (ix env J1) fun hj J2 => setEnd env J2 k (toVal h) hj) := p
        cases r : f env J with
        | stuck => rw [r] at p; exact p.elim
        | err c fs J1 => rw [r] at p; exact flies_S p
        | ok h J1 =>
          rw [r] at p
          intro x H1 e1 F1 x1
          refine ⟨_, hv, ?_⟩
          refine ⟨Xo, js, env, J1, F1, ?_⟩
          have p : PostS X.K Z W n0 Xo js H D (onS env (ix env J1) fun hj J2 => setEnd env J2 k (toVal h) hj) := p
          cases r2 : ix env J1 with
          | stuck => rw [r2] at p; exact p.elim
          | err c fs J2 => rw [r2] at p; exact (flies_S (σ := σ) p).later e1
          | ok hj J2 =>
            rw [r2] at p
            intro y H2 e2 F2 y2
            have p : PostS X.K Z W n0 Xo js H D (setEnd env J2 k (toVal h) hj) := p
            cases hd : toVal h with
            | none => rw [hd] at p; exact p.elim
            | some d =>
              rw [hd] at p
              cases hj with
              | jar _ => exact p.elim
              | exc _ => exact p.elim
              | new _ => exact p.elim
              | val dj =>
                cases dj with
                | int j =>
                  obtain ⟨ds, vs, hJ, hl, rs⟩ := F2.at ha
                  have p : PostS X.K Z W n0 Xo js H D (match J2[k]? with
                    | some ds => (match ixN ds.length j with | some m => .nx env (J2.set k (ds.set m d)) | none => .stuck)
                    | none => .stuck) := p
                  rw [hJ] at p
                  have p : PostS X.K Z W n0 Xo js H D (match ixN ds.length j with | some m => .nx env (J2.set k (ds.set m d)) | none => .stuck) := p
                  cases hm : ixN ds.length j with
                  | none => rw [hm] at p; exact p.elim
                  | some m =>
                    rw [hm] at p
                    have rx := (val_rep x1 hd).ext F1 e2
                    obtain ⟨F3, e3⟩ := F2.write ha (reps_set (i := m) rs rx)
                    exact ⟨a, vs, j, m, rfl, rep_int (K := X.K) (H := H2) (Y := Yf Xo js) y2, hl, by rw [reps_len rs]; exact hm, p _ _ js (.of_ext F3 ((e1.trans e2).trans e3)) F3⟩
                | _ => exact p.elim
end

/-! ### defs -/
def startE (m : Nat) (hs : List HV) : En := hs.map some ++ List.replicate (m - hs.length) none
def outH (n : Nat) (J : Jr) : HV → R HV
  | .jar k => if k < n then .ok (.jar k) (J.take n) else match J[k]? with
    | some ds => .ok (.new ds) (J.take n)
    | none => .stuck
  | h => .ok h (J.take n)
def endR (n : Nat) : RS → R HV
  | .rt h J => if n ≤ J.length then outH n J h else .stuck
  | .nx _ J => if n ≤ J.length then .ok (.val .non) (J.take n) else .stuck
  | .err c fs _ J => if n ≤ J.length then .err c fs (J.take n) else .stuck
  | _ => .stuck
def mkF (m : Nat) (g : SF) : FT := fun hs J => endR J.length (g J.length (startE m hs) J)
section
variable {P : Program} {w : World} {K : PySem.W.Frag} {mg : Str → Option Value} {base : Heap} {Xo : Addr → Prop} {js js' : List Addr} {H H' : Hp} {J J' : Jr} {env : En} {Z : List Zx}
theorem fit_start (F : Fit K Z Xo js H [] [] J) {N : List Str} : ∀ {hs : List HV} {vs : List V}, HReps K Z H (Yf Xo js) js hs vs → Fit K Z Xo js H (start N vs) (startE N.length hs) J := fun {hs vs} r => by
  refine ⟨F.out, F.nd, F.jx, F.len, ?_, F.jar, fun i h e => ?_, F.ez⟩
  · unfold start startE
    rw [List.length_append, List.length_append, List.length_map, List.length_map, List.length_replicate, List.length_replicate, hreps_len r]
  · unfold startE at e
    by_cases hi : i < hs.length
    · rw [List.getElem?_append_left (by simpa using hi), List.getElem?_map] at e
      have key : ∀ {hs : List HV} {vs : List V} {i : Nat} {h : HV}, HReps K Z H (Yf Xo js) js hs vs → hs[i]? = some h → ∃ v, vs[i]? = some v ∧ HRep K Z H (Yf Xo js) js h v := by
        intro hs
        induction hs with
        | nil => intro vs i h r e; simp at e
        | cons z zs ih =>
          intro vs i h r e
          obtain ⟨v, us, e1, h1, h2⟩ := r
          subst e1
          cases i with
          | zero => simp at e; subst e; exact ⟨v, rfl, h1⟩
          | succ i =>
            obtain ⟨u, u1, u2⟩ := ih h2 (i := i) (by simpa using e)
            exact ⟨u, by simpa using u1, u2⟩
      cases q : hs[i]? with
      | none => rw [q] at e; cases e
      | some z =>
        rw [q] at e
        cases e
        obtain ⟨v, h1, h2⟩ := key r q
        refine ⟨v, ?_, h2⟩
        unfold start
        rw [List.getElem?_append_left (by rw [List.length_map, hreps_len r]; exact hi), List.getElem?_map, h1]
        rfl
    · rw [List.getElem?_append_right (by simpa using hi), List.getElem?_replicate] at e
      split at e <;> cases e
theorem take_js (F : Fit K Z Xo js H [] [] J) (s : Stp J.length js js' H H') : js'.take J.length = js := by
  rw [s.pre, ← F.len, List.take_length]
/-- a def's promise, by its body -/
theorem fn_ok {x qual : Str} {st : Stmt} {f : Addr} {fd : FuncData} {N ps : List Str} {k : Nat} {g : SF} (F : Fun K x qual st f fd) (S : FnScope N ps (defScope st))
    (hb : ∀ (cdv : Value) (A : Around) (outer : List Env) (s : Shared) (H : Hp) (E : XK) (n0 : Nat), Room k (A.deeper (envOfC qual (defScope st) s.heap.objs.size f cdv)) →
      PSs (cxOf (L2.CX P w) P w K mg base N qual (defScope st) f cdv A outer s H E) (defBody st) (tS K [] (fun cls d _ H => E cls d H) n0 g)) : FnOk P w K mg base (L2.CX P w) (k + 1) f fd ps (spF K ps.length (mkF N.length g)) := by
  refine F.okX S spF_len fun cdv A outer s H vs Q E hr h => ?_
  obtain ⟨Xo, js, J, hs, Fi, hl, hrr, pc⟩ := h
  refine ⟨_, hb cdv A outer s H E J.length hr, Xo, js, startE N.length hs, J, fit_start Fi hrr, ?_⟩
  have pc : PostC K [] Xo js H Q E (endR J.length (g J.length (startE N.length hs) J)) := pc
  cases r : g J.length (startE N.length hs) J with
  | stuck => rw [r] at pc; exact pc
  | bk e1 J1 => rw [r] at pc; exact pc.elim
  | ct e1 J1 => rw [r] at pc; exact pc.elim
  | nx e1 J1 =>
    rw [r] at pc
    intro σ' H' js' s F'
    have pc : PostC K [] Xo js H Q E (if J.length ≤ J1.length then .ok (.val .non) (J1.take J.length) else .stuck) := pc
    by_cases hn : J.length ≤ J1.length
    · rw [if_pos hn] at pc
      have G := F'.bare.trim J.length
      rw [take_js Fi s] at G
      exact pc .non H' s.ext ⟨G, mk_non (K := K) (H := H') (Y := Yf Xo js)⟩
    · rw [if_neg hn] at pc; exact pc.elim
  | err c fs e1 J1 =>
    rw [r] at pc
    intro cls od σ' H' js' x s F'
    have pc : PostC K [] Xo js H Q E (if J.length ≤ J1.length then .err c fs (J1.take J.length) else .stuck) := pc
    by_cases hn : J.length ≤ J1.length
    · rw [if_pos hn] at pc
      have G := F'.bare.trim J.length
      have ej := take_js Fi s
      rw [ej] at G
      obtain ⟨C, c1, c2, d, us, d1, d2, d3, d4⟩ := x
      refine pc cls od H' ⟨C, c1, c2, d, us, d1, d2, d3, ?_⟩ s.ext G
      exact reps_move (fun _ _ e _ => e) (fun a y => .inl (y.elim .inl fun y => .inr (by rw [← ej] at y; exact List.mem_of_mem_take y))) F'.lists _ _ d4
    · rw [if_neg hn] at pc; exact pc.elim
  | rt h J1 =>
    rw [r] at pc
    intro v H' js' s o
    have pc : PostC K [] Xo js H Q E (if J.length ≤ J1.length then outH J.length J1 h else .stuck) := pc
    by_cases hn : J.length ≤ J1.length
    · rw [if_pos hn] at pc
      have ej := take_js Fi s
      have yy : ∀ a, Yf Xo js a → Yf Xo js' a := fun a y => y.elim .inl fun y => .inr (by rw [← ej] at y; exact List.mem_of_mem_take y)
      cases h with
      | val d =>
        have G := o.1.trim J.length
        rw [ej] at G
        exact pc v H' s.ext ⟨G, rep_move (fun _ _ e _ => e) (fun a y => .inl (yy a y)) o.1.lists _ _ o.2⟩
      | new ds =>
        obtain ⟨q, us, a1, a2, a3, a4, a5⟩ := o
        have G := a4.trim J.length
        rw [ej] at G
        refine pc v H' s.ext ⟨q, us, a1, a2, a3, G, reps_move (fun _ _ e _ => e) (fun a y => .inl ?_) a4.lists _ _ a5⟩
        rcases y with y | y
        · exact .inl y
        · rw [← ej] at y; exact .inr (List.mem_of_mem_take y)
      | exc m =>
        obtain ⟨_, a, ha, _⟩ := o
        simp at ha
      | jar m =>
        obtain ⟨F', a, ha, e⟩ := o
        have G := F'.trim J.length
        rw [ej] at G
        have pc : PostC K [] Xo js H Q E (if m < J.length then .ok (.jar m) (J1.take J.length) else match J1[m]? with
          | some ds => .ok (.new ds) (J1.take J.length)
          | none => .stuck) := pc
        by_cases hm : m < J.length
        · rw [if_pos hm] at pc
          exact pc v H' s.ext ⟨G, a, by rw [← ej, List.getElem?_take_of_lt hm]; exact ha, e⟩
        · rw [if_neg hm] at pc
          obtain ⟨ds, us, hJ, hl, rs⟩ := F'.at ha
          rw [hJ] at pc
          have haj : a ∉ js := fun z => by
            obtain ⟨i, hi, ei⟩ := List.getElem_of_mem z
            have h1 : js'[i]? = some a := by
              have : (js'.take J.length)[i]? = some a := by rw [ej, List.getElem?_eq_getElem hi, ei]
              rw [List.getElem?_take_of_lt (by rw [← Fi.len]; exact hi)] at this
              exact this
            obtain ⟨b1, c1⟩ := List.getElem?_eq_some_iff.mp h1
            obtain ⟨b2, c2⟩ := List.getElem?_eq_some_iff.mp ha
            have := (List.getElem_inj F'.nd).mp (c1.trans c2.symm)
            rw [Fi.len] at hi
            omega
          have hnone : H a = none := (s.new a (List.mem_of_getElem? ha)).resolve_left haj
          have yw : ∀ b, Yf (With Xo a) js b → Yf Xo js' b := fun b y => by
            rcases y with (y | y) | y
            · exact .inl y
            · exact .inr (y ▸ List.mem_of_getElem? ha)
            · exact yy b (.inr y)
          refine pc v H' s.ext ⟨a, us, e, hnone, hl, ⟨fun b y => F'.lists b (yw b (.inl y)), G.nd, fun b hb y => ?_, G.len, rfl, fun k b ds' h1 h2 => ?_, fun i h e => (by simp at e), fun z hz => (by simp at hz)⟩, reps_move (fun _ _ e _ => e) (fun b y => .inl (yw b y)) F'.lists _ _ rs⟩
          · rcases y with y | y
            · exact G.jx b hb y
            · exact haj (y ▸ hb)
          · have hk : k < J.length := by rw [← Fi.len]; exact (List.getElem?_eq_some_iff.mp h1).1
            rw [← ej, List.getElem?_take_of_lt hk] at h1
            rw [List.getElem?_take_of_lt hk] at h2
            obtain ⟨zs, z1, z2⟩ := F'.jar k b ds' h1 h2
            exact ⟨zs, z1, reps_move (fun _ _ e _ => e) (fun b y => .inl (yw b y)) F'.lists _ _ z2⟩
    · rw [if_neg hn] at pc; exact pc.elim
end
end L2.Pz
set_option Elab.async false
set_option linter.all false
set_option maxRecDepth 100000
set_option maxHeartbeats 4000000
set_option autoImplicit false
namespace PySem.PzW
open Sem (wp)
set_option maxHeartbeats 8000000 in
theorem meets_enumerate_newB1 {v : Value} {o : Obj} {H : Heap → Prop} (B : Begins v o H) :
    Meets (Builtin.«enumerate.__new__» ⟨[.type "enumerate", v], []⟩) (fun _ R s => H s.heap ∧
      R (.ok (.ret (.ref (s.heap.push o).objs.size))) { s with heap := (s.heap.push o).push { cls := .type "enumerate", data := .fields #[.none, .bool false, .ref s.heap.objs.size, rawInt 0, .none, .none] } }) :=
  .of_wp fun prog w A R s h => by
    obtain ⟨hp, g, d, tk, os⟩ := s; obtain ⟨h1, h⟩ := h
    have hsub := sub_enumerate
    have q1 : ∀ {A' : Around} {E : Value → Shared → Prop} {Q : Value → Shared → Prop}, Q (.ref hp.objs.size) ⟨hp.push o, g, d, tk, os⟩ → wpAny (model prog w) A' (pyIter v) Q E ⟨hp, g, d, tk, os⟩ :=
      fun q => B.iter prog w _ _ ⟨hp, g, d, tk, os⟩ _ h1 q
    wp_walk using q1
    refine wpAny_stack_any fun st => wpAny_pure ?_
    split
    · rename_i c _ _ _ _ _
      cases (c == Value.type "enumerate")
      · wp_walk using q1
        exact ⟨_, rfl, h⟩
      · wp_walk using q1
        exact ⟨_, rfl, h⟩
    · wp_walk using q1
      exact ⟨_, rfl, h⟩
section
variable {prog : Program} {w : World} {A : Around} {E : Value → Shared → Prop} {s : Shared}
theorem enum_begins1 {v : Value} {o : Obj} {H : Heap → Prop} {Q : Value → Shared → Prop} (B : Begins v o H) (h1 : H s.heap)
    (h : ∀ h', IsEnum h' (s.heap.objs.size + 1) s.heap.objs.size 0 .none → h'.get? s.heap.objs.size = some o → h'.objs.size = s.heap.objs.size + 2 →
      (∀ b o, s.heap.get? b = some o → h'.get? b = some o) → Q (.ref (s.heap.objs.size + 1)) { s with heap := h' }) :
    wpAny (model prog w) A (call (.type "enumerate") [v]) Q E s := by
  refine callType_new F.called_enumerate (by decide) (F.typeCall_enumerate_1 _) (F.newCall_enumerate_1 _) (fun obj => F.args_object_init_2 obj _) F.entry_enumerate_new
    (meets_enumerate_newB1 B) ⟨h1, ?_⟩
  have hz : (s.heap.push o).objs.size = s.heap.objs.size + 1 := Heap.size_push ..
  show _ ∧ _
  rw [hz]
  have he : IsEnum ((s.heap.push o).push { cls := .type "enumerate", data := .fields #[.none, .bool false, .ref s.heap.objs.size, rawInt 0, .none, .none] }) (s.heap.objs.size + 1) s.heap.objs.size 0 .none := by
    have := Heap.get?_push_size (s.heap.push o) (o := { cls := .type "enumerate", data := .fields #[.none, .bool false, .ref s.heap.objs.size, rawInt 0, .none, .none] }) rfl
    rw [hz] at this; exact this
  refine ⟨⟨_, he, rfl⟩, h _ he (Heap.get?_push_of_some _ (Heap.get?_push_size _ B.free)) (by rw [Heap.size_push, hz]) fun b o x => Heap.get?_push_of_some _ (Heap.get?_push_of_some _ x)⟩
end
end PySem.PzW
namespace L2.Pz
open PySem PySem.Spec PyProof.Rows
/-- pairs of a place and an item; what is walked stands while ok holds -/
def Itp (ok : Hp → Prop) (vs : List V) : It :=
  ⟨fun i H => ok H ∧ i < vs.length, fun i H v H' => ∃ T x, v = .ref T ∧ H T = none ∧ H' = upd H T (.tup [.int (i : Nat), x]) ∧ vs[i]? = some x, fun i H => ok H ∧ i = vs.length⟩
/-- enumerate over an iterator that draws -/
theorem turn_enumD {P : Program} {w : World} {K : PySem.W.Frag} {elts : List Expr} {kk : Nat} {tpos : Pos} {ok : Hp → Prop} {vs : List V} {St' : Nat → Heap → Prop} (e it : Addr)
    (hobj : ∀ i h, St' i h → ∃ o, h.get? it = some o ∧ ∀ v, o.data ≠ .cell v) (hkeep : ∀ i h h', St' i h → (∀ o, h.get? it = some o → h'.get? it = some o) → St' i h')
    (hst : ∀ (X : Cx) (pins : List (Addr × Obj)) (σ : L2.St) (H : Hp) (s : Shared) (i : Nat), X.prog = P → X.w = w → X.K = K → Inv X pins σ H s → ok H → St' i s.heap → X.A.handled = none →
      ∃ (St : Nat → Heap → Prop) (Pv : Nat → Value → Prop) (fp : List Addr), e ∉ fp ∧ St i s.heap ∧ (∀ j h, St j h → St' j h) ∧ (∀ j u, Pv j u → ∃ x, vs[j]? = some x ∧ RelV x u) ∧ Draws X.prog X.w X.A.in1 it fp vs.length Pv St) :
    Turn P w K (.Tuple elts kk tpos) (Itp ok vs) [e, it] e (fun i h => (∃ old, IsEnum h e it ((i : Nat) : Int) old) ∧ St' i h ∧ e ≠ it) where
  mem := by simp
  obj := fun i h st b hb => by
    obtain ⟨⟨old, he⟩, hs, _⟩ := st
    have e' : b = e ∨ b = it := by simpa using hb
    rcases e' with z | z
    · rw [z]; exact ⟨_, he, fun v q => nomatch q⟩
    · rw [z]; exact hobj i h hs
  keep := fun i h h' st k => let ⟨⟨old, he⟩, hs, hne⟩ := st; ⟨⟨old, k e (by simp) _ he⟩, hkeep i h h' hs fun o q => k it (by simp) o q, hne⟩
  item := by
    intro X hP hw hK hc i pins s σ H E I hf st hg
    have hh := I.ok.hd hc
    obtain ⟨⟨old, he⟩, hs', hne⟩ := st
    obtain ⟨St, Pv, fp, hfp, hs, hdown, hv, Dr⟩ := hst X pins σ H s i hP hw hK I hg.1 hs' hh
    subst hP hw hK
    have hel : e < s.heap.objs.size := Heap.lt_size he
    have hil : it < s.heap.objs.size := by obtain ⟨_, q⟩ := Dr.live _ _ hs; exact Heap.lt_size q
    refine wpAny_pyNext_enum_itemD Dr he hs hg.2 hne hfp fun u h' tk hp ho hit' hT hsz hk => ?_
    obtain ⟨x, hx, ru⟩ := hv i u hp
    refine ⟨_, rfl, wpAny_letOwnedTupleGo_enum (s := { s with heap := h', toks := tk + 1 }) ho fun h'' he' sb => ?_⟩
    have hT2 : h''.get? s.heap.objs.size = some { cls := .type "tuple", data := .seq #[.int i tk, u] } := (sb.2 _ (Nat.ne_of_gt hel)).trans hT
    have new : ObjOk X.prog X.w (upd H s.heap.objs.size (.tup [.int (i : Nat), x])) h'' s.heap.objs.size (.tup [.int (i : Nat), x]) :=
      ⟨by show 2 ≤ sizeLine; decide, [.int i tk, u], .cons ⟨_, rfl⟩ (.cons ru .nil), ⟨_, hT2, rfl, _, rfl⟩⟩
    have I1 : Inv X pins σ (upd H s.heap.objs.size (.tup [.int (i : Nat), x])) { s with heap := h'', toks := tk + 1 } :=
      I.turnedNew (ch := [e, it]) (fun b ob hb q => (sb.2 b (fun z => hb (by simp [z]))).trans (hk b ob (fun z => hb (by simp [z])) (fun z => hb (by simp [z])) q)) hf (Nat.le_refl _) new
    refine ⟨.ref s.heap.objs.size, _, I1, rfl, ⟨_, x, rfl, I.hok.fresh (Nat.le_refl _), rfl, hx⟩, ⟨⟨u, ?_⟩, hkeep _ _ _ (hdown _ _ hit') fun o q => (sb.2 it (Ne.symm hne)).trans q, hne⟩, fun b hb => ?_⟩
    · have e1 : ((i + 1 : Nat) : Int) = (i : Int) + 1 := by omega
      rw [e1]; exact he'
    · have hb' : b < s.heap.objs.size := by
        have e' : b = e ∨ b = it := by simpa using hb
        rcases e' with z | z
        · rw [z]; exact hel
        · rw [z]; exact hil
      rw [upd_ne (Nat.ne_of_lt hb')]
      exact (hf b hb).1
  done := by
    intro X hP hw hK hc i pins s σ H E I hf st hg
    have hh := I.ok.hd hc
    obtain ⟨⟨old, he⟩, hs', hne⟩ := st
    obtain ⟨St, Pv, fp, hfp, hs, hdown, hv, Dr⟩ := hst X pins σ H s i hP hw hK I hg.1 hs' hh
    subst hP hw hK
    obtain ⟨f0, f1, f2, f3, f4, f5⟩ := hf it (by simp)
    have hi : i = vs.length := hg.2
    subst hi
    exact wpAny_pyNext_enum_endD Dr he hs fun h' eb => ⟨rfl, I.turned (t' := s.toks) (fun b o hb q => eb b o hb q) f0 f1 f3 f4 f5⟩
  self := fun A i s Q E st h => let ⟨⟨_, he⟩, _⟩ := st; wpAny_pyIter_enum he h
section
variable {X : Cx} {elts : List Expr} {kk : Nat} {tpos : Pos} {e : Expr} {te : TE} {p pos : Pos} {Z : List Zx}
def iEnumT (K : PySem.W.Frag) (tl : TE) : TI := fun σ H R => tl σ H fun x H1 => (∃ a xs, x = .ref a ∧ SqL K H1 a xs ∧ R (Ite K a) H1) ∨ (∃ a xs, x = .ref a ∧ SqT K H1 a xs ∧ R (Itp (fun H => SqT K H a xs) xs) H1) ∨ ∃ z, x = .str z ∧ R (Itp (fun _ => True) (z.cps.toList.map fun c => V.str ⟨#[c]⟩)) H1
theorem tuple_ne {h : Heap} {a it : Addr} {items : Array Value} {i : Nat} (ht : h.IsTuple a items) (hi : h.IsTupleIter it a i) : a ≠ it := by
  intro z
  subst z
  obtain ⟨o, h1, h2, _⟩ := ht
  obtain ⟨o', h1', h2', _⟩ := hi
  rw [h1] at h1'; cases h1'
  rw [h2] at h2'
  injection h2' with e
  exact absurd e (by decide)
theorem pi_enumT (he : PE X e te) (hg : Gl X "enumerate") (hm : X.mg "enumerate" = none) (h1 : starEach [e] X.env = (false, eval e X.env) :: starEach [] X.env) : PI X (.Tuple elts kk tpos) (.Call (.Name "enumerate" p) [e] [] pos) (iEnumT X.K te) := by
  refine ⟨fun pins s σ H R I h => ?_⟩
  refine Call_ (ld_blt I hg hm boot_enumerate (PyProof.Rows.callWith_type1 (one_arg he I h (fun v s1 x H1 I1 r1 q1 => ?_) h1) h1))
  have fin : ∀ (h' : Heap) (J : It) (tn : Nat → Heap → Prop), Turn X.prog X.w X.K (.Tuple elts kk tpos) J [s1.heap.objs.size + 1, s1.heap.objs.size] (s1.heap.objs.size + 1) tn → tn 0 h' → (∀ b o, s1.heap.get? b = some o → h'.get? b = some o) → R J H1 →
      IsEnum h' (s1.heap.objs.size + 1) s1.heap.objs.size 0 .none → wpAny (model X.prog X.w) X.A (pyIter (.ref (s1.heap.objs.size + 1))) (PIE X pins σ (.Tuple elts kk tpos) R) X.xe { s1 with heap := h' } := fun h' J tn T st hk q hen => by
    refine wpAny_pyIter_enum hen ?_
    have I2 : Inv X pins σ H1 { s1 with heap := h' } := I1.kept (t' := s1.toks) hk
    refine ⟨s1.heap.objs.size + 1, [s1.heap.objs.size + 1, s1.heap.objs.size], _, J, H1, rfl, I2, T, st, fun b hb => ?_, q⟩
    have e' : b = s1.heap.objs.size + 1 ∨ b = s1.heap.objs.size := by simpa using hb
    have hle : s1.heap.objs.size ≤ b := by
      rcases e' with z | z
      · rw [z]; exact Nat.le_add_right _ _
      · rw [z]; exact Nat.le_refl _
    exact I1.fpOk hle (I1.hok.fresh hle)
  rcases q1 with ⟨a, xs, ex, hq, q⟩ | ⟨a, xs, ex, hq, q⟩ | ⟨z, ex, q⟩
  · subst ex
    cases r1
    obtain ⟨its, rv, p', hz⟩ := I1.list hq
    exact call_enumerate_list p'.isList fun h' he hit hsz hk => fin h' _ _ (turn_enum a (s1.heap.objs.size + 1) s1.heap.objs.size) ⟨⟨.none, he⟩, hit, Nat.succ_ne_self _⟩ hk q he
  · subst ex
    cases r1
    obtain ⟨its, rv, p', hz⟩ := I1.tuple hq
    refine PzW.enum_begins1 (begins_tuple a its.toArray) (show s1.heap.IsTuple a its.toArray from p') fun h' he hit hsz hk => ?_
    have hlt : a < s1.heap.objs.size := p'.lt
    refine fin h' _ _ (turn_enumD (ok := fun H => SqT X.K H a xs) (vs := xs) (St' := fun i h => h.IsTupleIter s1.heap.objs.size a i) (s1.heap.objs.size + 1) s1.heap.objs.size ?_ ?_ ?_)
      ⟨⟨.none, he⟩, ⟨_, hit, rfl, rfl⟩, Nat.succ_ne_self _⟩ hk q he
    · intro i h st
      obtain ⟨o, ho, hc, hd⟩ := st
      exact ⟨o, ho, fun v q => by rw [hd] at q; cases q⟩
    · intro i h h' st k
      exact st.at k
    · intro X' pins' σ' H' s' i hP hw hK I' hok st hh
      obtain ⟨its', rv', p2, hz'⟩ := I'.tuple (a := a) (xs := xs) (by rw [hK]; exact hok)
      refine ⟨fun i h => h.IsTupleIter s1.heap.objs.size a i ∧ h.IsTuple a its'.toArray, fun i v => its'.toArray[i]? = some v, [s1.heap.objs.size, a], ?_, ⟨st, p2⟩, fun _ _ z => z.1, ?_, ?_⟩
      · intro z
        have z' : s1.heap.objs.size + 1 = s1.heap.objs.size ∨ s1.heap.objs.size + 1 = a := by simpa using z
        rcases z' with z | z
        · exact absurd z (Nat.succ_ne_self _)
        · exact absurd hlt (by rw [← z]; exact Nat.not_lt.mpr (Nat.le_succ _))
      · intro i u hu
        have hu' : its'[i]? = some u := by simpa using hu
        have hi : i < xs.length := by rw [rv'.length]; exact (List.getElem?_eq_some_iff.mp hu').1
        obtain ⟨u', e1, r⟩ := rv'.get (List.getElem?_eq_getElem hi)
        rw [hu'] at e1; cases e1
        exact ⟨_, List.getElem?_eq_getElem hi, r⟩
      · have := Draws.tuple (prog := X'.prog) (w := X'.w) (A := X'.A.in1) (show X'.A.in1.handled = none from hh) s1.heap.objs.size a (tuple_ne (show s'.heap.IsTuple a its'.toArray from p2) st) its'.toArray
        have el : its'.toArray.size = xs.length := by rw [List.size_toArray, rv'.length]
        rw [el] at this
        exact this
  · subst ex
    obtain ⟨t, rfl⟩ := r1
    refine PzW.enum_begins1 (begins_text z t) trivial fun h' he hit hsz hk => ?_
    refine fin h' _ _ (turn_enumD (ok := fun _ => True) (vs := z.cps.toList.map fun c => V.str ⟨#[c]⟩) (St' := fun i h => h.IsStrIter s1.heap.objs.size (strIterType z) z t i) (s1.heap.objs.size + 1) s1.heap.objs.size ?_ ?_ ?_)
      ⟨⟨.none, he⟩, ⟨_, hit, rfl, rfl⟩, Nat.succ_ne_self _⟩ hk q he
    · intro i h st
      obtain ⟨o, ho, hc, hd⟩ := st
      exact ⟨o, ho, fun v q => by rw [hd] at q; cases q⟩
    · intro i h h' st k
      obtain ⟨o, ho, r⟩ := st
      exact ⟨o, k o ho, r⟩
    · intro X' pins' σ' H' s' i hP hw hK I' hok st hh
      refine ⟨_, fun i v => ∃ c u, z.cps[i]? = some c ∧ v = .str ⟨#[c]⟩ u, [s1.heap.objs.size], by simp, st, fun _ _ z => z, ?_, ?_⟩
      · rintro i u ⟨c, u', hc, rfl⟩
        exact ⟨.str ⟨#[c]⟩, by rw [List.getElem?_map]; simp [hc], ⟨u', rfl⟩⟩
      · have e0 : (z.cps.toList.map fun c => V.str ⟨#[c]⟩).length = z.cps.size := by simp
        rw [e0]
        exact Draws.text (A := X'.A.in1) (show X'.A.in1.handled = none from hh) _ z t
end
/-! ### enumerate over data -/
def pairUp : Nat → List D → List D
  | _, [] => []
  | i, d :: ds => .tup [.int (i : Nat), d] :: pairUp (i + 1) ds
theorem pairUp_len : ∀ (ds : List D) (k : Nat), (pairUp k ds).length = ds.length
  | [], _ => rfl
  | d :: ds, k => by unfold pairUp; rw [List.length_cons, List.length_cons, pairUp_len ds]
theorem pairUp_get : ∀ (ds : List D) (k i : Nat) (d : D), ds[i]? = some d → (pairUp k ds)[i]? = some (.tup [.int ((k + i : Nat) : Int), d])
  | [], _, _, _, h => by simp at h
  | c :: ds, k, 0, d, h => by simp at h; subst h; rfl
  | c :: ds, k, i + 1, d, h => by
    have := pairUp_get ds (k + 1) i d (by simpa using h)
    unfold pairUp
    rw [List.getElem?_cons_succ, this]
    congr 4
    omega
def iEnumD (f : EF) : IF := fun env J => (f env J).bind fun h J1 => match itemsOf h with
  | some ds => .ok (pairUp 0 ds) J1
  | none => .stuck
section
variable {K : PySem.W.Frag} {H : Hp} {Y : Addr → Prop} {Z : List Zx}
theorem pair_rep {Y' : Addr → Prop} {i : Nat} {d : D} {x : V} {H1 : Hp} {T : Addr} (hl : ∀ a, Y' a → ∃ xs, H1 a = some (.lst xs)) (hT : H1 T = none) (r : Rep K H1 Y' d x) : Rep K (upd H1 T (.tup [.int (i : Nat), x])) Y' (.tup [.int (i : Nat), d]) (.ref T) :=
  rep_tup.mpr ⟨T, _, rfl, .of upd_same, reps_cons.mpr ⟨_, _, rfl, mk_int, reps_cons.mpr ⟨_, _, rfl, rep_move (fun a o e _ => same_upd hT _ _ e) (fun _ y => .inl y) hl _ _ r, reps_nil.mpr rfl⟩⟩⟩
theorem walkD_of {J : It} {ds : List D} {n : Nat} {G : Hp → Prop} {Yl : Nat → Hp → V → Hp → Prop} (hn : n = ds.length) (w : Walk J n G Yl) (hG : ∀ H1, Keeps Y H H1 → G H1)
    (hY : ∀ Y' : Addr → Prop, (∀ a, Y' a → Y a ∨ H a = none) → ∀ i H1 x H', i < ds.length → Keeps Y H H1 → Lists H1 Y' → Yl i H1 x H' → Same H1 H' ∧ ∃ d, ds[i]? = some d ∧ Rep K H' Y' d x) : WalkD K Y H J ds := by
  subst hn
  exact ⟨G, Yl, w, hG, hY⟩
theorem walkD_itp {ok : Hp → Prop} {vs : List V} {ds : List D} (hl : Lists H Y) (hok : ∀ H1, Keeps Y H H1 → ok H1) (r : Reps K H Y ds vs) : WalkD K Y H (Itp ok vs) (pairUp 0 ds) := by
  have hlen := reps_len r
  refine walkD_of (n := vs.length) (G := ok) (Yl := fun i H v H' => ∃ T x, v = .ref T ∧ H T = none ∧ H' = upd H T (.tup [.int (i : Nat), x]) ∧ vs[i]? = some x) (by rw [pairUp_len, hlen]) ⟨fun i H hi h => ⟨h, hi⟩, fun H h => ⟨h, rfl⟩, fun i H x H' _ _ y => y⟩ hok ?_
  rintro Y' hY i H1 x H' hi k l ⟨T, x', rfl, hT, rfl, hx⟩
  obtain ⟨d, h1, h2⟩ := reps_at r hx
  have := pairUp_get ds 0 i d h1
  rw [Nat.zero_add] at this
  exact ⟨same_upd hT, _, this, pair_rep l hT (rep_move k hY hl _ _ h2)⟩
theorem walkD_ite {a : Addr} {vs : List V} {ds : List D} (hl : Lists H Y) (s : LsY K H Y a vs) (r : Reps K H Y ds vs) : WalkD K Y H (Ite K a) (pairUp 0 ds) := by
  have hlen := reps_len r
  refine walkD_of (n := vs.length) (G := fun H => SqL K H a vs) (Yl := fun i H v H' => ∃ T x, v = .ref T ∧ H T = none ∧ H' = upd H T (.tup [.int (i : Nat), x]) ∧ vs[i]? = some x) (by rw [pairUp_len, hlen])
    ⟨fun i H hi h => ⟨vs, vs[i], h, List.getElem?_eq_getElem hi⟩, fun H h => ⟨vs, h, Nat.le_refl _⟩, fun i H x H' _ h y => ?_⟩ (fun H1 k => (lsY_move (Y' := Y) k (fun _ y => .inl y) s).sq) ?_
  · obtain ⟨T, x', e1, e2, e3, e4⟩ := y
    exact ⟨T, x', e1, e2, e3, e4 vs h⟩
  · rintro Y' hY i H1 x H' hi k l ⟨T, x', rfl, hT, rfl, hx⟩
    obtain ⟨d, h1, h2⟩ := reps_at r hx
    have := pairUp_get ds 0 i d h1
    rw [Nat.zero_add] at this
    exact ⟨same_upd hT, _, this, pair_rep l hT (rep_move k hY hl _ _ h2)⟩
theorem reps_chars {z : Str} : Reps K H Y (chars z) (z.cps.toList.map fun c => V.str ⟨#[c]⟩) := by
  unfold chars
  induction z.cps.toList with
  | nil => exact reps_nil.mpr rfl
  | cons c r ih => exact reps_cons.mpr ⟨_, _, rfl, mk_str, ih⟩
end
section
variable {X : Cx} {W : WX} {e : Expr} {f : EF} {p pos tpos : Pos} {elts : List Expr} {kk : Nat} {Z : List Zx}
theorem pw_enum (hg : Gl X "enumerate") (hm : X.mg "enumerate" = none) (he : PE X e (tD X.K Z W f)) (h1 : starEach [e] X.env = (false, eval e X.env) :: starEach [] X.env) : PI X (.Tuple elts kk tpos) (.Call (.Name "enumerate" p) [e] [] pos) (tW X.K Z W (iEnumD f)) := pi_mono (pi_enumT he hg hm h1) fun σ H Q ⟨Xo, js, env, J, F, p⟩ => by
  refine ⟨Xo, js, env, J, F, ?_⟩
  unfold iEnumD at p
  cases hf : f env J with
  | stuck => rw [hf] at p; exact p.elim
  | err c fs J1 => rw [hf] at p; exact p
  | ok h J1 =>
    rw [hf] at p
    intro x H1 e1 F1 x1
    have p : PostW X.K Z W Xo js H σ env Q (match itemsOf h with
      | some ds => .ok (pairUp 0 ds) J1
      | none => .stuck) := p
    have lst : ∀ ds, norm h = .val (.lst ds) → itemsOf h = some ds → (∃ a xs, x = .ref a ∧ SqL X.K H1 a xs ∧ Q (Ite X.K a) H1) := fun ds hn hi => by
      rw [hi] at p
      rw [hn] at x1
      obtain ⟨a, vs, e, s, r⟩ := rep_lst (K := X.K) (H := H1) (Y := Yf Xo js).mp x1
      exact ⟨a, vs, e, s.sq, p _ _ e1 F1 (walkD_ite F1.lists s r)⟩
    cases h with
    | jar k => exact p.elim
    | exc k => exact p.elim
    | new ds => exact .inl (lst ds rfl rfl)
    | val d =>
      cases d with
      | lst ds => exact .inl (lst ds rfl rfl)
      | tup ds =>
        obtain ⟨a, vs, e, s, r⟩ := rep_tup (K := X.K) (H := H1) (Y := Yf Xo js).mp x1
        exact .inr (.inl ⟨a, vs, e, s, p _ _ e1 F1 (walkD_itp F1.lists (fun H2 k => sqT_move k F1.lists s) r)⟩)
      | str z => exact .inr (.inr ⟨z, rep_str (K := X.K) (H := H1) (Y := Yf Xo js) x1, p _ _ e1 F1 (walkD_itp F1.lists (fun _ _ => trivial) reps_chars)⟩)
      | non => exact p.elim
      | bl b => exact p.elim
      | int b => exact p.elim
end

/-! ### calls by keywords alone -/
section
variable {X : Cx} {CX : CXT} {k : Nat} {f : Addr} {fd : FuncData} {ps ks : List Str} {sp : Sp} {E : XK} {x : Str} {p pos : Pos} {kws : List Keyword} {tk : TA} {g : List Value → List Value → List Value} {gV : List V → List V → List V} {Z : List Zx}
theorem pe_callK0 (F : FnOk X.prog X.w X.K X.mg X.base CX k f fd ps sp) (hr : Room k X.A) (hg : Gl X x) (hm : X.mg x = some (.ref f)) (hk : PySem.W.keepIn X.K (.ref f) = true) (hb : KBinds X.K fd ps ks g gV) (hx : Passes CX X E)
    (hkw : PK X kws tk) (hall : (backToKw pos (keywordEach kws X.env)).all (·.1.isSome) = true) (hks : (backToKw pos (keywordEach kws X.env)).filterMap (·.1) = ks)
    (hdb : (x == ("__debug__" : Str)) = false) (hpl : ((backTo pos (starEach [] X.env)).any (·.1) || (backToKw pos (keywordEach kws X.env)).any (·.1.isNone)) = false) :
    PE X (.Call (.Name x p) [] kws pos) (fun σ H Q => tk σ H fun zs H2 => sp (gV [] zs) H2 Q E) := by
  refine ⟨fun pins s σ H Q I h => ?_⟩
  refine wpAny_Call_Name_kw (ld_glob I hg hm ?_ hdb)
  refine PySem.W.callWith_KW0 (h₀ := X.base) I.ok.mod.kin hk hall (thn (hkw.run pos pins s σ H _ I h) fun ws s2 ⟨zs, H2, I2, rz, q2⟩ => ⟨I2.kIn, ?_⟩) hpl
  rw [hks]
  exact run_fnk (us := []) (vs := []) F hr hb hx I2 .nil rz q2
end
/-- the arguments by keyword put in the parameters' order -/
def permute {α : Type} (ix : List Nat) (xs : List α) : List α := ix.filterMap fun i => xs[i]?
def eCallK (F : FT) (ix : List Nat) (fs : List EF) : EF := fun env J => (eArgs fs env J).bind fun hs J1 => F (permute ix hs) J1
section
variable {X : Cx} {K : PySem.W.Frag} {H : Hp} {Y : Addr → Prop} {js : List Addr} {W : WX} {fs : List EF} {Z : List Zx}
theorem hreps_get : ∀ {hs : List HV} {vs : List V} {i : Nat}, HReps K Z H Y js hs vs → (∀ h, hs[i]? = some h → ∃ v, vs[i]? = some v ∧ HRep K Z H Y js h v) ∧ (hs[i]? = none → vs[i]? = none)
  | [], vs, i, r => by unfold HReps at r; subst r; exact ⟨fun h e => by simp at e, fun _ => by simp⟩
  | z :: zs, vs, 0, r => by
    obtain ⟨v, us, e, h1, h2⟩ := r
    subst e
    exact ⟨fun h e => by simp at e; subst e; exact ⟨v, rfl, h1⟩, fun e => by simp at e⟩
  | z :: zs, vs, i + 1, r => by
    obtain ⟨v, us, e, h1, h2⟩ := r
    subst e
    simpa using hreps_get (i := i) h2
theorem hreps_permute {hs : List HV} {vs : List V} (r : HReps K Z H Y js hs vs) : ∀ ix : List Nat, HReps K Z H Y js (permute ix hs) (permute ix vs)
  | [] => rfl
  | i :: ix => by
    have ih := hreps_permute r ix
    have q := hreps_get (i := i) r
    unfold permute at ih ⊢
    cases e : hs[i]? with
    | none => rw [List.filterMap_cons_none e, List.filterMap_cons_none (q.2 e)]; exact ih
    | some h =>
      obtain ⟨v, e1, h1⟩ := q.1 h e
      rw [List.filterMap_cons_some e, List.filterMap_cons_some e1]
      exact ⟨v, _, rfl, h1, ih⟩
theorem permute_len {α : Type} {xs : List α} : ∀ ix : List Nat, (∀ i ∈ ix, i < xs.length) → (permute ix xs).length = ix.length
  | [], _ => rfl
  | i :: ix, h => by
    have ih := permute_len ix fun j hj => h j (List.mem_cons_of_mem _ hj)
    unfold permute at ih ⊢
    rw [List.filterMap_cons_some (List.getElem?_eq_getElem (h i List.mem_cons_self)), List.length_cons, List.length_cons, ih]
theorem callK_read {n : Nat} {F : FT} {t : TA} {ix : List Nat} (hn : ∀ i ∈ ix, i < fs.length) (hx : ix.length = n) (m : ∀ σ H Q, tH X.K Z W fs σ H Q → t σ H Q) {σ : L2.St} {H : Hp} {Q : VK} {E : XK} (hE : ∀ cls od H, W cls od σ H → E cls od H) (w : tN X.K Z W (eCallK F ix fs) σ H Q) :
    t σ H fun vs H1 => spF X.K n F (permute ix vs) H1 Q E := by
  obtain ⟨Xo, js, env, J, Fi, p⟩ := w
  refine m _ _ _ ⟨Xo, js, env, J, Fi, ?_⟩
  unfold eCallK at p
  cases hf : eArgs fs env J with
  | stuck => rw [hf] at p; exact p.elim
  | err c fs J1 => rw [hf] at p; exact p
  | ok hs J1 =>
    rw [hf] at p
    intro vs H1 e1 F1 r1
    have hl : (permute ix hs).length = n := by rw [permute_len ix (by rw [eArgs_len hf]; exact hn), hx]
    refine ⟨Xo, js, J1, permute ix hs, F1.bareZ, hl, hreps_permute r1 ix, ?_⟩
    have p : PostN X.K Z W Xo js H σ env Q (F (permute ix hs) J1) := p
    cases hr : F (permute ix hs) J1 with
    | stuck => rw [hr] at p; exact p.elim
    | err c fs J2 => rw [hr] at p; exact fun cls od H2 x e2 G => hE _ _ _ (p cls od H2 x (e1.trans e2) (F1.renew e2 (fun _ h => .inl h) G))
    | ok h J2 =>
      rw [hr] at p
      intro v H2 e2 o
      refine p v H2 (e1.trans e2) ?_
      cases h with
      | val d => exact ⟨F1.renew e2 (fun _ h => .inl h) o.1, o.2⟩
      | jar k => exact ⟨F1.renew e2 (fun _ h => .inl h) o.1, o.2⟩
      | exc k =>
        obtain ⟨_, a, ha, _⟩ := o
        simp at ha
      | new ds =>
        obtain ⟨q, us, a1, a2, a3, a4, a5⟩ := o
        exact ⟨q, us, a1, none_back e1 F1.lists a2, a3, F1.renew e2 (fun a h => h.elim .inl fun z => .inr (z ▸ a2)) a4, a5⟩
/-- the keywords' values -/
theorem pk_nilD : PK X [] (tH X.K Z W []) := ⟨fun pos pins s σ H Q I ⟨Xo, js, env, J, F, p⟩ => pk_nil.run pos pins s σ H Q I (p [] H .refl F rfl)⟩
theorem pk_consD {e : Expr} {f : EF} {nm : Option Str} {kpos : Pos} {kws : List Keyword} (ha : PE X e (tD X.K Z W f)) (hb : PK X kws (tH X.K Z W fs)) : PK X (⟨nm, e, kpos⟩ :: kws) (tH X.K Z W (f :: fs)) :=
  ⟨fun pos pins s σ H Q I ⟨Xo, js, env, J, F, p⟩ => (pk_cons ha hb).run pos pins s σ H Q I (by
    refine ⟨Xo, js, env, J, F, ?_⟩
    unfold eArgs at p
    cases hf : f env J with
    | stuck => rw [hf] at p; exact p.elim
    | err c fs J1 => rw [hf] at p; exact p
    | ok h J1 =>
      rw [hf] at p
      intro x H1 e1 F1 x1
      refine ⟨Xo, js, env, J1, F1, ?_⟩
      have p : PostH X.K Z W Xo js H σ env Q ((eArgs fs env J1).bind fun hs J2 => if isExc h = true then .stuck else .ok (norm h :: hs) J2) := p
      cases hg : eArgs fs env J1 with
      | stuck => rw [hg] at p; exact p.elim
      | err c fs J2 => rw [hg] at p; exact p.later e1
      | ok ds J2 =>
        rw [hg] at p
        intro vs H2 e2 F2 r2
        have p : PostH X.K Z W Xo js H σ env Q (if isExc h = true then .stuck else .ok (norm h :: ds) J2) := p
        by_cases hz : isExc h = true
        · rw [if_pos hz] at p; exact p.elim
        rw [if_neg hz] at p
        exact p (x :: vs) H2 (e1.trans e2) F2 ⟨x, vs, rfl, hrep_drop hz (x1.ext F1 e2), r2⟩)⟩
theorem vals_permute {vs : List V} {us : List Value} (r : Vals vs us) : ∀ ix : List Nat, Vals (permute ix vs) (permute ix us)
  | [] => .nil
  | i :: ix => by
    have ih := vals_permute r ix
    unfold permute at ih ⊢
    cases e : vs[i]? with
    | none => rw [List.filterMap_cons_none e, List.filterMap_cons_none (Vals.none_of r e)]; exact ih
    | some v =>
      obtain ⟨u, e1, h1⟩ := r.get e
      rw [List.filterMap_cons_some e, List.filterMap_cons_some e1]
      exact .cons h1 ih
/-- how such a call binds -/
theorem kbinds_mk {K : PySem.W.Frag} {x qual : Str} {st : Stmt} {f : Addr} {fd : FuncData} {ps ks : List Str} {ix : List Nat} (F : Fun K x qual st f fd)
    (h : ∀ (kV doc pm : Value) (an : Option Addr) (cdv ct : Value) (ws : List Value), (permute ix ws).length = ps.length → bindArgs (PySem.W.fnOf x qual (defArgs st) (defBody st) (defScope st) .none kV doc pm an cdv ct) ⟨[], ks.zip ws⟩ = pure (ps.zip (permute ix ws))) (hne : ps ≠ []) :
    KBinds K fd ps ks (fun us ws => if us.isEmpty then permute ix ws else []) (fun us ws => if us.isEmpty then permute ix ws else []) := by
  obtain ⟨oc, od, kV, doc, pm, an, cdv, ct, osl, rfl, lk, hcd⟩ := F.ex
  refine ⟨fun s us ws _ hl => ?_, fun {vs us zs ws} r1 r2 => ?_⟩
  · cases us with
    | nil => exact .of_eq (h kV doc pm an cdv ct ws hl)
    | cons u us =>
      have : ([] : List Value).length = ps.length := hl
      cases ps with
      | nil => exact (hne rfl).elim
      | cons _ _ => cases this
  · cases r1 with
    | nil => exact vals_permute r2 ix
    | cons _ _ => exact .nil
variable {k : Nat} {g : Addr} {fd : FuncData} {ps ks : List Str} {x : Str} {p pos : Pos} {F : FT} {E : XK} {kws : List Keyword} {ix : List Nat}
theorem pn_callK (G : FnOk X.prog X.w X.K X.mg X.base (L2.CX X.prog X.w) k g fd ps (spF X.K ps.length F)) (tk : Takes X (fun cls d _ H => E cls d H)) (hr : Room k X.A) (hg : Gl X x) (hm : X.mg x = some (.ref g)) (hk : PySem.W.keepIn X.K (.ref g) = true)
    (hb : KBinds X.K fd ps ks (fun us ws => if us.isEmpty then permute ix ws else []) (fun us ws => if us.isEmpty then permute ix ws else [])) (hkw : PK X kws (tH X.K Z (fun cls d _ H => E cls d H) fs)) (hn : ∀ i ∈ ix, i < fs.length) (hx : ix.length = ps.length)
    (hall : (backToKw pos (keywordEach kws X.env)).all (·.1.isSome) = true) (hks : (backToKw pos (keywordEach kws X.env)).filterMap (·.1) = ks)
    (hdb : (x == ("__debug__" : Str)) = false) (hpl : ((backTo pos (starEach [] X.env)).any (·.1) || (backToKw pos (keywordEach kws X.env)).any (·.1.isNone)) = false) :
    PE X (.Call (.Name x p) [] kws pos) (tN X.K Z (fun cls d _ H => E cls d H) (eCallK F ix fs)) :=
  pe_mono (pe_callK0 G hr hg hm hk hb (passes_call tk fun _ _ _ _ h => h) hkw hall hks hdb hpl) fun σ H Q w => callK_read (E := E) hn hx (fun _ _ _ z => z) (fun _ _ _ z => z) w
end
end L2.Pz
set_option Elab.async false
set_option linter.all false
set_option maxRecDepth 100000
set_option maxHeartbeats 4000000
set_option autoImplicit false
namespace L2.Pz
open PySem PySem.Spec PyProof.Rows
theorem hu200 {k : Nat} {A : Around} (hr : Room k A) : A.units + 200 < cLine := by
  have := hr.un
  omega
def eNorm (f : EF) : EF := fun env J => (f env J).bind fun h J1 => .ok (norm h) J1
def rgBig (a b : Int) : Bool := rgOk a && (rgOk b && decide ((b - a).toNat ≤ 16777216))
def eRg (mk : List D → HV) (it : IF) : EF := fun env J => (it env J).bind fun ds J1 => if ds.length ≤ 16777216 then .ok (mk ds) J1 else .stuck
section
variable {X : Cx} {W : WX} {e a b : Expr} {f g : EF} {p q pos : Pos} {Z : List Zx}
theorem toN' (h : PE X e (tD X.K Z W f)) : PE X e (tN X.K Z W (eNorm f)) := pe_mono h fun σ H Q ⟨Xo, js, env, J, F, p⟩ => by
  refine ⟨Xo, js, env, J, F, ?_⟩
  unfold eNorm at p
  cases r : f env J with
  | ok z J1 =>
    rw [r] at p
    intro v H' e1 G x
    have p : PostN X.K Z W Xo js H σ env Q (.ok (norm z) J1) := p
    cases z with
    | val d => exact p v H' e1 ⟨G, x⟩
    | jar k => exact p v H' e1 ⟨G, x⟩
    | exc k => exact p v H' e1 ⟨G, x⟩
    | new ds => exact p v H' e1 ⟨G, x⟩
  | err c fs J1 => rw [r] at p; exact p
  | stuck => rw [r] at p; exact p
/-- a comparison with None, as a test -/
theorem pt_ofN (h : PT X e (tB (fun σ H Q => tN X.K Z W f σ H Q))) : PT X e (tT X.K Z W fun env J => toB (f env J)) := pt_mono h fun σ H Q w => toB_read w
theorem pt_isN {j pos'} (ha : PE X a (tD X.K Z W f)) : PT X (.Compare a [.Is] [.Constant .none j pos'] pos) (tT X.K Z W fun env J => toB (eUn dIsN f env J)) :=
  pt_mono (pt_cmp (pc_isN ha) rfl) fun σ H Q w => un_read (ta := tD X.K Z W f) (r := fun x H Q => Q (.bl (decide (x = .non))) H) (fo := dIsN) (fun H Y x d z Q hl hx hz q => by
    cases d with
    | non => cases hz; rw [top_non hx]; exact q _ _ (po_val mk_bl)
    | bl b => cases hz; rw [top_bl hx]; exact q _ _ (po_val mk_bl)
    | int b => cases hz; rw [top_int hx]; exact q _ _ (po_val mk_bl)
    | str b => cases hz; rw [top_str hx]; exact q _ _ (po_val mk_bl)
    | tup ds => obtain ⟨a, vs, rfl, _⟩ := top_tup hx; cases hz; exact q _ _ (po_val mk_bl)
    | lst ds => obtain ⟨a, vs, rfl, _⟩ := hx; cases hz; exact q _ _ (po_val mk_bl)) (fun _ _ _ z => z) (toB_read w)
theorem pt_notNn {j pos'} (ha : PE X a (tD X.K Z W f)) : PT X (.Compare a [.IsNot] [.Constant .none j pos'] pos) (tT X.K Z W fun env J => toB (eUn dNotN f env J)) :=
  pt_mono (pt_cmp (pc_notN ha) rfl) fun σ H Q w => un_read (ta := tD X.K Z W f) (r := fun x H Q => Q (.bl (!decide (x = .non))) H) (fo := dNotN) (fun H Y x d z Q hl hx hz q => by
    cases d with
    | non => cases hz; rw [top_non hx]; exact q _ _ (po_val mk_bl)
    | bl b => cases hz; rw [top_bl hx]; exact q _ _ (po_val mk_bl)
    | int b => cases hz; rw [top_int hx]; exact q _ _ (po_val mk_bl)
    | str b => cases hz; rw [top_str hx]; exact q _ _ (po_val mk_bl)
    | tup ds => obtain ⟨a, vs, rfl, _⟩ := top_tup hx; cases hz; exact q _ _ (po_val mk_bl)
    | lst ds => obtain ⟨a, vs, rfl, _⟩ := hx; cases hz; exact q _ _ (po_val mk_bl)) (fun _ _ _ z => z) (toB_read w)
theorem reps_rg {K : PySem.W.Frag} {H : Hp} {Y : Addr → Prop} (a : Int) (n : Nat) : Reps K H Y (rgD a n) ((List.range n).map fun i => V.int (a + (i : Nat))) := by
  unfold rgD
  induction List.range n with
  | nil => exact reps_nil.mpr rfl
  | cons i r ih => exact reps_cons.mpr ⟨_, _, rfl, mk_int, ih⟩
/-- list(range(n)), tuple(range(n)), with one bound or two -/
theorem rg1_read {mk : List D → HV} {σ : L2.St} {H : Hp} {Q : VK} (w : tN X.K Z W (eRg mk (iRange1 f)) σ H Q) (fin : ∀ (Xo : Addr → Prop) (js : List Addr) (H1 : Hp) (q : Addr), Lists H1 (Yf Xo js) → H1 q = none → ∀ a b, ∃ o v, PureOut X.K (Yf Xo js) H1 (upd H1 q o) (mk (rgD a (b - a).toNat)) v ∧ ∀ Q : VK, Q v (upd H1 q o) → Q (.ref q) (upd H1 q o)) : True := trivial
end
section
variable {X : Cx} {W : WX} {a b : Expr} {f g : EF} {p q pos : Pos} {Z : List Zx}
theorem rgok_of {n : Int} (h : rgOk n = true) (hb : (rgD 0 n.toNat).length ≤ 16777216) : RgOk 0 n := by
  unfold rgOk at h
  rw [Bool.and_eq_true] at h
  have h1 : -(2 ^ 62) ≤ n := of_decide_eq_true h.1
  have h2 : n < 2 ^ 62 := of_decide_eq_true h.2
  unfold rgD at hb
  rw [List.length_map, List.length_range] at hb
  exact ⟨by omega, by omega, h1, h2, by omega⟩
theorem rgok2_of {m n : Int} (h : (rgOk m && rgOk n) = true) (hb : (rgD m (n - m).toNat).length ≤ 16777216) : RgOk m n := by
  unfold rgOk at h
  rw [Bool.and_eq_true, Bool.and_eq_true, Bool.and_eq_true] at h
  have h1 : -(2 ^ 62) ≤ m := of_decide_eq_true h.1.1
  have h2 : m < 2 ^ 62 := of_decide_eq_true h.1.2
  have h3 : -(2 ^ 62) ≤ n := of_decide_eq_true h.2.1
  have h4 : n < 2 ^ 62 := of_decide_eq_true h.2.2
  unfold rgD at hb
  rw [List.length_map, List.length_range] at hb
  exact ⟨h1, h2, h3, h4, by omega⟩
theorem rg1_go {σ : L2.St} {H : Hp} {Q : VK} {mk : List D → HV} (w : tN X.K Z W (eRg mk (iRange1 f)) σ H Q) (k : Int → Int → Hp → Prop)
    (fin : ∀ (Xo : Addr → Prop) (js : List Addr) (env : En) (J : Jr) (H1 : Hp) (n : Int), Fit X.K Z Xo js H1 σ env J → Ext js H H1 → rgOk n = true → (rgD 0 n.toNat).length ≤ 16777216 → PostN X.K Z W Xo js H σ env Q (.ok (mk (rgD 0 n.toNat)) J) → k 0 n H1) : tRg1 (tD X.K Z W f) σ H k := by
  obtain ⟨Xo, js, env, J, F, p⟩ := w
  refine ⟨Xo, js, env, J, F, ?_⟩
  unfold eRg iRange1 at p
  cases hf : f env J with
  | stuck => rw [hf] at p; exact p.elim
  | err c fs J1 => rw [hf] at p; exact p
  | ok h J1 =>
    rw [hf] at p
    intro x H1 e1 F1 x1
    cases h with
    | jar k => exact p.elim
    | exc k => exact p.elim
    | new ds => exact p.elim
    | val d =>
      cases d with
      | int n =>
        refine ⟨n, rep_int (K := X.K) (H := H1) (Y := Yf Xo js) x1, ?_⟩
        have p : PostN X.K Z W Xo js H σ env Q ((if rgOk n = true then R.ok (rgD 0 n.toNat) J1 else .stuck).bind fun ds J1 => if ds.length ≤ 16777216 then .ok (mk ds) J1 else .stuck) := p
        by_cases h1 : rgOk n = true
        · rw [if_pos h1] at p
          have p : PostN X.K Z W Xo js H σ env Q (if (rgD 0 n.toNat).length ≤ 16777216 then .ok (mk (rgD 0 n.toNat)) J1 else .stuck) := p
          by_cases h2 : (rgD 0 n.toNat).length ≤ 16777216
          · rw [if_pos h2] at p
            exact fin Xo js env J1 H1 n F1 e1 h1 h2 p
          · rw [if_neg h2] at p; exact p.elim
        · rw [if_neg h1] at p; exact p.elim
      | _ => exact p.elim
theorem rg2_go {σ : L2.St} {H : Hp} {Q : VK} {mk : List D → HV} (w : tN X.K Z W (eRg mk (iRange2 f g)) σ H Q) (k : Int → Int → Hp → Prop)
    (fin : ∀ (Xo : Addr → Prop) (js : List Addr) (env : En) (J : Jr) (H1 : Hp) (m n : Int), Fit X.K Z Xo js H1 σ env J → Ext js H H1 → (rgOk m && rgOk n) = true → (rgD m (n - m).toNat).length ≤ 16777216 → PostN X.K Z W Xo js H σ env Q (.ok (mk (rgD m (n - m).toNat)) J) → k m n H1) : tRg2 (tD X.K Z W f) (tD X.K Z W g) σ H k := by
  obtain ⟨Xo, js, env, J, F, p⟩ := w
  refine ⟨Xo, js, env, J, F, ?_⟩
  unfold eRg iRange2 at p
  cases hf : f env J with
  | stuck => rw [hf] at p; exact p.elim
  | err c fs J1 => rw [hf] at p; exact p
  | ok h J1 =>
    rw [hf] at p
    intro x H1 e1 F1 x1
    refine ⟨Xo, js, env, J1, F1, ?_⟩
    have p : PostN X.K Z W Xo js H σ env Q (((g env J1).bind fun h2 J2 => rg2End J2 h h2).bind fun ds J1 => if ds.length ≤ 16777216 then .ok (mk ds) J1 else .stuck) := p
    cases hg : g env J1 with
    | stuck => rw [hg] at p; exact p.elim
    | err c fs J2 => rw [hg] at p; exact p.later e1
    | ok h2 J2 =>
      rw [hg] at p
      intro y H2 e2 F2 y2
      have x2 := x1.ext F1 e2
      have p : PostN X.K Z W Xo js H σ env Q ((rg2End J2 h h2).bind fun ds J1 => if ds.length ≤ 16777216 then .ok (mk ds) J1 else .stuck) := p
      cases h with
      | jar k => exact p.elim
      | exc k => exact p.elim
      | new ds => exact p.elim
      | val d =>
        cases d with
        | int m =>
          cases h2 with
          | jar k => exact p.elim
          | exc k => exact p.elim
          | new ds => exact p.elim
          | val d =>
            cases d with
            | int n =>
              refine ⟨m, n, rep_int (K := X.K) (H := H2) (Y := Yf Xo js) x2, rep_int (K := X.K) (H := H2) (Y := Yf Xo js) y2, ?_⟩
              have p : PostN X.K Z W Xo js H σ env Q ((if (rgOk m && rgOk n) = true then R.ok (rgD m (n - m).toNat) J2 else .stuck).bind fun ds J1 => if ds.length ≤ 16777216 then .ok (mk ds) J1 else .stuck) := p
              by_cases h1 : (rgOk m && rgOk n) = true
              · rw [if_pos h1] at p
                have p : PostN X.K Z W Xo js H σ env Q (if (rgD m (n - m).toNat).length ≤ 16777216 then .ok (mk (rgD m (n - m).toNat)) J2 else .stuck) := p
                by_cases h2 : (rgD m (n - m).toNat).length ≤ 16777216
                · rw [if_pos h2] at p
                  exact fin Xo js env J2 H2 m n F2 (e1.trans e2) h1 h2 p
                · rw [if_neg h2] at p; exact p.elim
              · rw [if_neg h1] at p; exact p.elim
            | _ => exact p.elim
        | _ => exact p.elim
abbrev mkL : List D → HV := HV.new
abbrev mkT : List D → HV := fun ds => .val (.tup ds)
theorem pn_listRg1 (hg : Gl X "list") (hm : X.mg "list" = none) (hc : X.calm = true) (he : PRg X a (tRg1 (tD X.K Z W f))) (na : starEach [a] X.env = (false, eval a X.env) :: starEach [] X.env) : PE X (.Call (.Name "list" p) [a] [] pos) (tN X.K Z W (eRg mkL (iRange1 f))) :=
  pe_mono (pe_listRg hc hg hm he na) fun σ H Q w => rg1_go w _ fun Xo js env J H1 n F1 e1 h1 h2 p => ⟨rgok_of h1 h2, fun q hq => by
    obtain ⟨e2, o⟩ := pure_out F1 e1 (po_newl F1.lists hq (reps_rg 0 n.toNat))
    have := p _ _ e2 o
    unfold rgV
    rw [Int.sub_zero]
    exact this⟩
theorem pn_tupRg1 (hg : Gl X "tuple") (hm : X.mg "tuple" = none) (hc : X.calm = true) (he : PRg X a (tRg1 (tD X.K Z W f))) (na : starEach [a] X.env = (false, eval a X.env) :: starEach [] X.env) : PE X (.Call (.Name "tuple" p) [a] [] pos) (tN X.K Z W (eRg mkT (iRange1 f))) :=
  pe_mono (pe_tupRg hc hg hm he na) fun σ H Q w => rg1_go w _ fun Xo js env J H1 n F1 e1 h1 h2 p => ⟨rgok_of h1 h2, fun q hq => by
    obtain ⟨e2, o⟩ := pure_out F1 e1 (po_newt F1.lists hq (reps_rg 0 n.toNat))
    have := p _ _ e2 o
    unfold rgV
    rw [Int.sub_zero]
    exact this⟩
theorem pn_listRg2 (hg : Gl X "list") (hm : X.mg "list" = none) (hc : X.calm = true) (he : PRg X a (tRg2 (tD X.K Z W f) (tD X.K Z W g))) (na : starEach [a] X.env = (false, eval a X.env) :: starEach [] X.env) : PE X (.Call (.Name "list" p) [a] [] pos) (tN X.K Z W (eRg mkL (iRange2 f g))) :=
  pe_mono (pe_listRg hc hg hm he na) fun σ H Q w => rg2_go w _ fun Xo js env J H1 m n F1 e1 h1 h2 p => ⟨rgok2_of h1 h2, fun q hq => by
    obtain ⟨e2, o⟩ := pure_out F1 e1 (po_newl F1.lists hq (reps_rg m (n - m).toNat))
    exact p _ _ e2 o⟩
theorem pn_tupRg2 (hg : Gl X "tuple") (hm : X.mg "tuple" = none) (hc : X.calm = true) (he : PRg X a (tRg2 (tD X.K Z W f) (tD X.K Z W g))) (na : starEach [a] X.env = (false, eval a X.env) :: starEach [] X.env) : PE X (.Call (.Name "tuple" p) [a] [] pos) (tN X.K Z W (eRg mkT (iRange2 f g))) :=
  pe_mono (pe_tupRg hc hg hm he na) fun σ H Q w => rg2_go w _ fun Xo js env J H1 m n F1 e1 h1 h2 p => ⟨rgok2_of h1 h2, fun q hq => by
    obtain ⟨e2, o⟩ := pure_out F1 e1 (po_newt F1.lists hq (reps_rg m (n - m).toNat))
    exact p _ _ e2 o⟩
end
end L2.Pz
set_option Elab.async false
set_option linter.all false
set_option maxRecDepth 100000
set_option maxHeartbeats 4000000
set_option autoImplicit false
namespace L2.Pz
open PySem PySem.Spec PyProof.Rows
/-! ### a, b = a tuple or a list -/
def tgSeq (is : List Nat) : TF := fun d env => match d with
  | .tup ds => tgs is ds env
  | .lst ds => tgs is ds env
  | _ => none
def gAny (K : PySem.W.Frag) (n : Nat) (t : TGs) : TG := fun v σ H Q => gTup K n t v σ H Q ∨ gLst K n t v σ H Q
theorem pg_any {X : Cx} {pos : Pos} {es : List Expr} {k : Nat} {t : TGs} {n : Nat} (hc : X.calm = true) (h : PGs X es t)
    (hn : (assignEach es X.env).length = n := by rfl) (hst : (assignEach es X.env).findIdx? (·.1) = none := by rfl) : PG X (.Tuple es k pos) (gAny X.K n t) :=
  ⟨fun pins s σ H v u Q I r hw => hw.elim ((pg_tup hc h hn hst).run pins s σ H v u Q I r) ((pg_lst hc h hn hst).run pins s σ H v u Q I r)⟩
theorem tgok_any {K : PySem.W.Frag} {Z : List Zx} {n : Nat} {is : List Nat} {u : TGs} (h : TgsOk K Z u is) (hn : is.length = n) : TgOk K Z (gAny K n u) (tgSeq is) := fun Xo js H σ env env' J d v Q F r e q => by
  cases d with
  | tup ds =>
    obtain ⟨a, vs, e1, s, r1⟩ := rep_tup.mp r
    exact .inl ⟨a, vs, e1, s, by rw [reps_len r1, ← hn]; exact tgs_len e, h Xo js H σ env env' J ds vs Q F r1 e q⟩
  | lst ds =>
    obtain ⟨a, vs, e1, s, r1⟩ := rep_lst.mp r
    exact .inr ⟨a, vs, e1, s.sq, by rw [reps_len r1, ← hn]; exact tgs_len e, h Xo js H σ env env' J ds vs Q F r1 e q⟩
  | _ => cases e
theorem tgin_any {K : PySem.W.Frag} {own : List Nat} {n : Nat} {u : TGs} (hu : TgsIn u own) : TgIn (gAny K n u) own := fun v σ H Q w => w.elim
  (fun ⟨a, xs, e, s, l, q⟩ => .inl ⟨a, xs, e, s, l, hu xs σ _ H Q (wipe_wipe σ own) q⟩) (fun ⟨a, xs, e, s, l, q⟩ => .inr ⟨a, xs, e, s, l, hu xs σ _ H Q (wipe_wipe σ own) q⟩)
/-! ### a def's facts -/
structure FnF (K : PySem.W.Frag) (mg : Str → Option Value) (x : Str) (st : Stmt) (f : Addr) (fd : FuncData) (ps : List Str) : Prop where
  F : Fun K x x st f fd
  b : Binds K fd ps []
  g : mg x = some (.ref f)
end L2.Pz
set_option Elab.async false
set_option linter.all false
set_option maxRecDepth 100000
set_option maxHeartbeats 4000000
set_option autoImplicit false
namespace L2.Pz
open PySem PySem.Spec PyProof.Rows
section
variable {X : Cx} {k : Nat} {g : Addr} {fd : FuncData} {ps : List Str} {x : Str} {p pos : Pos} {F : FT} {E : XK} {Z : List Zx}
/-- f(), f a def of the text -/
theorem pn_call00 (G : FnOk X.prog X.w X.K X.mg X.base (L2.CX X.prog X.w) k g fd ps (spF X.K ps.length F)) (tk : Takes X (fun cls d _ H => E cls d H)) (hr : Room k X.A) (hg : Gl X x) (hm : X.mg x = some (.ref g)) (hk : PySem.W.keepIn X.K (.ref g) = true) (hb : Binds X.K fd ps [])
    (hn : ([] : List EF).length = ps.length) (hdb : (x == ("__debug__" : Str)) = false) : PE X (.Call (.Name x p) [] [] pos) (tN X.K Z (fun cls d _ H => E cls d H) (eCall F [])) :=
  pe_mono (pe_call0 G hr hg hm hk hb .nil (passes_call tk fun _ _ _ _ h => h) hdb) fun σ H Q w => by
    have := call_read (X := X) (W := fun cls d _ H => E cls d H) (t := tNil) (E := E) hn (fun σ H Q ⟨Xo, js, env, J, Fi, p⟩ => p [] H .refl Fi rfl) (fun _ _ _ z => z) w
    unfold tCall
    simp only [List.append_nil]
    exact this
theorem pn_call000 (G : FnOk X.prog X.w X.K X.mg X.base (L2.CX X.prog X.w) k g fd ps (spF X.K ps.length F)) (hr : Room k X.A) (hg : Gl X x) (hm : X.mg x = some (.ref g)) (hk : PySem.W.keepIn X.K (.ref g) = true) (hb : Binds X.K fd ps [])
    (hn : ([] : List EF).length = ps.length) (hdb : (x == ("__debug__" : Str)) = false) : PE X (.Call (.Name x p) [] [] pos) (tN X.K Z W0 (eCall F [])) :=
  pe_mono (pe_call0 G hr hg hm hk hb .nil passL hdb) fun σ H Q w => by
    have := call_read (X := X) (W := W0) (t := tNil) (E := E0) hn (fun σ H Q ⟨Xo, js, env, J, Fi, p⟩ => p [] H .refl Fi rfl) (fun _ _ _ z => z) w
    unfold tCall
    simp only [List.append_nil]
    exact this
end
theorem fn_none {P : Program} {w : World} {K : PySem.W.Frag} {mg : Str → Option Value} {base : Heap} {CX : CXT} {k : Nat} {f : Addr} {fd : FuncData} {ps : List Str} {n : Nat} (hn : n = ps.length) : FnOk P w K mg base CX k f fd ps (spF K n fun _ _ => .stuck) :=
  ⟨fun vs H Q E h => by rw [← hn]; exact spF_len vs H Q E h, fun A outer s H args us vs Q E hr he hb hv ⟨Xo, js, J, hs, _, _, _, p⟩ => p.elim⟩
theorem cx_no {P : Program} {w : World} {H : Hp} {s : Shared} {e : Value} {s' : Shared} (h : L2.CX P w [] H s (fun _ _ _ => False) e s') : False := by
  obtain ⟨_, _, _, _, _, _, _, _, _, _, _, _, h⟩ := h
  exact h
theorem spF_start {K : PySem.W.Frag} {H : Hp} {a : Addr} {ns : List Int} {F : FT} {E : XK} (hS : SqL K H a (ns.map V.int)) (hF : F [.val (.lst (ns.map D.int))] [] = .ok (.val (.bl true)) []) : spF K 1 F [.ref a] H (fun v _ => v = .bl true) E := by
  have Fi : Fit K [] (fun _ => False) [] H [] [] [] := { out := fun _ h => h.elim, nd := List.nodup_nil, jx := (by intro a h; simp at h), len := rfl, slen := rfl, jar := (by intro k a ds h; simp at h), slot := (by intro i h e; simp at e), ez := (by intro z hz; simp at hz) }
  refine ⟨fun _ => False, [], [], [.val (.lst (ns.map D.int))], Fi, rfl, ⟨.ref a, [], rfl, ?_, rfl⟩, ?_⟩
  · refine rep_lst.mpr ⟨a, _, rfl, ?_, reps_of_ints⟩
    rcases hS with h | h
    · exact .inl ⟨h, fun y => y.elim id fun y => by simp at y⟩
    · exact .inr (.inr h)
  · rw [hF]
    exact fun v H' _ o => rep_bl (K := K) (H := H') (Y := Yf (fun _ => False) []) o.2
end L2.Pz
set_option Elab.async false
set_option linter.all false
set_option maxRecDepth 100000
set_option maxHeartbeats 4000000
set_option autoImplicit false
namespace L2.Pz
open PySem
/-! ### the logic of the pure layer: Ex (of expressions), Sx (of statements) -/
abbrev XP := Str → List (Str × D) → Jr → Prop
abbrev nX : XP := fun _ _ _ => False
def ExM {α : Type} (X : XP) (r : R α) (Q : α → Jr → Prop) : Prop := match r with
  | .ok a J => Q a J
  | .err c fs J => X c fs J
  | .stuck => False
/-- a wrapper: nothing unfolds it by itself -/
structure Ex {α : Type} (X : XP) (r : R α) (Q : α → Jr → Prop) : Prop where
  out : ExM X r Q
theorem Ex_eq {α : Type} {X : XP} {r : R α} {Q : α → Jr → Prop} : Ex X r Q = ExM X r Q := propext ⟨Ex.out, Ex.mk⟩
structure Po where
  nx : En → Jr → Prop
  rt : HV → Jr → Prop
  bk : En → Jr → Prop
  ct : En → Jr → Prop
  er : Str → List (Str × D) → En → Jr → Prop
def SxM (P : Po) (r : RS) : Prop := match r with
  | .nx e J => P.nx e J
  | .rt h J => P.rt h J
  | .bk e J => P.bk e J
  | .ct e J => P.ct e J
  | .err c fs e J => P.er c fs e J
  | .stuck => False
structure Sx (P : Po) (r : RS) : Prop where
  out : SxM P r
theorem Sx_eq {P : Po} {r : RS} : Sx P r = SxM P r := propext ⟨Sx.out, Sx.mk⟩
def OpQ {α : Type} (o : Option α) (Q : α → Prop) : Prop := match o with
  | some a => Q a
  | none => False
def nmQ (o : Option (Option HV)) (Q : HV → Prop) : Prop := match o with
  | some (some h) => Q h
  | _ => False
def jarQ (o : Option (Option HV)) (Q : Nat → Prop) : Prop := match o with
  | some (some (.jar k)) => Q k
  | _ => False
def blQ (h : HV) (Q : Bool → Prop) : Prop := match h with
  | .val (.bl b) => Q b
  | _ => False
def intQ (h : HV) (Q : Int → Prop) : Prop := match h with
  | .val (.int b) => Q b
  | _ => False
def newQ (h : HV) (Q : List D → Prop) : Prop := match h with
  | .new b => Q b
  | _ => False
@[simp] theorem OpQ_some {α : Type} {a : α} {Q : α → Prop} : OpQ (some a) Q ↔ Q a := Iff.rfl
@[simp] theorem OpQ_none {α : Type} {Q : α → Prop} : OpQ none Q ↔ False := Iff.rfl
@[simp] theorem OpQ_ite {α : Type} {a : α} {Q : α → Prop} {c : Prop} [Decidable c] : OpQ (if c then some a else none) Q ↔ c ∧ Q a := by by_cases h : c <;> simp [h, OpQ]
@[simp] theorem OpQ_map {α β : Type} {o : Option α} {f : α → β} {Q : β → Prop} : OpQ (o.map f) Q ↔ OpQ o fun a => Q (f a) := by cases o <;> exact Iff.rfl
@[simp] theorem nmQ_some {h : HV} {Q : HV → Prop} : nmQ (some (some h)) Q ↔ Q h := Iff.rfl
@[simp] theorem jarQ_some {k : Nat} {Q : Nat → Prop} : jarQ (some (some (.jar k))) Q ↔ Q k := Iff.rfl
@[simp] theorem blQ_bl {b : Bool} {Q : Bool → Prop} : blQ (.val (.bl b)) Q ↔ Q b := Iff.rfl
@[simp] theorem intQ_int {b : Int} {Q : Int → Prop} : intQ (.val (.int b)) Q ↔ Q b := Iff.rfl
@[simp] theorem newQ_new {b : List D} {Q : List D → Prop} : newQ (.new b) Q ↔ Q b := Iff.rfl
section
variable {α β : Type} {X : XP} {Q : α → Jr → Prop} {QB : β → Jr → Prop} {J : Jr} {env : En} {f g k : EF} {c d : BF} {P : Po} {n : Nat} {a b : SF}
@[simp] theorem Ex_ok {x : α} : Ex X (.ok x J) Q ↔ Q x J := by simp only [Ex_eq, Sx_eq]; exact Iff.rfl
@[simp] theorem Ex_err {cl : Str} {fs : List (Str × D)} : Ex X (.err cl fs J : R α) Q ↔ X cl fs J := by simp only [Ex_eq, Sx_eq]; exact Iff.rfl
@[simp] theorem Ex_stuck : Ex X (.stuck : R α) Q ↔ False := by simp only [Ex_eq, Sx_eq]; exact Iff.rfl
@[simp] theorem Ex_bind {r : R α} {h : α → Jr → R β} : Ex X (r.bind h) QB ↔ Ex X r fun x J => Ex X (h x J) QB := by cases r <;> first | exact Iff.rfl | (simp only [Ex_eq, Sx_eq]; exact Iff.rfl)
theorem Ex.mono {r : R α} {Q' : α → Jr → Prop} (h : Ex X r Q) (m : ∀ x J, Q x J → Q' x J) : Ex X r Q' := by
  rw [Ex_eq] at h ⊢
  cases r with
  | ok x J => exact m _ _ h
  | err c fs J => exact h
  | stuck => exact h
@[simp] theorem Ex_name {i : Nat} {Q : HV → Jr → Prop} : Ex X (eName i env J) Q ↔ nmQ env[i]? fun h => Q h J := by
  unfold eName
  cases h : env[i]? with
  | none => first | exact Iff.rfl | (simp only [Ex_eq, Sx_eq]; exact Iff.rfl)
  | some o => cases o <;> first | exact Iff.rfl | (simp only [Ex_eq, Sx_eq]; exact Iff.rfl)
@[simp] theorem Ex_c {d : D} {Q : HV → Jr → Prop} : Ex X (eC d env J) Q ↔ Q (.val d) J := by simp only [Ex_eq, Sx_eq]; exact Iff.rfl
@[simp] theorem Ex_give {o : Option HV} {Q : HV → Jr → Prop} : Ex X (give J o) Q ↔ OpQ o fun z => Q z J := by cases o <;> first | exact Iff.rfl | (simp only [Ex_eq, Sx_eq]; exact Iff.rfl)
@[simp] theorem Ex_app1 {fo : F1} {h : HV} {Q : HV → Jr → Prop} : Ex X (app1 fo J h) Q ↔ OpQ (deref J h) fun d => OpQ (fo d) fun z => Q z J := by
  unfold app1
  cases e : deref J h with
  | none => first | exact Iff.rfl | (simp only [Ex_eq, Sx_eq]; exact Iff.rfl)
  | some d => exact Ex_give
@[simp] theorem Ex_app2 {fo : F2} {h h2 : HV} {Q : HV → Jr → Prop} : Ex X (app2 fo J h h2) Q ↔ OpQ (deref J h) fun d => OpQ (deref J h2) fun e => OpQ (fo d e) fun z => Q z J := by
  unfold app2
  cases e : deref J h with
  | none => first | exact Iff.rfl | (simp only [Ex_eq, Sx_eq]; exact Iff.rfl)
  | some d =>
    cases e' : deref J h2 with
    | none => first | exact Iff.rfl | (simp only [Ex_eq, Sx_eq]; exact Iff.rfl)
    | some d' => exact Ex_give
@[simp] theorem Ex_un {fo : F1} {Q : HV → Jr → Prop} : Ex X (eUn fo f env J) Q ↔ Ex X (f env J) fun h J => OpQ (deref J h) fun d => OpQ (fo d) fun z => Q z J := by
  unfold eUn
  simp only [Ex_bind, Ex_app1]
@[simp] theorem Ex_bin {fo : F2} {Q : HV → Jr → Prop} : Ex X (eBin fo f g env J) Q ↔ Ex X (f env J) fun h J => Ex X (g env J) fun h2 J => OpQ (deref J h) fun d => OpQ (deref J h2) fun e => OpQ (fo d e) fun z => Q z J := by
  unfold eBin
  simp only [Ex_bind, Ex_app2]
theorem Ex_iff {r : R α} {Q' : α → Jr → Prop} (h : ∀ x J, Q x J ↔ Q' x J) : Ex X r Q ↔ Ex X r Q' := by
  have : Q = Q' := funext fun x => funext fun J => propext (h x J)
  rw [this]
@[simp] theorem Ex_toB {r : R HV} {Q : Bool → Jr → Prop} : Ex X (toB r) Q ↔ Ex X r fun h J => blQ h fun b => Q b J := by
  unfold toB
  rw [Ex_bind]
  refine Ex_iff fun h J => ?_
  cases h with
  | val d => cases d <;> first | exact Iff.rfl | (simp only [Ex_eq, Sx_eq]; exact Iff.rfl)
  | jar k => first | exact Iff.rfl | (simp only [Ex_eq, Sx_eq]; exact Iff.rfl)
  | exc k => first | exact Iff.rfl | (simp only [Ex_eq, Sx_eq]; exact Iff.rfl)
  | new ds => first | exact Iff.rfl | (simp only [Ex_eq, Sx_eq]; exact Iff.rfl)
@[simp] theorem Ex_cmp {fo : F2} {Q : Bool → Jr → Prop} : Ex X (bCmp fo f g env J) Q ↔ Ex X (eBin fo f g env J) fun h J => blQ h fun b => Q b J := Ex_toB
@[simp] theorem Ex_truth {Q : Bool → Jr → Prop} : Ex X (bTruth f env J) Q ↔ Ex X (f env J) fun h J => OpQ (deref J h) fun d => OpQ (truth d) fun b => Q b J := by
  unfold bTruth
  rw [Ex_bind]
  refine Ex_iff fun x J => ?_
  cases e : deref J x with
  | none => first | exact Iff.rfl | (simp only [Ex_eq, Sx_eq]; exact Iff.rfl)
  | some d =>
    dsimp only [OpQ_some]
    cases e2 : truth d <;> simp [e2]
@[simp] theorem Ex_bnot {Q : Bool → Jr → Prop} : Ex X (bNot c env J) Q ↔ Ex X (c env J) fun b J => Q (!b) J := by
  unfold bNot
  simp only [Ex_bind, Ex_ok]
@[simp] theorem Ex_band {Q : Bool → Jr → Prop} : Ex X (bAnd c d env J) Q ↔ Ex X (c env J) fun b J => if b = true then Ex X (d env J) Q else Q false J := by
  unfold bAnd
  rw [Ex_bind]
  refine Ex_iff fun x J => ?_
  cases x <;> first | exact Iff.rfl | (simp only [Ex_eq, Sx_eq]; exact Iff.rfl)
@[simp] theorem Ex_bor {Q : Bool → Jr → Prop} : Ex X (bOr c d env J) Q ↔ Ex X (c env J) fun b J => if b = true then Q true J else Ex X (d env J) Q := by
  unfold bOr
  rw [Ex_bind]
  refine Ex_iff fun x J => ?_
  cases x <;> first | exact Iff.rfl | (simp only [Ex_eq, Sx_eq]; exact Iff.rfl)
@[simp] theorem Ex_not {Q : HV → Jr → Prop} : Ex X (eNot f env J) Q ↔ Ex X (f env J) fun h J => blQ h fun b => Q (.val (.bl (!b))) J := by
  unfold eNot
  rw [Ex_bind, Ex_toB]
  first | exact Iff.rfl | (simp only [Ex_eq, Sx_eq]; exact Iff.rfl)
@[simp] theorem Ex_and {Q : HV → Jr → Prop} : Ex X (eAnd f g env J) Q ↔ Ex X (f env J) fun h J => blQ h fun b => if b = true then Ex X (g env J) Q else Q (.val (.bl false)) J := by
  unfold eAnd
  rw [Ex_bind, Ex_toB]
  refine Ex_iff fun x J => ?_
  have : ∀ b : Bool, Ex X (if b = true then g env J else .ok (.val (.bl false)) J) Q ↔ if b = true then Ex X (g env J) Q else Q (.val (.bl false)) J := fun b => by cases b <;> first | exact Iff.rfl | (simp only [Ex_eq, Sx_eq]; exact Iff.rfl)
  simp only [this]
@[simp] theorem Ex_or {Q : HV → Jr → Prop} : Ex X (eOr f g env J) Q ↔ Ex X (f env J) fun h J => blQ h fun b => if b = true then Q (.val (.bl true)) J else Ex X (g env J) Q := by
  unfold eOr
  rw [Ex_bind, Ex_toB]
  refine Ex_iff fun x J => ?_
  have : ∀ b : Bool, Ex X (if b = true then .ok (.val (.bl true)) J else g env J) Q ↔ if b = true then Q (.val (.bl true)) J else Ex X (g env J) Q := fun b => by cases b <;> first | exact Iff.rfl | (simp only [Ex_eq, Sx_eq]; exact Iff.rfl)
  simp only [this]
@[simp] theorem Ex_if {Q : HV → Jr → Prop} : Ex X (eIf c f g env J) Q ↔ Ex X (c env J) fun b J => if b = true then Ex X (f env J) Q else Ex X (g env J) Q := by
  unfold eIf
  rw [Ex_bind]
  refine Ex_iff fun x J => ?_
  cases x <;> first | exact Iff.rfl | (simp only [Ex_eq, Sx_eq]; exact Iff.rfl)
@[simp] theorem Ex_norm {Q : HV → Jr → Prop} : Ex X (eNorm f env J) Q ↔ Ex X (f env J) fun h J => Q (norm h) J := by
  unfold eNorm
  simp only [Ex_bind, Ex_ok]
@[simp] theorem norm_val {d : D} : norm (.val d) = .val d := rfl
@[simp] theorem norm_exc {k : Nat} : norm (.exc k) = .exc k := rfl
@[simp] theorem norm_jar {k : Nat} : norm (.jar k) = .jar k := rfl
@[simp] theorem norm_new {ds : List D} : norm (.new ds) = .val (.lst ds) := rfl
@[simp] theorem deref_val {d : D} : deref J (.val d) = some d := rfl
@[simp] theorem deref_new {ds : List D} : deref J (.new ds) = some (.lst ds) := rfl
@[simp] theorem deref_exc {k : Nat} : deref J (.exc k) = none := rfl
@[simp] theorem deref_jar {k : Nat} : deref J (.jar k) = (J[k]?).map D.lst := rfl
@[simp] theorem toVal_val {d : D} : toVal (.val d) = some d := rfl
@[simp] theorem toVal_new {ds : List D} : toVal (.new ds) = some (.lst ds) := rfl
@[simp] theorem toVal_exc {k : Nat} : toVal (.exc k) = none := rfl
@[simp] theorem toVal_jar {k : Nat} : toVal (.jar k) = none := rfl
@[simp] theorem Ex_items0 {Q : List D → Jr → Prop} : Ex X (eItems [] env J) Q ↔ Q [] J := by simp only [Ex_eq, Sx_eq]; exact Iff.rfl
@[simp] theorem Ex_items1 {fs : List EF} {Q : List D → Jr → Prop} : Ex X (eItems (f :: fs) env J) Q ↔ Ex X (f env J) fun h J => OpQ (toVal h) fun d => Ex X (eItems fs env J) fun ds J => Q (d :: ds) J := by
  show Ex X ((f env J).bind _) Q ↔ _
  rw [Ex_bind]
  refine Ex_iff fun x J => ?_
  cases e : toVal x with
  | none => first | exact Iff.rfl | (simp only [Ex_eq, Sx_eq]; exact Iff.rfl)
  | some d =>
    show Ex X ((eItems fs env J).bind fun ds J2 => R.ok (d :: ds) J2) Q ↔ Ex X (eItems fs env J) fun ds J => Q (d :: ds) J
    simp only [Ex_bind, Ex_ok]
theorem Ex_ite {c : Prop} [Decidable c] {x : α} : Ex X (if c then .ok x J else .stuck) Q ↔ c ∧ Q x J := by by_cases h : c <;> simp [h]
@[simp] theorem Ex_tup {fs : List EF} {Q : HV → Jr → Prop} : Ex X (eTup fs env J) Q ↔ Ex X (eItems fs env J) fun ds J => ds.length ≤ big ∧ Q (.val (.tup ds)) J := by
  unfold eTup
  rw [Ex_bind]
  exact Ex_iff fun x J => Ex_ite
@[simp] theorem Ex_lst {fs : List EF} {Q : HV → Jr → Prop} : Ex X (eLst fs env J) Q ↔ Ex X (eItems fs env J) fun ds J => ds.length ≤ big ∧ Q (.new ds) J := by
  unfold eLst
  rw [Ex_bind]
  exact Ex_iff fun x J => Ex_ite
@[simp] theorem Ex_args0 {Q : List HV → Jr → Prop} : Ex X (eArgs [] env J) Q ↔ Q [] J := by simp only [Ex_eq, Sx_eq]; exact Iff.rfl
@[simp] theorem isExc_val {d : D} : isExc (.val d) = false := rfl
@[simp] theorem isExc_new {ds : List D} : isExc (.new ds) = false := rfl
@[simp] theorem isExc_jar {k : Nat} : isExc (.jar k) = false := rfl
@[simp] theorem Ex_args1 {fs : List EF} {Q : List HV → Jr → Prop} : Ex X (eArgs (f :: fs) env J) Q ↔ Ex X (f env J) fun h J => Ex X (eArgs fs env J) fun hs J => isExc h = false ∧ Q (norm h :: hs) J := by
  show Ex X ((f env J).bind _) Q ↔ _
  simp only [Ex_bind]
  refine Ex_iff fun h J => Ex_iff fun hs J => ?_
  cases isExc h <;> simp
@[simp] theorem Ex_call {F : FT} {fs : List EF} {Q : HV → Jr → Prop} : Ex X (eCall F fs env J) Q ↔ Ex X (eArgs fs env J) fun hs J => Ex X (F hs J) Q := Ex_bind
@[simp] theorem Ex_callK {F : FT} {ix : List Nat} {fs : List EF} {Q : HV → Jr → Prop} : Ex X (eCallK F ix fs env J) Q ↔ Ex X (eArgs fs env J) fun hs J => Ex X (F (permute ix hs) J) Q := Ex_bind
@[simp] theorem Ex_rep {Q : HV → Jr → Prop} : Ex X (eRep f g env J) Q ↔ Ex X (f env J) fun h J => Ex X (g env J) fun h2 J => Ex X (repEnd J h (deref J h2)) Q := by
  unfold eRep
  simp only [Ex_bind]
@[simp] theorem Ex_repEnd {ds : List D} {k : Int} {Q : HV → Jr → Prop} : Ex X (repEnd J (.new ds) (some (.int k))) Q ↔ repOk ds.length k = true ∧ Q (.new (List.replicate k.toNat ds).flatten) J := Ex_ite
@[simp] theorem Ex_part0 {Q : Option Int → Jr → Prop} : Ex X (partV none env J) Q ↔ Q none J := by simp only [Ex_eq, Sx_eq]; exact Iff.rfl
@[simp] theorem Ex_part1 {Q : Option Int → Jr → Prop} : Ex X (partV (some f) env J) Q ↔ Ex X (f env J) fun h J => intQ h fun i => Q (some i) J := by
  show Ex X ((f env J).bind _) Q ↔ _
  rw [Ex_bind]
  refine Ex_iff fun x J => ?_
  cases x with
  | val d => cases d <;> first | exact Iff.rfl | (simp only [Ex_eq, Sx_eq]; exact Iff.rfl)
  | jar k => first | exact Iff.rfl | (simp only [Ex_eq, Sx_eq]; exact Iff.rfl)
  | exc k => first | exact Iff.rfl | (simp only [Ex_eq, Sx_eq]; exact Iff.rfl)
  | new ds => first | exact Iff.rfl | (simp only [Ex_eq, Sx_eq]; exact Iff.rfl)
@[simp] theorem Ex_sl {lo hi : Option EF} {Q : HV → Jr → Prop} : Ex X (eSl f lo hi env J) Q ↔ Ex X (f env J) fun h J => Ex X (partV lo env J) fun l J => Ex X (partV hi env J) fun u J => OpQ (deref J h) fun d => OpQ (dSl d l u) fun z => Q z J := by
  unfold eSl
  simp only [Ex_bind]
  refine Ex_iff fun h J => Ex_iff fun l J => Ex_iff fun u J => ?_
  cases e : deref J h with
  | none => first | exact Iff.rfl | (simp only [Ex_eq, Sx_eq]; exact Iff.rfl)
  | some d => exact Ex_give
@[simp] theorem Ex_iAny {Q : List D → Jr → Prop} : Ex X (iAny f env J) Q ↔ Ex X (f env J) fun h J => OpQ (itemsOf h) fun ds => Q ds J := by
  unfold iAny
  rw [Ex_bind]
  refine Ex_iff fun x J => ?_
  cases e : itemsOf x <;> first | exact Iff.rfl | (simp only [Ex_eq, Sx_eq]; exact Iff.rfl)
@[simp] theorem Ex_iEnum {Q : List D → Jr → Prop} : Ex X (iEnumD f env J) Q ↔ Ex X (f env J) fun h J => OpQ (itemsOf h) fun ds => Q (pairUp 0 ds) J := by
  unfold iEnumD
  rw [Ex_bind]
  refine Ex_iff fun x J => ?_
  cases e : itemsOf x <;> first | exact Iff.rfl | (simp only [Ex_eq, Sx_eq]; exact Iff.rfl)
@[simp] theorem Ex_range1 {Q : List D → Jr → Prop} : Ex X (iRange1 f env J) Q ↔ Ex X (f env J) fun h J => intQ h fun n => rgOk n = true ∧ Q (rgD 0 n.toNat) J := by
  unfold iRange1
  rw [Ex_bind]
  refine Ex_iff fun x J => ?_
  cases x with
  | val d =>
    cases d with
    | int n => exact Ex_ite
    | _ => first | exact Iff.rfl | (simp only [Ex_eq, Sx_eq]; exact Iff.rfl)
  | _ => first | exact Iff.rfl | (simp only [Ex_eq, Sx_eq]; exact Iff.rfl)
@[simp] theorem Ex_range2 {Q : List D → Jr → Prop} : Ex X (iRange2 f g env J) Q ↔ Ex X (f env J) fun h J => Ex X (g env J) fun h2 J => intQ h fun m => intQ h2 fun n => (rgOk m && rgOk n) = true ∧ Q (rgD m (n - m).toNat) J := by
  unfold iRange2
  simp only [Ex_bind]
  refine Ex_iff fun x J => Ex_iff fun y J => ?_
  cases x with
  | val d =>
    cases d with
    | int m =>
      cases y with
      | val d =>
        cases d with
        | int n => exact Ex_ite
        | _ => first | exact Iff.rfl | (simp only [Ex_eq, Sx_eq]; exact Iff.rfl)
      | _ => first | exact Iff.rfl | (simp only [Ex_eq, Sx_eq]; exact Iff.rfl)
    | _ => first | exact Iff.rfl | (simp only [Ex_eq, Sx_eq]; exact Iff.rfl)
  | _ => first | exact Iff.rfl | (simp only [Ex_eq, Sx_eq]; exact Iff.rfl)
@[simp] theorem Ex_rg {mk : List D → HV} {it : IF} {Q : HV → Jr → Prop} : Ex X (eRg mk it env J) Q ↔ Ex X (it env J) fun ds J => ds.length ≤ 16777216 ∧ Q (mk ds) J := by
  unfold eRg
  rw [Ex_bind]
  exact Ex_iff fun x J => Ex_ite
@[simp] theorem items_lst {ds : List D} : itemsOf (.val (.lst ds)) = some ds := rfl
@[simp] theorem items_tup {ds : List D} : itemsOf (.val (.tup ds)) = some ds := rfl
@[simp] theorem items_new {ds : List D} : itemsOf (.new ds) = some ds := rfl
@[simp] theorem items_str {z : Str} : itemsOf (.val (.str z)) = some (chars z) := rfl

/-! statements -/
@[simp] theorem Sx_nx : Sx P (.nx env J) ↔ P.nx env J := by simp only [Ex_eq, Sx_eq]; exact Iff.rfl
@[simp] theorem Sx_rt {h : HV} : Sx P (.rt h J) ↔ P.rt h J := by simp only [Ex_eq, Sx_eq]; exact Iff.rfl
@[simp] theorem Sx_bk : Sx P (.bk env J) ↔ P.bk env J := by simp only [Ex_eq, Sx_eq]; exact Iff.rfl
@[simp] theorem Sx_ct : Sx P (.ct env J) ↔ P.ct env J := by simp only [Ex_eq, Sx_eq]; exact Iff.rfl
@[simp] theorem Sx_stuck : Sx P .stuck ↔ False := by simp only [Ex_eq, Sx_eq]; exact Iff.rfl
@[simp] theorem Sx_err {cl : Str} {fs : List (Str × D)} : Sx P (.err cl fs env J) ↔ P.er cl fs env J := by simp only [Ex_eq, Sx_eq]; exact Iff.rfl
@[simp] theorem Sx_on {r : R α} {h : α → Jr → RS} : Sx P (onS env r h) ↔ Ex (fun c fs J => P.er c fs env J) r fun x J => Sx P (h x J) := by cases r <;> first | exact Iff.rfl | (simp only [Ex_eq, Sx_eq]; exact Iff.rfl)
@[simp] theorem Sx_seq : Sx P (sSeq a b n env J) ↔ Sx { P with nx := fun e J => Sx P (b n e J) } (a n env J) := by
  unfold sSeq
  cases a n env J <;> first | exact Iff.rfl | (simp only [Ex_eq, Sx_eq]; exact Iff.rfl)
@[simp] theorem Sx_next : Sx P (sNext n env J) ↔ P.nx env J := by simp only [Ex_eq, Sx_eq]; exact Iff.rfl
@[simp] theorem Sx_break : Sx P (sBreak n env J) ↔ P.bk env J := by simp only [Ex_eq, Sx_eq]; exact Iff.rfl
@[simp] theorem Sx_cont : Sx P (sCont n env J) ↔ P.ct env J := by simp only [Ex_eq, Sx_eq]; exact Iff.rfl
@[simp] theorem Sx_expr : Sx P (sExpr f n env J) ↔ Ex (fun c fs J => P.er c fs env J) (f env J) fun _ J => P.nx env J := by
  unfold sExpr
  simp only [Sx_on, Sx_nx]
@[simp] theorem Sx_ret : Sx P (sRet f n env J) ↔ Ex (fun c fs J => P.er c fs env J) (f env J) fun h J => P.rt h J := by
  unfold sRet
  simp only [Sx_on, Sx_rt]
@[simp] theorem Sx_retN : Sx P (sRetN n env J) ↔ P.rt (.val .non) J := by simp only [Ex_eq, Sx_eq]; exact Iff.rfl
@[simp] theorem Sx_set {i : Nat} : Sx P (sSet i f n env J) ↔ Ex (fun c fs J => P.er c fs env J) (f env J) fun h J => P.nx (env.set i (some (norm h))) J := by
  unfold sSet
  simp only [Sx_on, Sx_nx]
theorem Sx_ite {c : Prop} [Decidable c] : Sx P (if c then .nx env J else .stuck) ↔ c ∧ P.nx env J := by by_cases h : c <;> simp [h]
@[simp] theorem Sx_new {i : Nat} : Sx P (sNew i f n env J) ↔ Ex (fun c fs J => P.er c fs env J) (f env J) fun h J => newQ h fun ds => n ≤ J.length ∧ P.nx (env.set i (some (.jar J.length))) (J ++ [ds]) := by
  unfold sNew
  rw [Sx_on]
  refine Ex_iff fun x J => ?_
  cases x with
  | val d => first | exact Iff.rfl | (simp only [Ex_eq, Sx_eq]; exact Iff.rfl)
  | jar k => first | exact Iff.rfl | (simp only [Ex_eq, Sx_eq]; exact Iff.rfl)
  | exc k => first | exact Iff.rfl | (simp only [Ex_eq, Sx_eq]; exact Iff.rfl)
  | new ds => exact Sx_ite
@[simp] theorem Sx_asg {t : TF} : Sx P (sAsg t f n env J) ↔ Ex (fun c fs J => P.er c fs env J) (f env J) fun h J => OpQ (toVal h) fun d => OpQ (t d env) fun e1 => P.nx e1 J := by
  unfold sAsg
  rw [Sx_on]
  refine Ex_iff fun x J => ?_
  cases e : toVal x with
  | none => first | exact Iff.rfl | (simp only [Ex_eq, Sx_eq]; exact Iff.rfl)
  | some d =>
    show Sx P (match t d env with | some e1 => .nx e1 J | none => .stuck) ↔ OpQ (t d env) fun e1 => P.nx e1 J
    cases e2 : t d env <;> first | exact Iff.rfl | (simp only [Ex_eq, Sx_eq]; exact Iff.rfl)
@[simp] theorem Sx_if : Sx P (sIf c a b n env J) ↔ Ex (fun c fs J => P.er c fs env J) (c env J) fun k J => if k = true then Sx P (a n env J) else Sx P (b n env J) := by
  unfold sIf
  rw [Sx_on]
  refine Ex_iff fun x J => ?_
  cases x <;> first | exact Iff.rfl | (simp only [Ex_eq, Sx_eq]; exact Iff.rfl)
theorem Sx_for {it : IF} {t : TF} : Sx P (sFor it t a n env J) ↔ Ex (fun c fs J => P.er c fs env J) (it env J) fun ds J => Sx P (loopD t a n ds env J) := Sx_on
@[simp] theorem Sx_app {i : Nat} : Sx P (sApp i f n env J) ↔ jarQ env[i]? fun k => Ex (fun c fs J => P.er c fs env J) (f env J) fun h J => OpQ (toVal h) fun d => OpQ J[k]? fun ds => ds.length < big ∧ P.nx env (J.set k (ds ++ [d])) := by
  unfold sApp
  cases e : env[i]? with
  | none => first | exact Iff.rfl | (simp only [Ex_eq, Sx_eq]; exact Iff.rfl)
  | some o =>
    cases o with
    | none => first | exact Iff.rfl | (simp only [Ex_eq, Sx_eq]; exact Iff.rfl)
    | some z =>
      cases z with
      | val d => first | exact Iff.rfl | (simp only [Ex_eq, Sx_eq]; exact Iff.rfl)
      | new d => first | exact Iff.rfl | (simp only [Ex_eq, Sx_eq]; exact Iff.rfl)
      | exc k => first | exact Iff.rfl | (simp only [Ex_eq, Sx_eq]; exact Iff.rfl)
      | jar k =>
        rw [Sx_on]
        refine Ex_iff fun x J => ?_
        cases e1 : toVal x with
        | none => first | exact Iff.rfl | (simp only [Ex_eq, Sx_eq]; exact Iff.rfl)
        | some d =>
          unfold appEnd
          dsimp only [OpQ_some]
          cases e2 : J[k]? with
          | none => first | exact Iff.rfl | (simp only [Ex_eq, Sx_eq]; exact Iff.rfl)
          | some ds => exact Sx_ite
@[simp] theorem Sx_setI {i : Nat} {ix : EF} : Sx P (sSetI i ix f n env J) ↔ jarQ env[i]? fun k => Ex (fun c fs J => P.er c fs env J) (f env J) fun h J => Ex (fun c fs J => P.er c fs env J) (ix env J) fun hj J =>
    OpQ (toVal h) fun d => intQ hj fun j => OpQ J[k]? fun ds => OpQ (ixN ds.length j) fun m => P.nx env (J.set k (ds.set m d)) := by
  unfold sSetI
  cases e : env[i]? with
  | none => first | exact Iff.rfl | (simp only [Ex_eq, Sx_eq]; exact Iff.rfl)
  | some o =>
    cases o with
    | none => first | exact Iff.rfl | (simp only [Ex_eq, Sx_eq]; exact Iff.rfl)
    | some z =>
      cases z with
      | val d => first | exact Iff.rfl | (simp only [Ex_eq, Sx_eq]; exact Iff.rfl)
      | new d => first | exact Iff.rfl | (simp only [Ex_eq, Sx_eq]; exact Iff.rfl)
      | exc k => first | exact Iff.rfl | (simp only [Ex_eq, Sx_eq]; exact Iff.rfl)
      | jar k =>
        dsimp only
        simp only [Sx_on]
        refine Ex_iff fun x J => Ex_iff fun y J => ?_
        cases e1 : toVal x with
        | none => first | exact Iff.rfl | (simp only [Ex_eq, Sx_eq]; exact Iff.rfl)
        | some d =>
          cases y with
          | jar _ => first | exact Iff.rfl | (simp only [Ex_eq, Sx_eq]; exact Iff.rfl)
          | exc _ => first | exact Iff.rfl | (simp only [Ex_eq, Sx_eq]; exact Iff.rfl)
          | new _ => first | exact Iff.rfl | (simp only [Ex_eq, Sx_eq]; exact Iff.rfl)
          | val dj =>
            cases dj with
            | int j =>
              show Sx P (match J[k]? with
                | some ds => (match ixN ds.length j with | some m => .nx env (J.set k (ds.set m d)) | none => .stuck)
                | none => .stuck) ↔ OpQ J[k]? fun ds => OpQ (ixN ds.length j) fun m => P.nx env (J.set k (ds.set m d))
              cases e2 : J[k]? with
              | none => first | exact Iff.rfl | (simp only [Ex_eq, Sx_eq]; exact Iff.rfl)
              | some ds =>
                show Sx P (match ixN ds.length j with | some m => .nx env (J.set k (ds.set m d)) | none => .stuck) ↔ OpQ (ixN ds.length j) fun m => P.nx env (J.set k (ds.set m d))
                cases e3 : ixN ds.length j <;> first | exact Iff.rfl | (simp only [Ex_eq, Sx_eq]; exact Iff.rfl)
            | _ => first | exact Iff.rfl | (simp only [Ex_eq, Sx_eq]; exact Iff.rfl)
theorem Sx.mono {r : RS} {P' : Po} (h : Sx P r) (m1 : ∀ e J, P.nx e J → P'.nx e J) (m2 : ∀ h J, P.rt h J → P'.rt h J) (m3 : ∀ e J, P.bk e J → P'.bk e J) (m4 : ∀ e J, P.ct e J → P'.ct e J) (m5 : ∀ c fs e J, P.er c fs e J → P'.er c fs e J) : Sx P' r := by
  rw [Sx_eq] at h ⊢
  cases r with
  | nx e J => exact m1 _ _ h
  | rt h' J => exact m2 _ _ h
  | bk e J => exact m3 _ _ h
  | ct e J => exact m4 _ _ h
  | err c fs e J => exact m5 _ _ _ _ h
  | stuck => exact h
/-- a loop, by an invariant -/
theorem Sx_loop {t : TF} {ds : List D} (I : Nat → En → Jr → Prop) (h0 : I 0 env J)
    (hs : ∀ i d env J, ds[i]? = some d → I i env J → OpQ (t d env) fun e1 => Sx { nx := I (i + 1), rt := P.rt, bk := P.nx, ct := I (i + 1), er := P.er } (a n e1 J)) (hd : ∀ env J, I ds.length env J → P.nx env J) : Sx P (loopD t a n ds env J) := by
  induction ds generalizing env J I with
  | nil => exact Sx_nx.mpr (hd _ _ h0)
  | cons d ds ih =>
    have h2 := hs 0 d env J rfl h0
    unfold loopD
    cases ht : t d env with
    | none => rw [ht] at h2; exact h2.elim
    | some e1 =>
    rw [ht] at h2
    have h2 : Sx { nx := I 1, rt := P.rt, bk := P.nx, ct := I 1, er := P.er } (a n e1 J) := h2
    dsimp only
    cases r : a n e1 J with
    | nx e J2 => rw [r] at h2; exact ih (fun i => I (i + 1)) (Sx_nx.mp h2) (fun i d env J e => hs (i + 1) d env J e) hd
    | ct e J2 => rw [r] at h2; exact ih (fun i => I (i + 1)) (Sx_ct.mp h2) (fun i d env J e => hs (i + 1) d env J e) hd
    | bk e J2 => rw [r] at h2; exact Sx_nx.mpr (Sx_bk.mp h2)
    | rt h J2 => rw [r] at h2; exact ⟨h2.out⟩
    | err c fs e J2 => rw [r] at h2; exact ⟨h2.out⟩
    | stuck => rw [r] at h2; exact (Sx_stuck.mp h2).elim
/-- a comprehension, by an invariant -/
theorem Ex_lcX {it : IF} {t : TF} {own : List Nat} {Q : HV → Jr → Prop} (h : Ex X (it env J) fun ds J => Ex nX (lcLoop t c f (wipeE env own) ds [] J) Q) : Ex X (eLc it t c f own env J) Q := by
  unfold eLc
  rw [Ex_bind]
  refine h.mono fun x J z => ?_
  cases e : lcLoop t c f (wipeE env own) x [] J with
  | ok a J => rw [e] at z; exact ⟨z.out⟩
  | err c fs J => rw [e] at z; exact z.out.elim
  | stuck => rw [e] at z; exact z.out.elim
theorem Ex_lcLoop {t : TF} {ds : List D} {Q : HV → Jr → Prop} {acc : List D} (I : Nat → List D → Jr → Prop) (h0 : I 0 acc J)
    (hs : ∀ i d acc J, ds[i]? = some d → I i acc J → OpQ (t d env) fun e1 => Ex X (c e1 J) fun b J => if b = true then Ex X (f e1 J) fun h J => OpQ (toVal h) fun y => acc.length < big ∧ I (i + 1) (acc ++ [y]) J else I (i + 1) acc J) (hd : ∀ acc J, I ds.length acc J → Q (.new acc) J) : Ex X (lcLoop t c f env ds acc J) Q := by
  induction ds generalizing acc J I with
  | nil => exact Ex_ok.mpr (hd _ _ h0)
  | cons d ds ih =>
    have h2 := hs 0 d acc J rfl h0
    unfold lcLoop
    cases ht : t d env with
    | none => rw [ht] at h2; exact h2.elim
    | some e1 =>
    rw [ht] at h2
    have h2 : Ex X (c e1 J) fun b J => if b = true then Ex X (f e1 J) fun h J => OpQ (toVal h) fun y => acc.length < big ∧ I 1 (acc ++ [y]) J else I 1 acc J := h2
    dsimp only
    rw [Ex_bind]
    refine h2.mono fun b J h2 => ?_
    cases b with
    | false => exact ih (fun i => I (i + 1)) (by simpa using h2) (fun i d acc J e => hs (i + 1) d acc J e) hd
    | true =>
      rw [if_pos rfl] at h2 ⊢
      rw [Ex_bind]
      refine h2.mono fun h J q => ?_
      cases e : toVal h with
      | none => rw [e] at q; exact q.elim
      | some y =>
      rw [e] at q
      obtain ⟨hb, q⟩ := q
      dsimp only
      rw [if_pos hb]
      exact ih (fun i => I (i + 1)) q (fun i d acc J e => hs (i + 1) d acc J e) hd
/-- a def -/
def dfX (X : XP) (m : Nat) (Q : HV → Jr → Prop) : Po where
  nx := fun _ J1 => m ≤ J1.length ∧ Q (.val .non) (J1.take m)
  rt := fun h J1 => m ≤ J1.length ∧ Ex X (outH m J1 h) Q
  bk := fun _ _ => False
  ct := fun _ _ => False
  er := fun c fs _ J1 => m ≤ J1.length ∧ X c fs (J1.take m)
theorem Ex_mkF {m : Nat} {hs : List HV} {Q : HV → Jr → Prop} : Ex X (mkF m a hs J) Q ↔ Sx (dfX X J.length Q) (a J.length (startE m hs) J) := by
  unfold mkF
  cases r : a J.length (startE m hs) J with
  | nx e J1 =>
    rw [Sx_nx]
    show Ex X (if J.length ≤ J1.length then .ok (.val .non) (J1.take J.length) else .stuck) Q ↔ (J.length ≤ J1.length ∧ _)
    by_cases hc : J.length ≤ J1.length
    · rw [if_pos hc]; exact ⟨fun z => ⟨hc, by first | exact z | exact z.out⟩, fun z => by first | exact z.2 | exact ⟨z.2⟩⟩
    · rw [if_neg hc]; exact ⟨fun z => z.out.elim, fun z => (hc z.1).elim⟩
  | rt h J1 =>
    rw [Sx_rt]
    show Ex X (if J.length ≤ J1.length then outH J.length J1 h else .stuck) Q ↔ (J.length ≤ J1.length ∧ _)
    by_cases hc : J.length ≤ J1.length
    · rw [if_pos hc]; exact ⟨fun z => ⟨hc, by first | exact z | exact z.out⟩, fun z => by first | exact z.2 | exact ⟨z.2⟩⟩
    · rw [if_neg hc]; exact ⟨fun z => z.out.elim, fun z => (hc z.1).elim⟩
  | bk e J1 => first | exact Iff.rfl | (simp only [Ex_eq, Sx_eq]; exact Iff.rfl)
  | ct e J1 => first | exact Iff.rfl | (simp only [Ex_eq, Sx_eq]; exact Iff.rfl)
  | err c fs e J1 =>
    rw [Sx_err]
    show Ex X (if J.length ≤ J1.length then .err c fs (J1.take J.length) else .stuck) Q ↔ (J.length ≤ J1.length ∧ _)
    by_cases hc : J.length ≤ J1.length
    · rw [if_pos hc]; exact ⟨fun z => ⟨hc, by first | exact z | exact z.out⟩, fun z => by first | exact z.2 | exact ⟨z.2⟩⟩
    · rw [if_neg hc]; exact ⟨fun z => z.out.elim, fun z => (hc z.1).elim⟩
  | stuck => first | exact Iff.rfl | (simp only [Ex_eq, Sx_eq]; exact Iff.rfl)
@[simp] theorem dfX_rt {m : Nat} {Q : HV → Jr → Prop} {h : HV} : (dfX X m Q).rt h J = (m ≤ J.length ∧ Ex X (outH m J h) Q) := rfl
@[simp] theorem dfX_nx {m : Nat} {Q : HV → Jr → Prop} : (dfX X m Q).nx env J = (m ≤ J.length ∧ Q (.val .non) (J.take m)) := rfl
@[simp] theorem dfX_er {m : Nat} {Q : HV → Jr → Prop} {cl : Str} {fs : List (Str × D)} : (dfX X m Q).er cl fs env J = (m ≤ J.length ∧ X cl fs (J.take m)) := rfl
@[simp] theorem outH_val {m : Nat} {d : D} : outH m J (.val d) = .ok (.val d) (J.take m) := rfl
@[simp] theorem outH_new {m : Nat} {ds : List D} : outH m J (.new ds) = .ok (.new ds) (J.take m) := rfl
theorem outH_jar {m k : Nat} {ds : List D} (h1 : m ≤ k) (h2 : J[k]? = some ds) : outH m J (.jar k) = .ok (.new ds) (J.take m) := by
  have : ¬ k < m := by omega
  simp [outH, this, h2]
end
end L2.Pz
set_option Elab.async false
set_option linter.all false
set_option maxRecDepth 100000
set_option maxHeartbeats 4000000
set_option autoImplicit false
namespace L2.Pz
open PySem
theorem log2_lt' {n k : Nat} (h : n < 2 ^ k) (hk : 0 < k) : n.log2 < k := by
  by_cases h0 : n = 0
  · subst h0; simpa using hk
  · exact (Nat.log2_lt h0).mpr h
theorem rgD_len {lo : Int} {n : Nat} : (rgD lo n).length = n := by unfold rgD; simp
theorem rgD_get {lo : Int} {n i : Nat} {d : D} (h : (rgD lo n)[i]? = some d) : d = .int (lo + (i : Nat)) ∧ i < n := by
  unfold rgD at h
  rw [List.getElem?_map] at h
  by_cases hi : i < n
  · rw [List.getElem?_range hi] at h
    simp at h
    exact ⟨h.symm, hi⟩
  · rw [List.getElem?_eq_none (by simpa using hi)] at h
    cases h
theorem sIx_to {n : Nat} {i : Int} (h0 : 0 ≤ i) : HT.sIx n n (some i) = min i.toNat n := by
  obtain ⟨k, rfl⟩ := Int.eq_ofNat_of_zero_le h0
  exact HT.sIx_nat n n k
theorem sIx_from {n d : Nat} {i : Int} (h0 : 0 ≤ i) : HT.sIx n d (some i) = min i.toNat n := by
  obtain ⟨k, rfl⟩ := Int.eq_ofNat_of_zero_le h0
  exact HT.sIx_nat n d k
theorem cutD_to {ds : List D} {i : Int} (h0 : 0 ≤ i) : cutD ds none (some i) = ds.take i.toNat := by
  unfold cutD
  rw [HT.sIx_none, sIx_to h0, List.drop_zero, Nat.sub_zero]
  by_cases h : i.toNat ≤ ds.length
  · rw [Nat.min_eq_left h]
  · rw [Nat.min_eq_right (by omega), List.take_length, List.take_of_length_le (by omega)]
theorem cutD_from {ds : List D} {i : Int} (h0 : 0 ≤ i) : cutD ds (some i) none = ds.drop i.toNat := by
  unfold cutD
  rw [HT.sIx_none, sIx_from h0]
  by_cases h : i.toNat ≤ ds.length
  · rw [Nat.min_eq_left h, List.take_of_length_le (by rw [List.length_drop]; exact Nat.le_refl _)]
  · rw [Nat.min_eq_right (by omega), Nat.sub_self, List.take_zero, List.drop_of_length_le (by omega)]
theorem atI_in {α : Type} {xs : List α} {i : Int} (h0 : 0 ≤ i) (h1 : i < xs.length) : atI xs i = some (xs[i.toNat]'(by omega)) := by
  obtain ⟨k, rfl⟩ := Int.eq_ofNat_of_zero_le h0
  have hk : k < xs.length := by omega
  exact atI_nat (by simp)
theorem ixN_in {n : Nat} {i : Int} (h0 : 0 ≤ i) (h1 : i < n) : ixN n i = some i.toNat := by
  unfold ixN
  rw [if_pos h0, if_pos h1]
theorem shp_int {i : Int} : shp (.int i) = true := rfl
theorem shp_str {x : Str} : shp (.str x) = PyData.strOk x := by
  unfold shp toPy SeqAt.shaped PyData.canLay0 PyData.depth
  simp
@[simp] theorem dEq_int {i j : Int} : dEq (.int i) (.int j) = some (.val (.bl (i == j))) := by
  unfold dEq
  rw [shp_int, shp_int]
  rfl
@[simp] theorem dNe_int {i j : Int} : dNe (.int i) (.int j) = some (.val (.bl (!(i == j)))) := by
  unfold dNe
  rw [shp_int, shp_int]
  rfl
theorem dEq_str {x y : Str} (hx : PyData.strOk x = true) (hy : PyData.strOk y = true) : dEq (.str x) (.str y) = some (.val (.bl (x == y))) := by
  unfold dEq
  rw [shp_str, shp_str, hx, hy]
  rfl
section
variable {jc : List D} {T : Jr} {x y z : List D}
@[simp] theorem cell_get1 : (jc :: (T ++ [x]))[T.length + 1]? = some x := by simp
@[simp] theorem cell_set1 : (jc :: (T ++ [x])).set (T.length + 1) y = jc :: (T ++ [y]) := by simp
end
end L2.Pz
set_option Elab.async false
set_option linter.all false
set_option maxRecDepth 100000
set_option maxHeartbeats 4000000
set_option autoImplicit false
/-! own exceptions whose __init__ says super().__init__(..) and keeps its arguments -/
namespace PySem
namespace SxX
open PySem.W PySem.Calls PyProof.Rows PySem.HandSPX
/-- what the written part says of the class at C and of its __init__ at fI, whose cell of __class__ is at cc, whose code at cda -/
structure SxC (P : Program) (K : Frag) (mg : Str → Option Value) (x : Str) (C fI : Addr) (ns : List Str) : Prop where
  gC : mg x = some (.ref C)
  cls : ∃ nm q N bs bm sn sub ab col dd k0 k1 k2 k3 k5, K.lookup C = some (excClassObj nm q C N bs bm true sn sub ab col dd k0 k1 k2 k3 k5 "ValueError.__new__") ∧ refsVE bm = true
  sa : findIn K (.ref C) "__setattr__" = some (some (.builtin "object.__setattr__"))
  noN : ∀ n ∈ ns, findIn K (.ref C) n = some none
  iC : findIn K (.ref C) "__init__" = some (some (.ref fI))
  tI : typeIn K (.ref fI) = some (.type "function")
  kC : keepIn K (.ref C) = true
  exC : subIn K (.ref C) (.type "BaseException") = some true
  veC : subIn K (.ref C) (.type "ValueError") = some true
  tyC : typeIn K (.ref C) = some (.type "type")
  sup : ks_superIn K C C "__init__" = some (some (.builtin "ValueError.__init__"))
  own : mroIn K C (.ref C) = some true
  opq : nsIn K cStatics "thirdparty.any" = some none
  gS : mg "super" = none
  top : (P.main.scope.names.lookup ("super" : Str)).isSome = false
theorem one_size (v : Value) : [v].length ≤ sizeLine := by
  rw [sizeLine_eq]
  exact (by decide : 1 ≤ 16777216)
theorem two_size (v u : Value) : [v, u].length ≤ sizeLine := by
  rw [sizeLine_eq]
  exact (by decide : 2 ≤ 16777216)
section
variable {prog : Program} {w : World} {A : Around} {E : Value → Shared → Prop} {h : Heap} {g : Array GenState} {d : Drawn} {t : Nat} {os : OsState} {K : Frag}
/-- super().__init__(..) bound: called -/
theorem call_mw {C e t0 u : Addr} {rest : List Value} {Q : Value → Shared → Prop}
    (hC : ∃ nm q N bs bm sn sub ab col dd k0 k1 k2 k3 k5, K.lookup C = some (excClassObj nm q C N bs bm true sn sub ab col dd k0 k1 k2 k3 k5 "ValueError.__new__") ∧ refsVE bm = true) (X : K.In h)
    (he : h.get? e = some (excO C t0)) (hu : h.get? u = some (kxs_mw "ValueError.__init__" e)) (hrest : rest.length ≤ sizeLine)
    (hq : ∀ h' t1, (∀ b o, b ≠ e → h.get? b = some o → h'.get? b = some o) → h'.get? e = some (excO C t1) → Q .none ⟨h', g, d, t, os⟩) :
    wpAny (model prog w) A (call (.ref u) rest) Q E ⟨h, g, d, t, os⟩ := by
  obtain ⟨nm, q, N, bs, bm, sn, sub, ab, col, dd, k0, k1, k2, k3, k5, hC, hbm⟩ := hC
  have hC := X _ _ hC
  have FB := F.excBase_ValueError
  refine wpAny_call (codeAny_of_tree ?_)
  show wpAny _ A.in1 (callAny (.ref u) ⟨rest, []⟩) _ _ _
  simp only [callAny]
  refine wpAny_bind (wpAny_load hu ?_)
  simp only [kxs_mw, show (Value.type "method-wrapper" == Value.type "method" || Value.type "method-wrapper" == Value.type "builtin_function_or_method" || Value.type "method-wrapper" == Value.type "method-wrapper") = true by decide, if_true]
  refine KFB.if_so (by decide) ?_
  refine wpAny_bind (check_bound_init FB.toExcCallFacts hC he rfl ?_)
  refine wpAny_bind (wpAny_pure (wpAny_pure ?_))
  refine ⟨plainId_quiet FB.init.plain _, codeAny_builtin FB.initEntry ?_⟩
  rw [Around.under_plainId FB.init.plain _]
  wp_walk
  refine hq _ h.objs.size (fun b o hb ho => ?_) ?_
  · rw [Heap.get?_update_other _ _ (Ne.symm hb)]
    exact Heap.get?_push_of_some _ ho
  · rw [Heap.get?_update_self _ (Heap.get?_push_of_some _ he) rfl]
    rfl
end
section
variable {prog : Program} {w : World} {A : Around} {R : Result → Shared → Prop} {s : Shared} {K : Frag} {mg : Str → Option Value}
structure InitEnd (h h' : Heap) (x C dx : Addr) (m : Str → Option Value) : Prop where
  keep : ∀ b o, b ≠ x → h.get? b = some o → h'.get? b = some o
  obj : ∃ t1 : Addr, h'.get? x = some { cls := .ref C, dict := some dx, data := .fields #[.ref t1, .none, .none, .none, .bool false, .none] }
  dbig : h.objs.size ≤ dx
  dne : dx ≠ x
  ns : h'.Ns1 dx m
/-- a made exception -/
structure OwnMade (h h' : Heap) (e C d : Addr) (m : Str → Option Value) : Prop where
  keep : ∀ b o, h.get? b = some o → h'.get? b = some o
  new : h.objs.size ≤ e
  obj : ∃ oe vs, h'.get? e = some oe ∧ oe.cls = .ref C ∧ oe.dict = some d ∧ oe.data = .fields vs ∧ vs[1]? = some .none
  dbig : h.objs.size ≤ d
  dne : d ≠ e
  ns : h'.Ns1 d m
theorem ldE {M : Model} {env : Env} {E : Value → Shared → Prop} {m : Str → Option Value} {x : Str} {pos : Pos} {v : Value} {Q : Value → Shared → Prop} (hn : s.heap.Ns env.locals m) (hv : m x = some v) (h : Q v s)
    (hk : env.scope.kind = .function) (hl : env.kindOf x = some .local) (hd : (x == ("__debug__" : Str)) = false) : wpAny M A (eval (.Name x pos) env) Q E s := wpAny_Name (wpAny_loadName_local hk hl hn hv h) hd
theorem in_but {h h' : Heap} {x : Addr} (X : K.In h) (hx : K.lookup x = none) (k : ∀ b o, b ≠ x → h.get? b = some o → h'.get? b = some o) : K.In h' := fun a o z =>
  k a o (fun y => by rw [y, hx] at z; cases z) (X a o z)
theorem cw1 {M : Model} {E : Value → Shared → Prop} {pos : Pos} {env : Env} {a : Expr} {rest : List Expr} {u x : Addr} {i : String} {Q : Value → Shared → Prop}
    (h : wpAny M A (spliced (backTo pos (starEach (a :: rest) env))) (fun vs s₁ => KxsAt i u x s₁.heap ∧ wpAny M A (call (.ref u) vs) Q E s₁) E s)
    (he : starEach (a :: rest) env = (false, eval a env) :: starEach rest env) (hplain : (backTo pos (starEach rest env)).any (·.1) = false) :
    wpAny M A (callWith pos (.ref u) [] (backTo pos (starEach (a :: rest) env)) []) Q E s := by
  rw [he] at h ⊢
  refine kxs_callWith (i := i) (x := x) (by show (false || (backTo pos (starEach rest env)).any (·.1)) = false; rw [hplain]; rfl) ?_
  exact evalArgs_plain h
theorem mc_eq {o : Expr} {name : Str} {apos pos : Pos} {args : List Expr} {env : Env} (hp : (apos.endLine == pos.line) = true) (hf : methodCallForm (args.length + 0) (backTo pos (starEach args env)) [] = true) :
    eval (.Call (.Attribute o name apos) args [] pos) env = (do
      let ov ← attributeBase o name env (eval o env)
      standAt apos.atName
      let (f, first) ← holding [ov] (getMethod ov name (do return (← importBound o env).getD true))
      callWith pos f first (backTo pos (starEach args env)) []) := by
  show (do
    let ov ← attributeBase o name env (eval o env)
    standAt apos.atName
    methodCall o name apos pos env ov (args.length + 0) (backTo pos (starEach args env)) []) = _
  have hm : methodCallPos (methodCallForm (args.length + 0) (backTo pos (starEach args env)) []) o env apos pos = pure pos := by
    unfold methodCallPos
    rw [if_pos (by rw [hp, Bool.or_true])]
  unfold methodCall
  rw [hm, hf]
  rfl
end
def iA_at (p1 p2 : Pos) : Arguments := { posonlyargs := [], args := [{ arg := "self", annotation := none, pos := p1 }, { arg := "at", annotation := none, pos := p2 }], vararg := none, kwonlyargs := [], kw_defaults := [], kwarg := none, defaults := [] }
def iB_at (b0 b1 b2 b3 b4 a0 c0 d0 e0 f0 : Pos) : List Stmt := [.Expr (.Call (.Attribute (.Call (.Name "super" b0) [] [] b1) "__init__" b2) [.Name "at" a0] [] b3) b4, .Assign [.Attribute (.Name "self" c0) "at" d0] (.Name "at" e0) f0]
def iS_at : Scope := { kind := .function, names := [(PySem.Str.ofString "self", .local), (PySem.Str.ofString "at", .local), (PySem.Str.ofString "__class__", .free), (PySem.Str.ofString "super", .globalImplicit)], isGenerator := false, isCoroutine := false, more := [] }
/-- what the written part says of its __init__ -/
structure Fn_at (P : Program) (K : Frag) (C fI : Addr) (qual : Str) : Prop where
  ex : ∃ (cc cda : Addr) (p1 p2 b0 b1 b2 b3 b4 a0 c0 d0 e0 f0 : Pos) (oc kV doc pm ct ccl cl : Value) (od an cdd cld : Option Addr) (osl ccs csl : Array (Option Value)) (vs : Array Value) (file : Str) (tf : Tok),
    K.lookup fI = some ⟨oc, od, .func (ksFn "__init__" qual (iA_at p1 p2) (iB_at b0 b1 b2 b3 b4 a0 c0 d0 e0 f0) iS_at .none kV doc pm an (.ref cda) ct cc), osl⟩ ∧ codeIn K (.ref cda) qual = true ∧ K.lookup cda = some ⟨ccl, cdd, .fields vs, ccs⟩ ∧ vs[2]? = some (.str file tf) ∧ ((P.main.file : Str) == file) = true ∧
    K.lookup cc = some ⟨cl, cld, .cell (some (.ref C)), csl⟩ ∧ (b2.endLine == b3.line) = true
section
variable {prog : Program} {w : World} {A : Around} {R : Result → Shared → Prop} {s : Shared} {K : Frag} {mg : Str → Option Value}
theorem init_at {C fI e t0 : Addr} {u0 : Value} {qual x : Str} (T : SxC prog K mg x C fI [("at" : Str)]) (FI : Fn_at prog K C fI qual)
    (X : K.In s.heap) (G : s.heap.Ns mainGlobals mg) (Gb : ∃ mb, s.heap.Ns builtinsNs mb ∧ ∀ x : Str, x ≠ "__name__" → mb x = bootBuiltins x) (hlim : s.heap.NoLimit) (hx : s.heap.get? e = some (excO C t0)) (hnx : K.lookup e = none) (hroom : A.depth < recursionLimit)
    (hq : ∀ h' tk dx, InitEnd s.heap h' e C dx (fun y : Str => if y = "at" then some u0 else none) → R (.ok (.ret .none)) { s with heap := h', toks := tk }) : codeAny (model prog w) A (.call (.ref fI) ⟨[.ref e, u0], []⟩) R s := by
  obtain ⟨cc, cda, p1, p2, b0, b1, b2, b3, b4, a0, c0, d0, e0, f0, oc, kV, doc, pm, ct, ccl, cl, od, an, cdd, cld, osl, ccs, csl, vs, file, tf, hf, hcd, hcode, hvs, hfile, hcell, hp⟩ := FI.ex
  have hT := T.cls
  obtain ⟨nm, q, N, bs, bm, sn, sub, ab, col, dd, k0, k1, k2, k3, k5, hC, hbm⟩ := T.cls
  have hcl : clsIn K C = some { name := nm, bases := bs, mro := .ref C :: bm, ns := N, qualname := q, hasDict := true, slotNames := sn, subclasses := sub, abstract := ab, collection := col, hasDel := false } := by unfold clsIn; rw [hC] <;> rfl
  obtain ⟨mb, Gb1, Gb2⟩ := Gb
  have hne : e ≠ C := fun z => by rw [z, hC] at hnx; cases hnx
  refine ks_codeAny_call_defAt (fd := ksFn "__init__" qual (iA_at p1 p2) (iB_at b0 b1 b2 b3 b4 a0 c0 d0 e0 f0) iS_at .none kV doc pm an (.ref cda) ct cc) (body := iB_at b0 b1 b2 b3 b4 a0 c0 d0 e0 f0) (binds := [(("self" : Str), Value.ref e), (("at" : Str), u0)]) hroom (X _ _ hf) rfl hlim (codeRec_of X hcd) rfl (BindsTo.of_eq (by first | rfl | with_unfolding_all rfl)) (show ∀ x ∈ iS_at.names, x.2 ≠ .cell by decide) (by intro y hy; have hy : y = (("self" : Str), Value.ref e) ∨ y = (("at" : Str), u0) := (by simpa using hy); (rcases hy with rfl | rfl <;> rfl)) (fun h₁ hns hk₁ => ?_)
  have X1 : K.In h₁ := X.keeps hk₁
  have hx1 := hk₁ _ _ hx
  have hxL : s.heap.objs.size ≠ e := Nat.ne_of_gt (Heap.lt_size hx)
  refine ks_wpAt_execs_cons (ks_wpAt_Expr_any (ks_wpAt_MethodCall ?_ (mc_eq hp rfl)))
  refine ks_wpAt_super_base (env := ksEnv qual iS_at s.heap.objs.size fI (.ref cda) cc) rfl rfl (by decide +kernel) rfl (X1 _ _ hf) rfl rfl rfl (X1 _ _ hcode) rfl hvs hfile T.top ?_
  refine ks_loadName_global rfl rfl (loadGlobal_builtin (env := ksEnv qual iS_at s.heap.objs.size fI (.ref cda) cc) (G.keeps hk₁) T.gS (Gb1.keeps hk₁) ((Gb2 _ (by decide +kernel)).trans (by first | rfl | kernel_rfl)) ⟨rfl, ?_⟩)
  refine wpAny_loadName_free rfl rfl rfl ⟨_, X1 _ _ hcell, rfl⟩ ?_
  refine wpAny_loadName_local rfl rfl hns rfl ?_
  refine ks_wpAny_isType_cls (X1 _ _ hC) rfl ⟨rfl, ?_⟩
  refine ks_wpAny_call_super (X1 _ _ hC) rfl hx1 rfl (fun c z => by cases z) (looks_mroIn X1 T.own) (fun h2 e2 k2 => ?_)
  have X2 : K.In h2 := X1.keeps k2
  have hx2 := k2 _ _ hx1
  have I2 : InstAt h2 e (excO C t0) C none := ⟨hx2, rfl, rfl, trivial⟩
  have hm := T.sup
  unfold ks_superIn at hm
  rw [hcl] at hm
  refine kxs_getMethod kxs_ValueError e2 (looks_opaque X2 T.opq) (l₀ := .ref C :: bm) ((looks_clsIn X2 hcl).andThen .now) rfl X2 hm (I2.type.andThen (looks_subIn X2 T.veC)) hne (by decide +kernel) ?_
  have k3 : ∀ b o, h2.get? b = some o → (h2.push (kxs_mw "ValueError.__init__" e)).get? b = some o := fun b o z => Heap.get?_push_of_some _ z
  have hu3 : (h2.push (kxs_mw "ValueError.__init__" e)).get? h2.objs.size = some (kxs_mw "ValueError.__init__" e) := Heap.get?_push_at rfl rfl
  have hn3 := (hns.keeps k2).keeps k3
  have X3 := X2.keeps k3
  have hx3 := k3 _ _ hx2
  show wpAny _ _ (callWith b3 (.ref h2.objs.size) [] (backTo b3 (starEach [.Name "at" a0] _)) []) _ _ _
  refine cw1 (i := "ValueError.__init__") (x := e) (spliced_more (ldE hn3 rfl (spliced_none ⟨hu3, ?_⟩) rfl rfl (by decide +kernel)) rfl) rfl rfl
  refine call_mw hT X3 hx3 hu3 (one_size _) fun h4 t1 k4 hx4 => ?_
  have k4' : ∀ b o, b ≠ e → s.heap.get? b = some o → h4.get? b = some o := fun b o hb z => k4 b o hb (k3 b o (k2 b o (hk₁ b o z)))
  have X4 : K.In h4 := in_but X hnx k4'
  have hn4 : h4.Ns s.heap.objs.size (fun x => List.lookup x ([(("self" : Str), Value.ref e), (("at" : Str), u0)]).reverse) := by
    exact hn3.at fun o q => k4 _ _ hxL q
  show wpAt _ _ _ (execs _ _) _ _ _
  refine wpAt_of_wpAny (wpAny_execs_cons (plainObj_wpAny_Assign_Attribute ?_))
  refine ldE hn4 rfl (ldE hn4 rfl ?_ rfl rfl (by decide +kernel)) rfl rfl (by decide +kernel)
  refine set_plain X4 (ox := excO C t1) (od := none) ⟨hx4, rfl, rfl, trivial⟩ T.sa ?_
  refine exc_osa X4 hx4 hcl (show refsVE (.ref C :: bm) = true from hbm) rfl (T.noN _ (by simp)) (fun h5 tk5 dx k5 dn dne hx5 hn5 => ?_)
  show wpAny _ _ (execs _ _) _ _ _
  have hbig : s.heap.objs.size ≤ dx := Nat.le_of_lt (Nat.lt_of_lt_of_le hn4.lt dn)
  exact wpAny_execs_nil (hq h5 tk5 dx ⟨fun b o hb z => k5 b o hb (k4' b o hb z), ⟨t1, hx5⟩, hbig, dne, hn5⟩)
theorem made_at {C fI : Addr} {u0 : Value} {qual x : Str} (T : SxC prog K mg x C fI [("at" : Str)]) (FI : Fn_at prog K C fI qual) (X : K.In s.heap) (G : s.heap.Ns mainGlobals mg)
    (Gb : ∃ mb, s.heap.Ns builtinsNs mb ∧ ∀ x : Str, x ≠ "__name__" → mb x = bootBuiltins x) (hlim : s.heap.NoLimit) (hroom : A.depth + 1 < recursionLimit)
    (hq : ∀ h' tk e d, OwnMade s.heap h' e C d (fun y : Str => if y = "at" then some u0 else none) → R (.ok (.ret (.ref e))) { s with heap := h', toks := tk }) : codeAny (model prog w) A (.call (.ref C) ⟨[u0], []⟩) R s := by
  obtain ⟨nm, q, N, bs, bm, sn, sub, ab, col, dd, k0, k1, k2, k3, k5, hC, hbm⟩ := T.cls
  obtain ⟨hp, g, dr, tk, os⟩ := s
  have k : ∀ b o, hp.get? b = some o → ((hp.push (kdv_tup [u0])).push (excO C hp.objs.size)).get? b = some o := fun b o e => Heap.get?_push_of_some _ (Heap.get?_push_of_some _ e)
  have hget : ((hp.push (kdv_tup [u0])).push (excO C hp.objs.size)).get? (hp.objs.size + 1) = some (excO C hp.objs.size) := by heap_get
  have hnx : K.lookup (hp.objs.size + 1) = none := by
    cases e : K.lookup (hp.objs.size + 1) with
    | none => rfl
    | some o =>
      have z : hp.get? (hp.objs.size + 1) = some o := X _ _ e
      exact absurd (Nat.lt_of_succ_lt (Heap.lt_size z)) (Nat.lt_irrefl _)
  obtain ⟨mb, Gb1, Gb2⟩ := Gb
  refine call_own F.excBase_ValueError (fun X => refsVE_contains X bm hbm) (X _ _ hC) (looks_findIn X T.iC) (fun self => bind_fn X self T.tI) (one_size _) ?_
  refine init_at (s := ⟨(hp.push (kdv_tup [u0])).push (excO C hp.objs.size), g, dr, tk, os⟩) T FI (X.keeps k) (G.keeps k) ⟨mb, Gb1.keeps k, Gb2⟩ (hlim.keeps k) hget hnx ?_ fun h' tk' dx IE => ?_
  · show A.depth + 1 < recursionLimit
    exact hroom
  · have old : ∀ b o, hp.get? b = some o → h'.get? b = some o := fun b o e => IE.keep b o (Nat.ne_of_lt (Nat.lt_succ_of_lt (Heap.lt_size e))) (k b o e)
    obtain ⟨t1, hx⟩ := IE.obj
    have z : hp.objs.size + 1 + 1 ≤ dx := by
      have dn := IE.dbig
      first
        | (simpa only [Heap.size_push] using dn)
        | exact dn
    exact ⟨rfl, hq h' tk' (hp.objs.size + 1) dx ⟨old, Nat.le_succ _, ⟨_, _, hx, rfl, rfl, rfl, rfl⟩, Nat.le_trans (Nat.le_trans (Nat.le_succ _) (Nat.le_succ _)) z, IE.dne, IE.ns⟩⟩
end

def iA_at_word (p1 p2 p3 : Pos) : Arguments := { posonlyargs := [], args := [{ arg := "self", annotation := none, pos := p1 }, { arg := "at", annotation := none, pos := p2 }, { arg := "word", annotation := none, pos := p3 }], vararg := none, kwonlyargs := [], kw_defaults := [], kwarg := none, defaults := [] }
def iB_at_word (b0 b1 b2 b3 b4 a0 a1 c0 d0 e0 f0 c1 d1 e1 f1 : Pos) : List Stmt := [.Expr (.Call (.Attribute (.Call (.Name "super" b0) [] [] b1) "__init__" b2) [.Name "at" a0, .Name "word" a1] [] b3) b4, .Assign [.Attribute (.Name "self" c0) "at" d0] (.Name "at" e0) f0, .Assign [.Attribute (.Name "self" c1) "word" d1] (.Name "word" e1) f1]
def iS_at_word : Scope := { kind := .function, names := [(PySem.Str.ofString "self", .local), (PySem.Str.ofString "at", .local), (PySem.Str.ofString "word", .local), (PySem.Str.ofString "__class__", .free), (PySem.Str.ofString "super", .globalImplicit)], isGenerator := false, isCoroutine := false, more := [] }
/-- what the written part says of its __init__ -/
structure Fn_at_word (P : Program) (K : Frag) (C fI : Addr) (qual : Str) : Prop where
  ex : ∃ (cc cda : Addr) (p1 p2 p3 b0 b1 b2 b3 b4 a0 a1 c0 d0 e0 f0 c1 d1 e1 f1 : Pos) (oc kV doc pm ct ccl cl : Value) (od an cdd cld : Option Addr) (osl ccs csl : Array (Option Value)) (vs : Array Value) (file : Str) (tf : Tok),
    K.lookup fI = some ⟨oc, od, .func (ksFn "__init__" qual (iA_at_word p1 p2 p3) (iB_at_word b0 b1 b2 b3 b4 a0 a1 c0 d0 e0 f0 c1 d1 e1 f1) iS_at_word .none kV doc pm an (.ref cda) ct cc), osl⟩ ∧ codeIn K (.ref cda) qual = true ∧ K.lookup cda = some ⟨ccl, cdd, .fields vs, ccs⟩ ∧ vs[2]? = some (.str file tf) ∧ ((P.main.file : Str) == file) = true ∧
    K.lookup cc = some ⟨cl, cld, .cell (some (.ref C)), csl⟩ ∧ (b2.endLine == b3.line) = true
section
variable {prog : Program} {w : World} {A : Around} {R : Result → Shared → Prop} {s : Shared} {K : Frag} {mg : Str → Option Value}
theorem init_at_word {C fI e t0 : Addr} {u0 u1 : Value} {qual x : Str} (T : SxC prog K mg x C fI [("at" : Str), ("word" : Str)]) (FI : Fn_at_word prog K C fI qual)
    (X : K.In s.heap) (G : s.heap.Ns mainGlobals mg) (Gb : ∃ mb, s.heap.Ns builtinsNs mb ∧ ∀ x : Str, x ≠ "__name__" → mb x = bootBuiltins x) (hlim : s.heap.NoLimit) (hx : s.heap.get? e = some (excO C t0)) (hnx : K.lookup e = none) (hroom : A.depth < recursionLimit)
    (hq : ∀ h' tk dx, InitEnd s.heap h' e C dx (fun y : Str => if y = "word" then some u1 else if y = "at" then some u0 else none) → R (.ok (.ret .none)) { s with heap := h', toks := tk }) : codeAny (model prog w) A (.call (.ref fI) ⟨[.ref e, u0, u1], []⟩) R s := by
  obtain ⟨cc, cda, p1, p2, p3, b0, b1, b2, b3, b4, a0, a1, c0, d0, e0, f0, c1, d1, e1, f1, oc, kV, doc, pm, ct, ccl, cl, od, an, cdd, cld, osl, ccs, csl, vs, file, tf, hf, hcd, hcode, hvs, hfile, hcell, hp⟩ := FI.ex
  have hT := T.cls
  obtain ⟨nm, q, N, bs, bm, sn, sub, ab, col, dd, k0, k1, k2, k3, k5, hC, hbm⟩ := T.cls
  have hcl : clsIn K C = some { name := nm, bases := bs, mro := .ref C :: bm, ns := N, qualname := q, hasDict := true, slotNames := sn, subclasses := sub, abstract := ab, collection := col, hasDel := false } := by unfold clsIn; rw [hC] <;> rfl
  obtain ⟨mb, Gb1, Gb2⟩ := Gb
  have hne : e ≠ C := fun z => by rw [z, hC] at hnx; cases hnx
  refine ks_codeAny_call_defAt (fd := ksFn "__init__" qual (iA_at_word p1 p2 p3) (iB_at_word b0 b1 b2 b3 b4 a0 a1 c0 d0 e0 f0 c1 d1 e1 f1) iS_at_word .none kV doc pm an (.ref cda) ct cc) (body := iB_at_word b0 b1 b2 b3 b4 a0 a1 c0 d0 e0 f0 c1 d1 e1 f1) (binds := [(("self" : Str), Value.ref e), (("at" : Str), u0), (("word" : Str), u1)]) hroom (X _ _ hf) rfl hlim (codeRec_of X hcd) rfl (BindsTo.of_eq (by first | rfl | with_unfolding_all rfl)) (show ∀ x ∈ iS_at_word.names, x.2 ≠ .cell by decide) (by intro y hy; have hy : y = (("self" : Str), Value.ref e) ∨ y = (("at" : Str), u0) ∨ y = (("word" : Str), u1) := (by simpa using hy); (rcases hy with rfl | rfl | rfl <;> rfl)) (fun h₁ hns hk₁ => ?_)
  have X1 : K.In h₁ := X.keeps hk₁
  have hx1 := hk₁ _ _ hx
  have hxL : s.heap.objs.size ≠ e := Nat.ne_of_gt (Heap.lt_size hx)
  refine ks_wpAt_execs_cons (ks_wpAt_Expr_any (ks_wpAt_MethodCall ?_ (mc_eq hp rfl)))
  refine ks_wpAt_super_base (env := ksEnv qual iS_at_word s.heap.objs.size fI (.ref cda) cc) rfl rfl (by decide +kernel) rfl (X1 _ _ hf) rfl rfl rfl (X1 _ _ hcode) rfl hvs hfile T.top ?_
  refine ks_loadName_global rfl rfl (loadGlobal_builtin (env := ksEnv qual iS_at_word s.heap.objs.size fI (.ref cda) cc) (G.keeps hk₁) T.gS (Gb1.keeps hk₁) ((Gb2 _ (by decide +kernel)).trans (by first | rfl | kernel_rfl)) ⟨rfl, ?_⟩)
  refine wpAny_loadName_free rfl rfl rfl ⟨_, X1 _ _ hcell, rfl⟩ ?_
  refine wpAny_loadName_local rfl rfl hns rfl ?_
  refine ks_wpAny_isType_cls (X1 _ _ hC) rfl ⟨rfl, ?_⟩
  refine ks_wpAny_call_super (X1 _ _ hC) rfl hx1 rfl (fun c z => by cases z) (looks_mroIn X1 T.own) (fun h2 e2 k2 => ?_)
  have X2 : K.In h2 := X1.keeps k2
  have hx2 := k2 _ _ hx1
  have I2 : InstAt h2 e (excO C t0) C none := ⟨hx2, rfl, rfl, trivial⟩
  have hm := T.sup
  unfold ks_superIn at hm
  rw [hcl] at hm
  refine kxs_getMethod kxs_ValueError e2 (looks_opaque X2 T.opq) (l₀ := .ref C :: bm) ((looks_clsIn X2 hcl).andThen .now) rfl X2 hm (I2.type.andThen (looks_subIn X2 T.veC)) hne (by decide +kernel) ?_
  have k3 : ∀ b o, h2.get? b = some o → (h2.push (kxs_mw "ValueError.__init__" e)).get? b = some o := fun b o z => Heap.get?_push_of_some _ z
  have hu3 : (h2.push (kxs_mw "ValueError.__init__" e)).get? h2.objs.size = some (kxs_mw "ValueError.__init__" e) := Heap.get?_push_at rfl rfl
  have hn3 := (hns.keeps k2).keeps k3
  have X3 := X2.keeps k3
  have hx3 := k3 _ _ hx2
  show wpAny _ _ (callWith b3 (.ref h2.objs.size) [] (backTo b3 (starEach [.Name "at" a0, .Name "word" a1] _)) []) _ _ _
  refine cw1 (i := "ValueError.__init__") (x := e) (spliced_more (ldE hn3 rfl (spliced_more (ldE hn3 rfl (spliced_none ⟨hu3, ?_⟩) rfl rfl (by decide +kernel)) rfl) rfl rfl (by decide +kernel)) rfl) rfl rfl
  refine call_mw hT X3 hx3 hu3 (two_size _ _) fun h4 t1 k4 hx4 => ?_
  have k4' : ∀ b o, b ≠ e → s.heap.get? b = some o → h4.get? b = some o := fun b o hb z => k4 b o hb (k3 b o (k2 b o (hk₁ b o z)))
  have X4 : K.In h4 := in_but X hnx k4'
  have hn4 : h4.Ns s.heap.objs.size (fun x => List.lookup x ([(("self" : Str), Value.ref e), (("at" : Str), u0), (("word" : Str), u1)]).reverse) := by
    exact hn3.at fun o q => k4 _ _ hxL q
  show wpAt _ _ _ (execs _ _) _ _ _
  refine wpAt_of_wpAny (wpAny_execs_cons (plainObj_wpAny_Assign_Attribute ?_))
  refine ldE hn4 rfl (ldE hn4 rfl ?_ rfl rfl (by decide +kernel)) rfl rfl (by decide +kernel)
  refine set_plain X4 (ox := excO C t1) (od := none) ⟨hx4, rfl, rfl, trivial⟩ T.sa ?_
  refine exc_osa X4 hx4 hcl (show refsVE (.ref C :: bm) = true from hbm) rfl (T.noN _ (by simp)) (fun h5 tk5 dx k5 dn dne hx5 hn5 => ?_)
  show wpAny _ _ (execs _ _) _ _ _
  have hbig : s.heap.objs.size ≤ dx := Nat.le_of_lt (Nat.lt_of_lt_of_le hn4.lt dn)
  have X5 : K.In h5 := in_but X hnx fun b o hb z => k5 b o hb (k4' b o hb z)
  have hnL := hn4.at fun o q => k5 _ _ hxL q
  have hw : Within (fun y : Str => if y = "at" then some u0 else none) ["at"] := by
    intro y hy
    by_cases z : y = "at"
    · simp [z]
    · exact absurd (if_neg z) hy
  obtain ⟨oD, esD, epD, hoD, hdD, hcD⟩ := hn5.count hw
  refine wpAny_execs_cons (plainObj_wpAny_Assign_Attribute ?_)
  refine ldE hnL rfl (ldE hnL rfl ?_ rfl rfl (by decide +kernel)) rfl rfl (by decide +kernel)
  refine set_plain X5 (ox := { cls := .ref C, dict := some dx, data := .fields #[.ref t1, .none, .none, .none, .bool false, .none] }) (od := some oD) ⟨hx5, rfl, rfl, hoD⟩ T.sa ?_
  refine PySem.OEX.osa_old X5 hx5 hn5 hw (by decide) hcl (show refsVE (.ref C :: bm) = true from hbm) rfl (T.noN _ (by simp)) (fun h6 tk6 k6 hn6 => ?_)
  show wpAny _ _ (execs _ _) _ _ _
  exact wpAny_execs_nil (hq h6 tk6 dx ⟨fun b o hb z => k6 b o (Nat.ne_of_lt (Nat.lt_of_lt_of_le (Heap.lt_size z) hbig)) (k5 b o hb (k4' b o hb z)), ⟨t1, k6 _ _ (Ne.symm dne) hx5⟩, hbig, dne, hn6⟩)
theorem made_at_word {C fI : Addr} {u0 u1 : Value} {qual x : Str} (T : SxC prog K mg x C fI [("at" : Str), ("word" : Str)]) (FI : Fn_at_word prog K C fI qual) (X : K.In s.heap) (G : s.heap.Ns mainGlobals mg)
    (Gb : ∃ mb, s.heap.Ns builtinsNs mb ∧ ∀ x : Str, x ≠ "__name__" → mb x = bootBuiltins x) (hlim : s.heap.NoLimit) (hroom : A.depth + 1 < recursionLimit)
    (hq : ∀ h' tk e d, OwnMade s.heap h' e C d (fun y : Str => if y = "word" then some u1 else if y = "at" then some u0 else none) → R (.ok (.ret (.ref e))) { s with heap := h', toks := tk }) : codeAny (model prog w) A (.call (.ref C) ⟨[u0, u1], []⟩) R s := by
  obtain ⟨nm, q, N, bs, bm, sn, sub, ab, col, dd, k0, k1, k2, k3, k5, hC, hbm⟩ := T.cls
  obtain ⟨hp, g, dr, tk, os⟩ := s
  have k : ∀ b o, hp.get? b = some o → ((hp.push (kdv_tup [u0, u1])).push (excO C hp.objs.size)).get? b = some o := fun b o e => Heap.get?_push_of_some _ (Heap.get?_push_of_some _ e)
  have hget : ((hp.push (kdv_tup [u0, u1])).push (excO C hp.objs.size)).get? (hp.objs.size + 1) = some (excO C hp.objs.size) := by heap_get
  have hnx : K.lookup (hp.objs.size + 1) = none := by
    cases e : K.lookup (hp.objs.size + 1) with
    | none => rfl
    | some o =>
      have z : hp.get? (hp.objs.size + 1) = some o := X _ _ e
      exact absurd (Nat.lt_of_succ_lt (Heap.lt_size z)) (Nat.lt_irrefl _)
  obtain ⟨mb, Gb1, Gb2⟩ := Gb
  refine call_own F.excBase_ValueError (fun X => refsVE_contains X bm hbm) (X _ _ hC) (looks_findIn X T.iC) (fun self => bind_fn X self T.tI) (two_size _ _) ?_
  refine init_at_word (s := ⟨(hp.push (kdv_tup [u0, u1])).push (excO C hp.objs.size), g, dr, tk, os⟩) T FI (X.keeps k) (G.keeps k) ⟨mb, Gb1.keeps k, Gb2⟩ (hlim.keeps k) hget hnx ?_ fun h' tk' dx IE => ?_
  · show A.depth + 1 < recursionLimit
    exact hroom
  · have old : ∀ b o, hp.get? b = some o → h'.get? b = some o := fun b o e => IE.keep b o (Nat.ne_of_lt (Nat.lt_succ_of_lt (Heap.lt_size e))) (k b o e)
    obtain ⟨t1, hx⟩ := IE.obj
    have z : hp.objs.size + 1 + 1 ≤ dx := by
      have dn := IE.dbig
      first
        | (simpa only [Heap.size_push] using dn)
        | exact dn
    exact ⟨rfl, hq h' tk' (hp.objs.size + 1) dx ⟨old, Nat.le_succ _, ⟨_, _, hx, rfl, rfl, rfl, rfl⟩, Nat.le_trans (Nat.le_trans (Nat.le_succ _) (Nat.le_succ _)) z, IE.dne, IE.ns⟩⟩
end

end SxX
end PySem
set_option Elab.async false
set_option linter.all false
set_option maxRecDepth 100000
set_option maxHeartbeats 4000000
set_option autoImplicit false
namespace L2
open PySem PySem.Spec PyProof.Rows
theorem relO_at {v0 : V} {u0 : Value} (r0 : RelV v0 u0) (f : Str) : RelO (List.lookup f [(("at" : Str), v0)]) ((fun y : Str => if y = "at" then some u0 else none) f) := by
  by_cases h0 : f = "at"
  · subst h0
    have q : List.lookup ("at" : Str) [(("at" : Str), v0)] = some v0 := by with_unfolding_all rfl
    rw [q]
    show RelO (some v0) ((fun y : Str => if y = "at" then some u0 else none) "at")
    have z : (fun y : Str => if y = "at" then some u0 else none) "at" = some u0 := by with_unfolding_all rfl
    rw [z]
    exact r0
  have z : (fun y : Str => if y = "at" then some u0 else none) f = none := by show (if f = "at" then some u0 else none) = none; rw [if_neg h0]
  rw [z]
  have b0 : (f == ("at" : Str)) = false := by simpa using h0
  have q : List.lookup f [(("at" : Str), v0)] = none := by simp [List.lookup, b0]
  rw [q]
  trivial
def tMk_at (C : Addr) (ta : TA) : St → Hp → XK → Prop := fun σ H Q => ta σ H fun vs H1 => ∃ v0, vs = [v0] ∧ ∀ d, H1 d = none → Q (.ref C) (some d) (upd H1 d (.xd [(("at" : Str), v0)]))
theorem pmk_at {X : Cx} {C fI : Addr} {x qual : Str} {x0 : Expr} {ta : TA} {p pos : Pos} {k : Nat} (T : PySem.SxX.SxC X.prog X.K X.mg x C fI [("at" : Str)]) (FI : PySem.SxX.Fn_at X.prog X.K C fI qual) (hr : Room k X.A) (ha : PA X [x0] ta) (hg : Gl X x) (hdb : (x == ("__debug__" : Str)) = false)
    (he : starEach [x0] X.env = (false, eval x0 X.env) :: starEach [] X.env) (hpl : (backTo pos (starEach [] X.env)).any (·.1) = false) :
    PMk X (.Call (.Name x p) [x0] [] pos) (tMk_at C ta) := by
  intro pins s σ H Q I h
  refine wpAny_Call_Name_kw (ld_glob I hg T.gC ?_ hdb)
  refine PySem.W.callWith_K (h₀ := X.base) I.ok.mod.kin T.kC (thn (ha.run pos pins s σ H _ I h) fun us s1 hh => ?_) he hpl
  obtain ⟨vs, H1, I1, r1, v0, ev, qq⟩ := hh
  subst ev
  refine ⟨I1.kIn, ?_⟩
  cases r1 with
  | cons q0 rn0 =>
    rename_i u0 us0
    cases rn0
    show wpAny _ _ (call (.ref C) [u0]) _ _ _
    have hlim := I1.nolimit
    have G1 := I1.mod.glob.keeps I1.bk
    obtain ⟨mb, Gb1, Gb2⟩ := I1.mod.blt
    have Gb := Gb1.keeps I1.bk
    obtain ⟨hp, g, dr, tk, os⟩ := s1
    refine wpAny_call (PySem.SxX.made_at T FI I1.kIn G1 ⟨mb, Gb, Gb2⟩ hlim (by have := hr.dp; omega) fun h' tk' e d M => ?_)
    show MkP X pins σ Q (.ref e) ⟨h', g, dr, tk', os⟩
    obtain ⟨oe, fv, hoe, hc, hd, hdat, h1⟩ := M.obj
    have hns := M.ns
    obtain ⟨G', g1, g2⟩ := restrict h' fun b => decide (b ≠ e)
    have gk : ∀ b, b ≠ e → G'.get? b = h'.get? b := fun b hb => g1 b (decide_eq_true hb)
    have ge : G'.get? e = none := g2 e (by simp)
    have old : ∀ b o, hp.get? b = some o → G'.get? b = some o := fun b o q => (gk b (Nat.ne_of_lt (Nat.lt_of_lt_of_le (Heap.lt_size q) M.new))).trans (M.keep b o q)
    have ob : ObjOk X.prog X.w (upd H1 d (.xd [(("at" : Str), v0)])) G' d (.xd [(("at" : Str), v0)]) :=
      ⟨_, hns.at (fun o q => (gk d M.dne).trans q), fun f => relO_at q0 f⟩
    have J : Inv X pins σ (upd H1 d (.xd [(("at" : Str), v0)])) ⟨G', g, dr, tk', os⟩ := I1.laid (t' := tk') old M.dbig ob
    refine ⟨e, oe, fv, ⟨G', g, dr, tk', os⟩, _, .ref C, some d, rfl, J, fun b o q => ?_, ge, hoe, ⟨hc, hd⟩, hdat, h1, ?_, rfl, I1.bare, raises_own T.exC T.tyC, qq d (I1.hok.fresh M.dbig)⟩
    · by_cases hb : b = e
      · have q' : G'.get? b = some o := q
        rw [hb, ge] at q'; cases q'
      · exact (gk b hb).symm.trans q
    · rw [upd_ne (Ne.symm M.dne)]
      exact I1.hok.fresh M.new

theorem relO_at_word {v0 v1 : V} {u0 u1 : Value} (r0 : RelV v0 u0) (r1 : RelV v1 u1) (f : Str) : RelO (List.lookup f [(("at" : Str), v0), (("word" : Str), v1)]) ((fun y : Str => if y = "word" then some u1 else if y = "at" then some u0 else none) f) := by
  by_cases h1 : f = "word"
  · subst h1
    have q : List.lookup ("word" : Str) [(("at" : Str), v0), (("word" : Str), v1)] = some v1 := by with_unfolding_all rfl
    rw [q]
    show RelO (some v1) ((fun y : Str => if y = "word" then some u1 else if y = "at" then some u0 else none) "word")
    have z : (fun y : Str => if y = "word" then some u1 else if y = "at" then some u0 else none) "word" = some u1 := by with_unfolding_all rfl
    rw [z]
    exact r1
  by_cases h0 : f = "at"
  · subst h0
    have q : List.lookup ("at" : Str) [(("at" : Str), v0), (("word" : Str), v1)] = some v0 := by with_unfolding_all rfl
    rw [q]
    show RelO (some v0) ((fun y : Str => if y = "word" then some u1 else if y = "at" then some u0 else none) "at")
    have z : (fun y : Str => if y = "word" then some u1 else if y = "at" then some u0 else none) "at" = some u0 := by with_unfolding_all rfl
    rw [z]
    exact r0
  have z : (fun y : Str => if y = "word" then some u1 else if y = "at" then some u0 else none) f = none := by show (if f = "word" then some u1 else if f = "at" then some u0 else none) = none; rw [if_neg h1, if_neg h0]
  rw [z]
  have b1 : (f == ("word" : Str)) = false := by simpa using h1
  have b0 : (f == ("at" : Str)) = false := by simpa using h0
  have q : List.lookup f [(("at" : Str), v0), (("word" : Str), v1)] = none := by simp [List.lookup, b1, b0]
  rw [q]
  trivial
def tMk_at_word (C : Addr) (ta : TA) : St → Hp → XK → Prop := fun σ H Q => ta σ H fun vs H1 => ∃ v0 v1, vs = [v0, v1] ∧ ∀ d, H1 d = none → Q (.ref C) (some d) (upd H1 d (.xd [(("at" : Str), v0), (("word" : Str), v1)]))
theorem pmk_at_word {X : Cx} {C fI : Addr} {x qual : Str} {x0 x1 : Expr} {ta : TA} {p pos : Pos} {k : Nat} (T : PySem.SxX.SxC X.prog X.K X.mg x C fI [("at" : Str), ("word" : Str)]) (FI : PySem.SxX.Fn_at_word X.prog X.K C fI qual) (hr : Room k X.A) (ha : PA X [x0, x1] ta) (hg : Gl X x) (hdb : (x == ("__debug__" : Str)) = false)
    (he : starEach [x0, x1] X.env = (false, eval x0 X.env) :: starEach [x1] X.env) (hpl : (backTo pos (starEach [x1] X.env)).any (·.1) = false) :
    PMk X (.Call (.Name x p) [x0, x1] [] pos) (tMk_at_word C ta) := by
  intro pins s σ H Q I h
  refine wpAny_Call_Name_kw (ld_glob I hg T.gC ?_ hdb)
  refine PySem.W.callWith_K (h₀ := X.base) I.ok.mod.kin T.kC (thn (ha.run pos pins s σ H _ I h) fun us s1 hh => ?_) he hpl
  obtain ⟨vs, H1, I1, r1, v0, v1, ev, qq⟩ := hh
  subst ev
  refine ⟨I1.kIn, ?_⟩
  cases r1 with
  | cons q0 rn0 =>
    rename_i u0 us0
    cases rn0 with
    | cons q1 rn1 =>
      rename_i u1 us1
      cases rn1
      show wpAny _ _ (call (.ref C) [u0, u1]) _ _ _
      have hlim := I1.nolimit
      have G1 := I1.mod.glob.keeps I1.bk
      obtain ⟨mb, Gb1, Gb2⟩ := I1.mod.blt
      have Gb := Gb1.keeps I1.bk
      obtain ⟨hp, g, dr, tk, os⟩ := s1
      refine wpAny_call (PySem.SxX.made_at_word T FI I1.kIn G1 ⟨mb, Gb, Gb2⟩ hlim (by have := hr.dp; omega) fun h' tk' e d M => ?_)
      show MkP X pins σ Q (.ref e) ⟨h', g, dr, tk', os⟩
      obtain ⟨oe, fv, hoe, hc, hd, hdat, h1⟩ := M.obj
      have hns := M.ns
      obtain ⟨G', g1, g2⟩ := restrict h' fun b => decide (b ≠ e)
      have gk : ∀ b, b ≠ e → G'.get? b = h'.get? b := fun b hb => g1 b (decide_eq_true hb)
      have ge : G'.get? e = none := g2 e (by simp)
      have old : ∀ b o, hp.get? b = some o → G'.get? b = some o := fun b o q => (gk b (Nat.ne_of_lt (Nat.lt_of_lt_of_le (Heap.lt_size q) M.new))).trans (M.keep b o q)
      have ob : ObjOk X.prog X.w (upd H1 d (.xd [(("at" : Str), v0), (("word" : Str), v1)])) G' d (.xd [(("at" : Str), v0), (("word" : Str), v1)]) :=
        ⟨_, hns.at (fun o q => (gk d M.dne).trans q), fun f => relO_at_word q0 q1 f⟩
      have J : Inv X pins σ (upd H1 d (.xd [(("at" : Str), v0), (("word" : Str), v1)])) ⟨G', g, dr, tk', os⟩ := I1.laid (t' := tk') old M.dbig ob
      refine ⟨e, oe, fv, ⟨G', g, dr, tk', os⟩, _, .ref C, some d, rfl, J, fun b o q => ?_, ge, hoe, ⟨hc, hd⟩, hdat, h1, ?_, rfl, I1.bare, raises_own T.exC T.tyC, qq d (I1.hok.fresh M.dbig)⟩
      · by_cases hb : b = e
        · have q' : G'.get? b = some o := q
          rw [hb, ge] at q'; cases q'
        · exact (gk b hb).symm.trans q
      · rw [upd_ne (Ne.symm M.dne)]
        exact I1.hok.fresh M.new

end L2
namespace L2.Pz
open PySem PySem.Spec PyProof.Rows
theorem tI_mono {K : PySem.W.Frag} {Z : List Zx} {W : WX} {fs : List EF} {σ : L2.St} {H : Hp} {Q Q' : List V → Hp → Prop} (m : ∀ vs H, Q vs H → Q' vs H) : tI K Z W fs σ H Q → tI K Z W fs σ H Q' := fun ⟨Xo, js, env, J, F, p⟩ => by
  refine ⟨Xo, js, env, J, F, ?_⟩
  cases r : eItems fs env J with
  | ok ds J1 => rw [r] at p; exact fun vs H1 e1 F1 r1 => m _ _ (p vs H1 e1 F1 r1)
  | err c fs J1 => rw [r] at p; exact p
  | stuck => rw [r] at p; exact p
/-! ### raise C(e, ..) -/
def sRaise (c : Str) (ns : List Str) (fs : List EF) : SF := fun _ env J => onS env (eItems fs env J) fun ds J1 => if ds.length = ns.length then .err c (ns.zip ds) env J1 else .stuck
section
variable {X : Cx} {n0 : Nat} {E : XK} {c : Str} {C : Addr} {es : List Expr} {fs : List EF} {pos : Pos} {e : Expr} {Z : List Zx}
theorem raise_read {ns : List Str} {t : St → Hp → XK → Prop} (hC : PySem.W.nsIn X.K mainGlobals c = some (some (.ref C)))
    (m : ∀ (σ : St) (H : Hp) (Q : XK), tI X.K Z (fun cls d _ H => E cls d H) fs σ H (fun vs H1 => vs.length = ns.length ∧ ∀ d, H1 d = none → Q (.ref C) (some d) (upd H1 d (.xd (ns.zip vs)))) → t σ H Q)
    (tk : Takes X (fun cls d _ H => E cls d H)) (hc : X.calm = true) (h : PMk X e t) : PS X (.Raise (some e) none pos) (tS X.K Z (fun cls d _ H => E cls d H) n0 (sRaise c ns fs)) :=
  ps_mono (ps_raise hc tk h) fun D σ H ⟨Xo, js, env, J, F, p⟩ => by
    refine m _ _ _ ⟨Xo, js, env, J, F, ?_⟩
    unfold sRaise at p
    cases r : eItems fs env J with
    | stuck => rw [r] at p; exact p.elim
    | err c fs J1 => rw [r] at p; exact flies_S p
    | ok ds J1 =>
      rw [r] at p
      have p : PostS X.K Z (fun cls d _ H => E cls d H) n0 Xo js H D (if ds.length = ns.length then .err c (ns.zip ds) env J1 else .stuck) := p
      intro vs H1 e1 F1 r1
      by_cases hl : ds.length = ns.length
      · rw [if_pos hl] at p
        have hv : vs.length = ns.length := by rw [reps_len r1, hl]
        refine ⟨hv, fun d hd => ?_⟩
        have sm : Same H1 (upd H1 d (.xd (ns.zip vs))) := same_upd hd
        have F2 := F1.same sm
        have e2 : Ext js H (upd H1 d (.xd (ns.zip vs))) := e1.trans (.of sm)
        refine p (.ref C) (some d) σ _ js ⟨C, hC, rfl, d, ns.zip vs, rfl, upd_same, ?_, ?_⟩ (.of_ext F2 e2) F2
        · rw [List.map_fst_zip (by omega), List.map_fst_zip (by omega)]
        · rw [List.map_snd_zip (by omega), List.map_snd_zip (by omega)]
          exact Reps.ext F1 (.of sm) r1
      · rw [if_neg hl] at p; exact p.elim
end
section
variable {X : Cx} {n0 : Nat} {E : XK} {c qual : Str} {C fI : Addr} {x0 : Expr} {fs : List EF} {p pos pos2 : Pos} {k : Nat} {Z : List Zx}
theorem s_raise_at (T : PySem.SxX.SxC X.prog X.K X.mg c C fI [("at" : Str)]) (FI : PySem.SxX.Fn_at X.prog X.K C fI qual) (hC : PySem.W.nsIn X.K mainGlobals c = some (some (.ref C))) (hr : Room k X.A) (tk : Takes X (fun cls d _ H => E cls d H)) (hc : X.calm = true)
    (ha : PA X [x0] (tI X.K Z (fun cls d _ H => E cls d H) fs)) (hg : Gl X c) (hdb : (c == ("__debug__" : Str)) = false) (he : starEach [x0] X.env = (false, eval x0 X.env) :: starEach [] X.env) (hpl : (backTo pos (starEach [] X.env)).any (·.1) = false) :
    PS X (.Raise (some (.Call (.Name c p) [x0] [] pos)) none pos2) (tS X.K Z (fun cls d _ H => E cls d H) n0 (sRaise c [("at" : Str)] fs)) := by
  refine raise_read (C := C) hC (fun σ H Q w => ?_) tk hc (pmk_at T FI hr ha hg hdb he hpl)
  refine tI_mono (fun vs H1 ⟨hl, q⟩ => ?_) w
  rcases vs with _ | ⟨v0, r⟩
  · simp at hl
  · rcases r with _ | ⟨z, r⟩
    · exact ⟨v0, rfl, fun d hd => q d hd⟩
    · simp at hl
end

section
variable {X : Cx} {n0 : Nat} {E : XK} {c qual : Str} {C fI : Addr} {x0 x1 : Expr} {fs : List EF} {p pos pos2 : Pos} {k : Nat} {Z : List Zx}
theorem s_raise_at_word (T : PySem.SxX.SxC X.prog X.K X.mg c C fI [("at" : Str), ("word" : Str)]) (FI : PySem.SxX.Fn_at_word X.prog X.K C fI qual) (hC : PySem.W.nsIn X.K mainGlobals c = some (some (.ref C))) (hr : Room k X.A) (tk : Takes X (fun cls d _ H => E cls d H)) (hc : X.calm = true)
    (ha : PA X [x0, x1] (tI X.K Z (fun cls d _ H => E cls d H) fs)) (hg : Gl X c) (hdb : (c == ("__debug__" : Str)) = false) (he : starEach [x0, x1] X.env = (false, eval x0 X.env) :: starEach [x1] X.env) (hpl : (backTo pos (starEach [x1] X.env)).any (·.1) = false) :
    PS X (.Raise (some (.Call (.Name c p) [x0, x1] [] pos)) none pos2) (tS X.K Z (fun cls d _ H => E cls d H) n0 (sRaise c [("at" : Str), ("word" : Str)] fs)) := by
  refine raise_read (C := C) hC (fun σ H Q w => ?_) tk hc (pmk_at_word T FI hr ha hg hdb he hpl)
  refine tI_mono (fun vs H1 ⟨hl, q⟩ => ?_) w
  rcases vs with _ | ⟨v0, _ | ⟨v1, r⟩⟩
  · simp at hl
  · simp at hl
  · rcases r with _ | ⟨z, r⟩
    · exact ⟨v0, v1, rfl, fun d hd => q d hd⟩
    · simp at hl
end

end L2.Pz
set_option Elab.async false
set_option linter.all false
set_option maxRecDepth 100000
set_option maxHeartbeats 4000000
set_option autoImplicit false
/-! several except clauses, with or without a name -/
namespace L2.Pz
open PySem PySem.Spec PyProof.Rows
abbrev Cl := Value × Option Nat × (Addr → Value → Option Addr → TS)
/-- the suite's ends with the name unbound -/
def off (D : Ends) (i : Nat) : Ends := { nx := fun σ' H' => D.nx (σ'.set i none) H', rt := D.rt, bk := fun σ' H' => D.bk (σ'.set i none) H', ct := fun σ' H' => D.ct (σ'.set i none) H' }
def atCl (D : Ends) (a : Addr) (cls : Value) (d : Option Addr) (σ : L2.St) (H : Hp) (ts : Addr → Value → Option Addr → TS) : Option Nat → Prop
  | none => ts a cls d D σ H
  | some i => ts a cls d (off D i) (σ.set i (some (.ref a))) H
def wAll (K : PySem.W.Frag) (Wout : WX) (D : Ends) : List Cl → WX
  | [] => Wout
  | (c, o, ts) :: r => fun cls d σ H => ∃ b, PySem.W.exmOne K cls c = some b ∧ (b = true → ∀ a, H a = none → atCl D a cls d σ H ts o) ∧ (b = false → wAll K Wout D r cls d σ H)
inductive Hds2 (X : Cx) : List ExceptHandler → List Cl → Prop
  | nil : Hds2 X [] []
  | cons {x : Str} {c : Value} {ts : Addr → Value → Option Addr → TS} {b₀ : Stmt} {suite : List Stmt} {np pos' : Pos} {hds : List ExceptHandler} {l : List Cl} (hc : Names X x c)
      (hsu : ∀ (a : Addr) (oe : Obj) (cls : Value) (d : Option Addr) (pn : List (Addr × Obj)), Zc cls d oe → (∃ vs, oe.data = .fields vs) → PSs (X.suite a ((a, oe) :: pn)) (b₀ :: suite) (ts a cls d)) (r : Hds2 X hds l) :
      Hds2 X (.ExceptHandler (some (.Name x np)) none (b₀ :: suite) pos' :: hds) ((c, none, ts) :: l)
  | consAs {x n : Str} {c : Value} {i : Nat} {ts : Addr → Value → Option Addr → TS} {b₀ : Stmt} {suite : List Stmt} {np pos' : Pos} {hds : List ExceptHandler} {l : List Cl} (hi : X.N[i]? = some n) (hln : X.env.kindOf n = some .local) (hc : Names X x c)
      (hsu : ∀ (a : Addr) (oe : Obj) (cls : Value) (d : Option Addr) (pn : List (Addr × Obj)), Zc cls d oe → (∃ vs, oe.data = .fields vs) → PSs (X.suite a ((a, oe) :: pn)) (b₀ :: suite) (ts a cls d)) (r : Hds2 X hds l) :
      Hds2 X (.ExceptHandler (some (.Name x np)) (some n) (b₀ :: suite) pos' :: hds) ((c, some i, ts) :: l)
/-- the exception at a has come down: it lies in t, which is otherwise as the body left it -/
structure Caught (X : Cx) (pins : List (Addr × Obj)) (a : Addr) (cls : Value) (d : Option Addr) (σ : L2.St) (H : Hp) (t : Shared) : Prop where
  ex : ∃ (B : Heap) (u : Shared), Inv X pins σ H u ∧ (∀ b o, u.heap.get? b = some o → b ∉ frs X.stack → B.get? b = some o) ∧ u.heap.UpToSlots t.heap ∧ HandSPX.FlyingZ B (X.env :: X.outer) a (Zc cls d) t.heap ∧ t.os = u.os ∧ AllBare t.gens
  gone : H a = none
section
variable {X : Cx} {pins : List (Addr × Obj)} {a : Addr} {cls : Value} {d : Option Addr} {σ : L2.St} {H : Hp} {t : Shared} {D : Ends} {Wout : WX}
theorem Caught.inv (c : Caught X pins a cls d σ H t) : Inv X pins σ H t := by
  obtain ⟨B, u, I, nb, up, fl, os, ag⟩ := c.ex
  exact I.landed nb fl.1 up os ag
theorem Caught.lies (c : Caught X pins a cls d σ H t) (hf : X.env.frame = some X.env.locals) : ∃ oe : Obj, (∃ vs, oe.data = .fields vs) ∧ t.heap.get? a = some oe ∧ Zc cls d oe ∧ Inv (X.suite a ((a, oe) :: (X.pn ++ pins))) [] σ H t := by
  obtain ⟨B, u, I, nb, up, fl, os, ag⟩ := c.ex
  obtain ⟨oe, vs, he, hz, hd⟩ := fl.there
  have out : ∀ b ∈ frs (X.env :: X.outer), a ≠ b := fun b hb z => by
    obtain ⟨_, o, e, n⟩ := fl.2.2.1.mem hb
    rw [← z, he] at e
    cases e
    exact n _ hd
  have n1 : a ≠ X.env.locals := out _ (List.mem_filterMap.mpr ⟨X.env, List.mem_cons_self, hf⟩)
  have n2 : a ∉ X.fs := fun hm => by
    obtain ⟨v, hv, q⟩ := List.mem_filterMap.mp hm
    exact out a (List.mem_filterMap.mpr ⟨v, List.mem_cons_of_mem _ hv, q⟩) rfl
  exact ⟨oe, ⟨vs, hd⟩, he, hz, c.inv.suite he hd c.gone n1 n2⟩
theorem Caught.again {M : Model} {A : Around} {E : Value → Shared → Prop} {Q : Unit → Shared → Prop} (c : Caught X pins a cls d σ H t) (q : ∀ h', Caught X pins a cls d σ H { t with heap := h' } → Q () { t with heap := h' }) : wpAny M A (setFlight (.ref a) none) Q E t := by
  obtain ⟨B, u, I, nb, up, fl, os, ag⟩ := c.ex
  exact HandSPX.lands_againZ fl fun h' f' u' => q h' ⟨⟨B, u, I, nb, up.trans u', f', os, ag⟩, c.gone⟩
/-- no clause has it -/
theorem Caught.on (c : Caught X pins a cls d σ H t) (hs : X.stack = X.env :: X.outer) (hf : X.env.frame = some X.env.locals) (tk : Takes X Wout) (w : Wout cls d σ H) : wpAny (model X.prog X.w) X.A (handleBy (.ref a) X.env []) (SP X pins D) X.xe t := by
  obtain ⟨B, u, I, nb, up, fl, os, ag⟩ := c.ex
  have up0 : wpAny (model X.prog X.w) X.A (setFlight (.ref a) X.env.frame) (fun _ s4 => wpAny (model X.prog X.w) X.A (throw (.ref a) : Sem Flow) (SP X pins D) X.xe s4) X.xe t := by
    rw [hf]
    exact HandSPX.setFlight_upZ fl fun h' held u' => wpAny_throw (tk _ _ ⟨a, B, u, pins, σ, H, cls, d, rfl, I, nb, up.trans u', .inr (.inr (by rw [hs]; exact held)), c.gone, os, ag, w⟩)
  refine wpAny_handleBy_nil ?_
  obtain ⟨_, _, _, _, vs, T, _, _, he, _, hd, h1, _⟩ := id fl
  have ne : ¬ ((Value.ref T == Value.none) = true) := by simp
  unfold PySem.passOn
  refine wpAny_bind (wpAny_field he hd h1 ?_)
  rw [if_neg ne]
  first
    | exact wpAny_bind (wpAny_pure (wpAny_bind up0))
    | exact wpAny_bind up0
/-- a clause's class is asked -/
theorem Caught.asked {x : Str} {c : Value} {np : Pos} {b : Bool} {A : Around} {Q : Bool → Shared → Prop} {E E' : Value → Shared → Prop} (k : Caught X pins a cls d σ H t) (hf : X.env.frame = some X.env.locals) (hA : A = X.A.mark (some (.ref a))) (hc : Names X x c) (hb : PySem.W.exmOne X.K cls c = some b) (q : Q b t) :
    wpAny (model X.prog X.w) A (eval (.Name x np) X.env) (fun u s1 => wpAny (model X.prog X.w) A (excMatches (.ref a) u) Q E' s1) E t := by
  obtain ⟨oe, ⟨vs, hd⟩, he, hz, S⟩ := k.lies hf
  have ty : PySem.W.Looks (model X.prog X.w) t.heap (typeOf (.ref a)) cls := fun A Q E s kk q => wpAny_typeOf_ref (kk _ _ he) (by rw [hz.1]; exact q)
  have m := (PySem.W.exm_one (M := model X.prog X.w) k.inv.kIn ty hb).here (A := A) (E := E') (Q := Q) q
  subst hA
  obtain ⟨hg, hdb, r | ⟨r, v, nn⟩⟩ := hc
  · exact ld_glob (X := X.suite a ((a, oe) :: (X.pn ++ pins))) S hg r m hdb
  · exact ld_blt (X := X.suite a ((a, oe) :: (X.pn ++ pins))) S hg r v m nn hdb
theorem Caught.run (hs : X.stack = X.env :: X.outer) (hf : X.env.frame = some X.env.locals) (hN : X.N.Nodup) (ok : X.Ok) (tk : Takes X Wout) {hds : List ExceptHandler} {l : List Cl} (hh : Hds2 X hds l) :
    ∀ {t : Shared}, Caught X pins a cls d σ H t → wAll X.K Wout D l cls d σ H → wpAny (model X.prog X.w) X.A (handleBy (.ref a) X.env hds) (SP X pins D) X.xe t := by
  induction hh with
  | nil => exact fun k w => k.on hs hf tk w
  | cons hc hsu r ih =>
    intro t k w
    obtain ⟨b, hb, yes, no⟩ := w
    refine wpAny_handleBy_cons (codeAny_handlers_test (k.asked hf rfl hc hb ?_)) (by intro z; cases z)
    cases b with
    | false => exact ih k (no rfl)
    | true =>
      refine codeAny_handlers_suite (k.again fun h' k' => ?_)
      obtain ⟨oe, hd, he, hz, S⟩ := k'.lies hf
      refine wpAny_mono ((hsu a oe cls d (X.pn ++ pins) hz hd).run [] _ _ H _ S (yes rfl a k.gone)) (fun f s6 p => ?_) (fun _ _ z => z.elim)
      cases f with
      | ret u => exact let ⟨v, σ6, H6, S6, r6, q6⟩ := p; ⟨v, σ6, H6, S6.unsuite ok, r6, q6⟩
      | _ => exact let ⟨σ6, H6, S6, q6⟩ := p; ⟨σ6, H6, S6.unsuite ok, q6⟩
  | @consAs x n c i ts b₀ suite np pos' hds2 l2 hi hln hc hsu r ih =>
    intro t k w
    obtain ⟨b, hb, yes, no⟩ := w
    refine wpAny_handleBy_cons (codeAny_handlers_test (k.asked hf rfl hc hb ?_)) (by intro z; cases z)
    cases b with
    | false => exact ih k (no rfl)
    | true =>
      refine codeAny_handlers_suite_as (k.again fun h' k' => ?_)
      obtain ⟨oe, hd, he, hz, S⟩ := k'.lies hf
      refine store_ok (X := X.suite a ((a, oe) :: (X.pn ++ pins))) (v := .ref a) S hN hi (.inl hln) rfl (fun s5 S5 => ?_) (.inr hln)
      refine wpAny_mono ((hsu a oe cls d (X.pn ++ pins) hz hd).run [] s5 _ H _ S5 (yes rfl a k.gone)) (fun f s6 p => ?_) (fun _ _ z => z.elim)
      cases f with
      | ret u => exact let ⟨v, σ6, H6, S6, r6, q6⟩ := p; gone_ok (S6.unsuite ok) hN hi hln fun s7 J7 => ⟨v, _, H6, J7, r6, q6⟩
      | _ => exact let ⟨σ6, H6, S6, q6⟩ := p; gone_ok (S6.unsuite ok) hN hi hln fun s7 J7 => ⟨_, H6, J7, q6⟩
variable {body : List Stmt} {h₀ : ExceptHandler} {hds : List ExceptHandler} {l : List Cl} {pos : Pos} {tb : WX → TS}
/-- try: body, except clauses with or without a name -/
theorem try_all (hs : X.stack = X.env :: X.outer) (hf : X.env.frame = some X.env.locals) (tk : Takes X Wout) (hN : X.N.Nodup)
    (hb : ∀ (W : WX) (pn : List (Addr × Obj)) (xe : Value → Shared → Prop), Takes (X.tr pn xe) W → PassesOwn (model X.prog X.w) X.A X.env xe → PSs (X.tr pn xe) body (tb W)) (hh : Hds2 X (h₀ :: hds) l) :
    PS X (.Try body (h₀ :: hds) [] [] pos) (fun D σ H => tb (wAll X.K Wout D l) D σ H) := by
  refine ⟨fun pins s σ H D I w => wpAny_Try_except ?_⟩
  have ok := I.ok
  have fr : X.A.frames = some (X.env :: X.outer) := by rw [ok.frames, hs]
  have inner := hb (wAll X.K Wout D l) (X.pn ++ pins) (fun e s1 => wpAny (model X.prog X.w) X.A (noteFrame e X.env) (fun _ s2 => wpAny (model X.prog X.w) X.A (setFlight e none) (fun _ s3 => wpAny (model X.prog X.w) X.A (handleBy e X.env (h₀ :: hds)) (SP X pins D) X.xe s3) X.xe s2) X.xe s1)
    (fun u s1 x => by
      obtain ⟨a, B, sI, pins', σ1, H1, cls, d, rfl, J, nb, up, sky, na, os, ag, w1⟩ := x
      have sky1 : Sky B (X.env :: X.outer) a (Zc cls d) X.env.locals s1.heap := hs ▸ sky
      exact Sky.land Zc.steady fr hf sky1 fun h' fl u' => Caught.run hs hf hN ok tk hh ⟨⟨B, sI, J.ofTry ok, nb, up.trans u', fl, os, ag⟩, na⟩ w1) PassesOwn.looking
  refine wpAny_mono (inner.run [] s σ H D (I.toTry _) w) (fun f s1 p => ?_) (fun _ _ z => z)
  cases f with
  | next => exact let ⟨σ1, H1, J, q⟩ := p; wpAny_execs_nil ⟨σ1, H1, J.ofTry ok, q⟩
  | ret u => exact let ⟨v, σ1, H1, J, r, q⟩ := p; ⟨v, σ1, H1, J.ofTry ok, r, q⟩
  | brk => exact let ⟨σ1, H1, J, q⟩ := p; ⟨σ1, H1, J.ofTry ok, q⟩
  | cont => exact let ⟨σ1, H1, J, q⟩ := p; ⟨σ1, H1, J.ofTry ok, q⟩
end
end L2.Pz
set_option Elab.async false
set_option linter.all false
set_option maxRecDepth 100000
set_option maxHeartbeats 4000000
set_option autoImplicit false
namespace L2.Pz
open PySem PySem.Spec PyProof.Rows
/-! ### what a try computes -/
abbrev PCl := Str × Option Nat × (Str → List (Str × D) → SF)
def onE : Option Nat → En → En
  | none, e => e
  | some i, e => e.set i (some (.exc 0))
def offE : Option Nat → En → En
  | none, e => e
  | some i, e => e.set i none
def noExc (e : En) : Bool := e.all fun h => match h with
  | some (.exc _) => false
  | _ => true
def offR (o : Option Nat) : RS → RS
  | .nx e J => if noExc (offE o e) = true then .nx (offE o e) J else .stuck
  | .bk e J => if noExc (offE o e) = true then .bk (offE o e) J else .stuck
  | .ct e J => if noExc (offE o e) = true then .ct (offE o e) J else .stuck
  | .rt h J => if isExc h = true then .stuck else .rt h J
  | _ => .stuck
def sHand (M : Str → Str → Option Bool) : List PCl → Str → List (Str × D) → SF
  | [], c, fs => fun _ env J => .err c fs env J
  | (x, o, h) :: r, c, fs => fun n env J => match M c x with
    | some true => offR o (h c fs n (onE o env) J)
    | some false => sHand M r c fs n env J
    | none => .stuck
def sTry (M : Str → Str → Option Bool) (body : SF) (hs : List PCl) : SF := fun n env J => match body n env J with
  | .err c fs e1 J1 => sHand M hs c fs n e1 J1
  | r => r
/-- name.m, the name of a held exception in slot i -/
def eFld (i : Nat) (m : Str) (fs : List (Str × D)) : EF := fun env J => match env[i]? with
  | some (some (.exc 0)) => (match fs.lookup m with | some d => .ok (.val d) J | none => .stuck)
  | _ => .stuck
section
variable {K : PySem.W.Frag} {Z : List Zx} {Xo : Addr → Prop} {js js' : List Addr} {H H' : Hp} {σ : L2.St} {env : En} {J : Jr} {W : WX} {n0 : Nat} {D : Ends}
theorem Fit.addZ (F : Fit K [] Xo js H σ env J) {z : Zx} (x : ExcAt K Xo js z.c z.fs z.cls z.od H) : Fit K [z] Xo js H σ env J :=
  ⟨F.out, F.nd, F.jx, F.len, F.slen, F.jar, fun i h e => by
    obtain ⟨v, h1, h2⟩ := F.slot i h e
    refine ⟨v, h1, ?_⟩
    cases h with
    | exc k => obtain ⟨z, hz, _⟩ := h2; simp at hz
    | val d => exact h2
    | jar k => exact h2
    | new ds => exact h2, fun y hy => by rw [List.mem_singleton.mp hy]; exact x⟩
theorem Fit.dropZ (F : Fit K Z Xo js H σ env J) (ne : noExc env = true) : Fit K [] Xo js H σ env J :=
  ⟨F.out, F.nd, F.jx, F.len, F.slen, F.jar, fun i h e => by
    obtain ⟨v, h1, h2⟩ := F.slot i h e
    refine ⟨v, h1, ?_⟩
    cases h with
    | exc k =>
      have := (List.all_eq_true.mp ne) _ (List.mem_of_getElem? e)
      cases this
    | val d => exact h2
    | jar k => exact h2
    | new ds => exact h2, fun y hy => by simp at hy⟩
theorem Fit.unset (F : Fit K Z Xo js H σ env J) (i : Nat) : Fit K Z Xo js H (σ.set i none) (env.set i none) J :=
  ⟨F.out, F.nd, F.jx, F.len, by rw [List.length_set, List.length_set]; exact F.slen, F.jar, fun j h e => by
    by_cases hj : i = j
    · subst hj
      by_cases hl : i < env.length
      · rw [List.getElem?_set_self hl] at e; cases e
      · rw [List.getElem?_eq_none (by rw [List.length_set]; omega)] at e; cases e
    · rw [List.getElem?_set_ne hj] at e ⊢
      exact F.slot j h e, F.ez⟩
theorem outN_drop {h : HV} {v : V} (ne : ¬ isExc h = true) (o : OutN K Z Xo js H H' [] [] J h v) : OutN K [] Xo js H H' [] [] J h v := by
  cases h with
  | exc k => exact absurd rfl ne
  | val d => exact ⟨o.1.bareZ, o.2⟩
  | jar k => exact ⟨o.1.bareZ, o.2⟩
  | new ds =>
    obtain ⟨p, vs, a1, a2, a3, a4, a5⟩ := o
    exact ⟨p, vs, a1, a2, a3, a4.bareZ, a5⟩
/-- the suite's end is the statement's -/
theorem post_off {z : Zx} {o : Option Nat} {r : RS} (s : Stp n0 js js' H H') (p : PostS K [] W n0 Xo js H D (offR o r)) : PostS K [z] W0 n0 Xo js' H' (match o with | none => D | some i => off D i) r := by
  have fit : ∀ {σ2 : L2.St} {js2 : List Addr} {H2 : Hp} {e : En} {J : Jr}, noExc (offE o e) = true → Fit K [z] Xo js2 H2 σ2 e J → Fit K [] Xo js2 H2 (match o with | none => σ2 | some i => σ2.set i none) (offE o e) J := by
    intro σ2 js2 H2 e J ne F
    cases o with
    | none => exact F.dropZ ne
    | some i => exact (F.unset i).dropZ ne
  cases r with
  | nx e J =>
    have p : PostS K [] W n0 Xo js H D (if noExc (offE o e) = true then .nx (offE o e) J else .stuck) := p
    by_cases ne : noExc (offE o e) = true
    · rw [if_pos ne] at p
      intro σ2 H2 js2 s2 F2
      have := p _ H2 js2 (s.trans s2) (fit ne F2)
      cases o <;> exact this
    · rw [if_neg ne] at p; exact p.elim
  | bk e J =>
    have p : PostS K [] W n0 Xo js H D (if noExc (offE o e) = true then .bk (offE o e) J else .stuck) := p
    by_cases ne : noExc (offE o e) = true
    · rw [if_pos ne] at p
      intro σ2 H2 js2 s2 F2
      have := p _ H2 js2 (s.trans s2) (fit ne F2)
      cases o <;> exact this
    · rw [if_neg ne] at p; exact p.elim
  | ct e J =>
    have p : PostS K [] W n0 Xo js H D (if noExc (offE o e) = true then .ct (offE o e) J else .stuck) := p
    by_cases ne : noExc (offE o e) = true
    · rw [if_pos ne] at p
      intro σ2 H2 js2 s2 F2
      have := p _ H2 js2 (s.trans s2) (fit ne F2)
      cases o <;> exact this
    · rw [if_neg ne] at p; exact p.elim
  | rt h J =>
    have p : PostS K [] W n0 Xo js H D (if isExc h = true then .stuck else .rt h J) := p
    by_cases ne : isExc h = true
    · rw [if_pos ne] at p; exact p.elim
    · rw [if_neg ne] at p
      intro v H2 js2 s2 o2
      have o3 : OutN K [z] Xo js2 H H2 [] [] J h v := by
        cases h with
        | val d => exact o2
        | jar k => exact o2
        | exc k => exact o2
        | new ds =>
          obtain ⟨q, us, a1, a2, a3⟩ := o2
          exact ⟨q, us, a1, s.back q a2, a3⟩
      have := p v H2 js2 (s.trans s2) (outN_drop ne o3)
      cases o <;> exact this
  | err c fs e J => exact p.elim
  | stuck => exact p.elim
end
/-- a suite's reading: some exception is held -/
def tSu (K : PySem.W.Frag) (n0 : Nat) (h : Str → List (Str × D) → SF) : Addr → Value → Option Addr → TS := fun a cls d Dn σ H => ∃ c fs, tS K [⟨a, c, fs, cls, d⟩] W0 n0 (h c fs) Dn σ H
section
variable {X : Cx} {n0 : Nat}
theorem su_all {h : Str → List (Str × D) → SF} {suite : List Stmt} (hsu : ∀ (z : Zx) (oe : Obj) (pn : List (Addr × Obj)), Zc z.cls z.od oe → (∃ vs, oe.data = .fields vs) → PSs (X.suite z.a ((z.a, oe) :: pn)) suite (tS X.K [z] W0 n0 (h z.c z.fs)))
    (a : Addr) (oe : Obj) (cls : Value) (d : Option Addr) (pn : List (Addr × Obj)) (hz : Zc cls d oe) (hf : ∃ vs, oe.data = .fields vs) : PSs (X.suite a ((a, oe) :: pn)) suite (tSu X.K n0 h a cls d) :=
  ⟨fun pins s σ H Dn I ⟨c, fs, w⟩ => (hsu ⟨a, c, fs, cls, d⟩ oe pn hz hf).run pins s σ H Dn I w⟩
abbrev mkCl (K : PySem.W.Frag) (n0 : Nat) (cs : List (Value × PCl)) : List Cl := cs.map fun p => (p.1, p.2.2.1, tSu K n0 p.2.2.2)
theorem hand_ok {W : WX} {M : Str → Str → Option Bool} {D0 : Ends} {Xo : Addr → Prop} {js js' : List Addr} {H H' : Hp} {σ' : L2.St} {e1 : En} {J1 : Jr} {c : Str} {fs : List (Str × D)} {cls : Value} {od : Option Addr} (F : Fit X.K [] Xo js' H' σ' e1 J1) (x : ExcAt X.K Xo js' c fs cls od H') (s : Stp n0 js js' H H') :
    ∀ (cs : List (Value × PCl)), (∀ p ∈ cs, ∀ c b, M c p.2.1 = some b → ∀ C, PySem.W.nsIn X.K mainGlobals c = some (some (.ref C)) → PySem.W.exmOne X.K (.ref C) p.1 = some b) → PostS X.K [] W n0 Xo js H D0 (sHand M (cs.map (·.2)) c fs n0 e1 J1) → wAll X.K W D0 (mkCl X.K n0 cs) cls od σ' H'
  | [], _, p => p cls od σ' H' js' x s F
  | (cv, xn, o, h) :: r, hM, p => by
    have p : PostS X.K [] W n0 Xo js H D0 (match M c xn with
      | some true => offR o (h c fs n0 (onE o e1) J1)
      | some false => sHand M (r.map (·.2)) c fs n0 e1 J1
      | none => .stuck) := p
    cases m : M c xn with
    | none => rw [m] at p; exact p.elim
    | some b =>
      rw [m] at p
      obtain ⟨C, c1, c2, _⟩ := id x
      have hm := hM _ List.mem_cons_self c b m C c1
      refine ⟨b, by rw [c2]; exact hm, fun hb a ha => ?_, fun hb => ?_⟩
      · subst hb
        have Fz : Fit X.K [⟨a, c, fs, cls, od⟩] Xo js' H' σ' e1 J1 := F.addZ (z := ⟨a, c, fs, cls, od⟩) x
        have q := post_off (z := ⟨a, c, fs, cls, od⟩) s p
        cases o with
        | none => exact ⟨c, fs, Xo, js', e1, J1, Fz, q⟩
        | some i => exact ⟨c, fs, Xo, js', _, J1, Fz.set i (h := .exc 0) (v := .ref a) ⟨⟨a, c, fs, cls, od⟩, rfl, rfl⟩, q⟩
      · subst hb
        exact hand_ok F x s r (fun q hq => hM q (List.mem_cons_of_mem _ hq)) p
theorem s_try {W : WX} {M : Str → Str → Option Bool} {body : List Stmt} {h₀ : ExceptHandler} {hds : List ExceptHandler} {cs : List (Value × PCl)} {pos : Pos} {f : SF} (hs : X.stack = X.env :: X.outer) (hf : X.env.frame = some X.env.locals) (tk : Takes X W) (hN : X.N.Nodup)
    (hb : ∀ (W : WX) (pn : List (Addr × Obj)) (xe : Value → Shared → Prop), Takes (X.tr pn xe) W → PassesOwn (model X.prog X.w) X.A X.env xe → PSs (X.tr pn xe) body (tS X.K [] W n0 f))
    (hh : Hds2 X (h₀ :: hds) (mkCl X.K n0 cs)) (hM : ∀ p ∈ cs, ∀ c b, M c p.2.1 = some b → ∀ C, PySem.W.nsIn X.K mainGlobals c = some (some (.ref C)) → PySem.W.exmOne X.K (.ref C) p.1 = some b) :
    PS X (.Try body (h₀ :: hds) [] [] pos) (tS X.K [] W n0 (sTry M f (cs.map (·.2)))) :=
  ps_mono (try_all hs hf tk hN (tb := fun W => tS X.K [] W n0 f) hb hh) fun D0 σ H ⟨Xo, js, env, J, F, p⟩ => by
    refine ⟨Xo, js, env, J, F, ?_⟩
    unfold sTry at p
    cases r : f n0 env J with
    | err c fs e1 J1 =>
      rw [r] at p
      exact fun cls od σ' H' js' x s F' => hand_ok F' x s cs hM p
    | nx e J => rw [r] at p; exact p
    | bk e J => rw [r] at p; exact p
    | ct e J => rw [r] at p; exact p
    | rt h J => rw [r] at p; exact p
    | stuck => rw [r] at p; exact p
theorem look_fld {K : PySem.W.Frag} {H : Hp} {Y : Addr → Prop} {m : Str} {d : D} : ∀ {fs : List (Str × D)} {us : List (Str × V)}, us.map (·.1) = fs.map (·.1) → Reps K H Y (fs.map (·.2)) (us.map (·.2)) → fs.lookup m = some d → ∃ v, us.lookup m = some v ∧ Rep K H Y d v
  | [], us, h1, h2, h3 => by cases h3
  | (a, e) :: fs, [], h1, h2, h3 => by cases h1
  | (a, e) :: fs, (b, u) :: us, h1, h2, h3 => by
    obtain ⟨v, r, e1, r1, r2⟩ := reps_cons.mp h2
    simp only [List.map_cons, List.cons.injEq] at h1 e1
    obtain ⟨hb, h1⟩ := h1
    have hb : b = a := hb
    subst hb
    cases hm : m == b with
    | true =>
      simp only [List.lookup_cons, hm] at h3 ⊢
      cases h3
      exact ⟨u, rfl, by rw [e1.1]; exact r1⟩
    | false =>
      simp only [List.lookup_cons, hm] at h3 ⊢
      exact look_fld h1 (by rw [e1.2]; exact r2) h3
theorem pn_fld {z : Zx} {W : WX} {C : Addr} {oe : Obj} {pn : List (Addr × Obj)} {i : Nat} {n m : Str} {p pos : Pos} (T : XfC X.K C) (hno : PySem.W.findIn X.K (.ref C) m = some none) (hC : PySem.W.nsIn X.K mainGlobals z.c = some (some (.ref C)))
    (hz : Zc z.cls z.od oe) (hf : ∃ vs, oe.data = .fields vs) (he : PE (X.suite z.a ((z.a, oe) :: pn)) (.Name n p) (tVar i)) (hb : attributeBase (.Name n p) m X.env (eval (.Name n p) X.env) = eval (.Name n p) X.env) :
    PE (X.suite z.a ((z.a, oe) :: pn)) (.Attribute (.Name n p) m pos) (tN X.K [z] W (eFld i m z.fs)) := pe_mono (pe_xf T hno hz hf he hb) fun σ H Q ⟨Xo, js, env, J, F, p⟩ => by
  unfold eFld at p
  cases hs : env[i]? with
  | none => rw [hs] at p; exact p.elim
  | some o =>
    cases o with
    | none => rw [hs] at p; exact p.elim
    | some y =>
      cases y with
      | val d => rw [hs] at p; exact p.elim
      | new d => rw [hs] at p; exact p.elim
      | jar k => rw [hs] at p; exact p.elim
      | exc k =>
        cases k with
        | succ k => rw [hs] at p; exact p.elim
        | zero =>
          rw [hs] at p
          have p : PostN X.K [z] W Xo js H σ env Q (match z.fs.lookup m with | some d => .ok (.val d) J | none => .stuck) := p
          cases hl : z.fs.lookup m with
          | none => rw [hl] at p; exact p.elim
          | some d =>
            rw [hl] at p
            obtain ⟨v, hv, z', hz', rfl⟩ := F.slot i _ hs
            have ez : z = z' := by simpa using hz'
            subst ez
            obtain ⟨C', c1, c2, dd, us, d1, d2, d3, d4⟩ := F.ez z List.mem_cons_self
            have eC : C' = C := by rw [c1] at hC; injection hC with e; injection e with e; injection e
            subst eC
            obtain ⟨u, hu, ru⟩ := look_fld d3 d4 hl
            exact ⟨_, hv, rfl, c2, dd, us, u, d1, d2, hu, p u H .refl ⟨F, ru⟩⟩
end
end L2.Pz
set_option Elab.async false
set_option linter.all false
set_option maxRecDepth 100000
set_option maxHeartbeats 4000000
set_option autoImplicit false
namespace L2.Pz
open PySem PySem.Spec PyProof.Rows
/-! ### calls that may raise within a try: the wish hangs on the slots -/
section
variable {X : Cx} {k : Nat} {g : Addr} {fd : FuncData} {ps ks : List Str} {sp : Sp} {W : WX} {x : Str} {p pos : Pos} {kws : List Keyword} {tkw : TA} {gg : List Value → List Value → List Value} {gV : List V → List V → List V} {Z : List Zx} {F : FT} {fs : List EF} {ix : List Nat}
theorem end_S {pins : List (Addr × Obj)} {σ : L2.St} {H : Hp} {s : Shared} {Q : VK} (tk : Takes X W) (I : Inv X pins σ H s) {r : Result} {s' : Shared} (h : CR (L2.CX X.prog X.w) X.stack X.prog X.w H s Q (fun cls d H => W cls d σ H) r s') :
    (match r with | .ok (.ret v) => EP X pins σ Q v s' | .ok _ => False | .error e => X.xe e s') := by
  rcases r with e | f
  · exact passAt tk σ pins H s e s' I h
  · cases f with
    | ret v => exact I.after h
    | next => exact False.elim h
    | brk => exact False.elim h
    | cont => exact False.elim h
theorem pe_callKS (G : FnOk X.prog X.w X.K X.mg X.base (L2.CX X.prog X.w) k g fd ps sp) (tk : Takes X W) (hr : Room k X.A) (hg : Gl X x) (hm : X.mg x = some (.ref g)) (hk : PySem.W.keepIn X.K (.ref g) = true) (hb : KBinds X.K fd ps ks gg gV)
    (hkw : PK X kws tkw) (hall : (backToKw pos (keywordEach kws X.env)).all (·.1.isSome) = true) (hks : (backToKw pos (keywordEach kws X.env)).filterMap (·.1) = ks)
    (hdb : (x == ("__debug__" : Str)) = false) (hpl : ((backTo pos (starEach [] X.env)).any (·.1) || (backToKw pos (keywordEach kws X.env)).any (·.1.isNone)) = false) :
    PE X (.Call (.Name x p) [] kws pos) (fun σ H Q => tkw σ H fun zs H2 => sp (gV [] zs) H2 Q (fun cls d H => W cls d σ H)) := by
  refine ⟨fun pins s σ H Q I h => wpAny_Call_Name_kw (ld_glob I hg hm ?_ hdb)⟩
  refine PySem.W.callWith_KW0 (h₀ := X.base) I.ok.mod.kin hk hall (thn (hkw.run pos pins s σ H _ I h) fun ws s2 ⟨zs, H2, J, rz, q⟩ => ⟨J.kIn, ?_⟩) hpl
  rw [hks]
  have r2 := hb.rel .nil rz
  have hl : (gg [] ws).length = ps.length := by rw [← r2.length]; exact G.len _ _ _ _ q
  refine wpAny_call (codeAny_mono (G.run X.A X.stack s2 H2 ⟨[], ks.zip ws⟩ (gg [] ws) (gV [] zs) Q _ hr J.env0 (hb.to s2 [] ws J.kIn hl) r2 q) fun r s' c => ?_)
  have e := end_S tk J c
  rcases r with r | f
  · exact e
  · cases f <;> exact e
theorem pn_callKS (G : FnOk X.prog X.w X.K X.mg X.base (L2.CX X.prog X.w) k g fd ps (spF X.K ps.length F)) (tk : Takes X W) (hr : Room k X.A) (hg : Gl X x) (hm : X.mg x = some (.ref g)) (hk : PySem.W.keepIn X.K (.ref g) = true)
    (hb : KBinds X.K fd ps ks (fun us ws => if us.isEmpty then permute ix ws else []) (fun us ws => if us.isEmpty then permute ix ws else [])) (hkw : PK X kws (tH X.K Z W fs)) (hn : ∀ i ∈ ix, i < fs.length) (hx : ix.length = ps.length)
    (hall : (backToKw pos (keywordEach kws X.env)).all (·.1.isSome) = true) (hks : (backToKw pos (keywordEach kws X.env)).filterMap (·.1) = ks)
    (hdb : (x == ("__debug__" : Str)) = false) (hpl : ((backTo pos (starEach [] X.env)).any (·.1) || (backToKw pos (keywordEach kws X.env)).any (·.1.isNone)) = false) :
    PE X (.Call (.Name x p) [] kws pos) (tN X.K Z W (eCallK F ix fs)) :=
  pe_mono (pe_callKS G tk hr hg hm hk hb hkw hall hks hdb hpl) fun σ H Q w => callK_read (E := fun cls d H => W cls d σ H) hn hx (fun _ _ _ z => z) (fun _ _ _ z => z) w
theorem pn_call0S (G : FnOk X.prog X.w X.K X.mg X.base (L2.CX X.prog X.w) k g fd ps (spF X.K ps.length F)) (tk : Takes X W) (hr : Room k X.A) (hg : Gl X x) (hm : X.mg x = some (.ref g)) (hk : PySem.W.keepIn X.K (.ref g) = true) (hb : Binds X.K fd ps [])
    (hn : ([] : List EF).length = ps.length) (hdb : (x == ("__debug__" : Str)) = false) : PE X (.Call (.Name x p) [] [] pos) (tN X.K Z W (eCall F [])) := by
  refine ⟨fun pins s σ H Q I h => wpAny_Call_Name_kw (ld_glob I hg hm ?_ hdb)⟩
  have q := call_read (X := X) (W := W) (t := tNil) (E := fun cls d H => W cls d σ H) hn (fun σ H Q ⟨Xo, js, env, J, Fi, p⟩ => p [] H .refl Fi rfl) (fun _ _ _ z => z) h
  have b := hb s [] I.kIn (by simpa using hn)
  refine PySem.W.callWith_K0 I.kIn hk (wpAny_call (codeAny_mono (G.run X.A X.stack s H ⟨[], []⟩ [] [] Q _ hr I.env0 (by simpa using b) .nil q) fun r s' c => ?_))
  have e := end_S tk I c
  rcases r with r | f
  · exact e
  · cases f <;> exact e
end
end L2.Pz
set_option Elab.async false
set_option linter.all false
set_option maxRecDepth 100000
set_option maxHeartbeats 4000000
set_option autoImplicit false
namespace L2.Pz
open PySem
/-! ### the logic: raise, try, a held exception's field -/
def excQ (o : Option (Option HV)) (Q : Prop) : Prop := match o with
  | some (some (.exc 0)) => Q
  | _ => False
@[simp] theorem excQ_some {Q : Prop} : excQ (some (some (.exc 0))) Q ↔ Q := Iff.rfl
def sufP (o : Option Nat) (P : Po) : Po where
  nx := fun e J => noExc (offE o e) = true ∧ P.nx (offE o e) J
  rt := fun h J => isExc h = false ∧ P.rt h J
  bk := fun e J => noExc (offE o e) = true ∧ P.bk (offE o e) J
  ct := fun e J => noExc (offE o e) = true ∧ P.ct (offE o e) J
  er := fun _ _ _ _ => False
section
variable {α : Type} {X : XP} {J : Jr} {env : En} {P : Po} {n : Nat} {M : Str → Str → Option Bool} {hs : List PCl} {c x m : Str} {fs : List (Str × D)} {o : Option Nat} {h : Str → List (Str × D) → SF} {f : SF} {ns : List Str} {es : List EF}
@[simp] theorem Ex_fld {i : Nat} {Q : HV → Jr → Prop} : Ex X (eFld i m fs env J) Q ↔ excQ env[i]? (OpQ (fs.lookup m) fun d => Q (.val d) J) := by
  unfold eFld
  cases h : env[i]? with
  | none => simp only [Ex_eq]; exact Iff.rfl
  | some y =>
    cases y with
    | none => simp only [Ex_eq]; exact Iff.rfl
    | some y =>
      cases y with
      | val d => simp only [Ex_eq]; exact Iff.rfl
      | jar d => simp only [Ex_eq]; exact Iff.rfl
      | new d => simp only [Ex_eq]; exact Iff.rfl
      | exc k =>
        cases k with
        | succ k => simp only [Ex_eq]; exact Iff.rfl
        | zero =>
          show Ex X (match fs.lookup m with | some d => .ok (.val d) J | none => .stuck) Q ↔ OpQ (fs.lookup m) fun d => Q (.val d) J
          cases fs.lookup m <;> (simp only [Ex_eq]; exact Iff.rfl)
@[simp] theorem Sx_raise : Sx P (sRaise c ns es n env J) ↔ Ex (fun c fs J => P.er c fs env J) (eItems es env J) fun ds J => ds.length = ns.length ∧ P.er c (ns.zip ds) env J := by
  unfold sRaise
  rw [Sx_on]
  refine Ex_iff fun ds J1 => ?_
  by_cases hl : ds.length = ns.length
  · simp [hl]
  · simp [hl]
@[simp] theorem Sx_try : Sx P (sTry M f hs n env J) ↔ Sx { P with er := fun c fs e J => Sx P (sHand M hs c fs n e J) } (f n env J) := by
  unfold sTry
  cases f n env J <;> (simp only [Sx_eq]; exact Iff.rfl)
@[simp] theorem Sx_hand0 : Sx P (sHand M [] c fs n env J) ↔ P.er c fs env J := Sx_err
theorem Sx_off {r : RS} : Sx P (offR o r) ↔ Sx (sufP o P) r := by
  cases r with
  | nx e J =>
    show Sx P (if noExc (offE o e) = true then .nx (offE o e) J else .stuck) ↔ _
    by_cases h : noExc (offE o e) = true <;> simp [h, sufP]
  | bk e J =>
    show Sx P (if noExc (offE o e) = true then .bk (offE o e) J else .stuck) ↔ _
    by_cases h : noExc (offE o e) = true <;> simp [h, sufP]
  | ct e J =>
    show Sx P (if noExc (offE o e) = true then .ct (offE o e) J else .stuck) ↔ _
    by_cases h : noExc (offE o e) = true <;> simp [h, sufP]
  | rt y J =>
    show Sx P (if isExc y = true then .stuck else .rt y J) ↔ _
    by_cases h : isExc y = true <;> simp [h, sufP]
  | err c fs e J => simp [offR, sufP]
  | stuck => simp [offR]
theorem Sx_hit (hm : M c x = some true) : Sx P (sHand M ((x, o, h) :: hs) c fs n env J) ↔ Sx (sufP o P) (h c fs n (onE o env) J) := by
  show Sx P (match M c x with
    | some true => offR o (h c fs n (onE o env) J)
    | some false => sHand M hs c fs n env J
    | none => .stuck) ↔ _
  rw [hm]
  exact Sx_off
theorem Sx_miss (hm : M c x = some false) : Sx P (sHand M ((x, o, h) :: hs) c fs n env J) ↔ Sx P (sHand M hs c fs n env J) := by
  show Sx P (match M c x with
    | some true => offR o (h c fs n (onE o env) J)
    | some false => sHand M hs c fs n env J
    | none => .stuck) ↔ _
  rw [hm]
end
end L2.Pz
set_option Elab.async false
set_option linter.all false
set_option maxRecDepth 100000
set_option maxHeartbeats 4000000
set_option autoImplicit false
namespace L2.Pz
open PySem PySem.Spec PyProof.Rows
/-! ### a module's constant -/
def mapO {α β : Type} (f : α → Option β) : List α → Option (List β)
  | [] => some []
  | u :: us => match f u, mapO f us with
    | some d, some ds => some (d :: ds)
    | _, _ => none
def plainD : Value → Option D
  | .none => some .non
  | .bool b => some (.bl b)
  | .int i _ => some (.int i)
  | .str x _ => some (.str x)
  | _ => none
/-- the datum that a value of the written part stands for (tuples within) -/
def readD (K : PySem.W.Frag) : Nat → Value → Option D
  | 0, u => plainD u
  | k + 1, .ref a => match K.lookup a with
    | some ⟨.type "tuple", _, .seq its _, _⟩ => if its.size ≤ 16777216 then (mapO (readD K k) its.toList).map D.tup else none
    | _ => none
  | k + 1, u => plainD u
theorem plain_ok {K : PySem.W.Frag} {u : Value} {d : D} (h : plainD u = some d) : ∃ v, RelV v u ∧ ∀ H Y, Rep K H Y d v := by
  cases u <;> first | cases h | skip
  · exact ⟨.non, rfl, fun _ _ => mk_non⟩
  · exact ⟨.bl _, rfl, fun _ _ => mk_bl⟩
  · exact ⟨.int _, ⟨_, rfl⟩, fun _ _ => mk_int⟩
  · exact ⟨.str _, ⟨_, rfl⟩, fun _ _ => mk_str⟩
theorem mapO_ok {K : PySem.W.Frag} {f : Value → Option D} (hf : ∀ u d, f u = some d → ∃ v, RelV v u ∧ ∀ H Y, Rep K H Y d v) : ∀ (us : List Value) (ds : List D), mapO f us = some ds → ∃ vs, Vals vs us ∧ ∀ H Y, Reps K H Y ds vs
  | [], ds, h => by cases h; exact ⟨[], .nil, fun _ _ => reps_nil.mpr rfl⟩
  | u :: us, ds, h => by
    unfold mapO at h
    cases h1 : f u with
    | none => rw [h1] at h; cases h
    | some d =>
      cases h2 : mapO f us with
      | none => rw [h1, h2] at h; cases h
      | some es =>
        rw [h1, h2] at h
        cases h
        obtain ⟨v, r, q⟩ := hf u d h1
        obtain ⟨vs, rs, qs⟩ := mapO_ok hf us es h2
        exact ⟨v :: vs, .cons r rs, fun H Y => reps_cons.mpr ⟨v, vs, rfl, q H Y, qs H Y⟩⟩
theorem readD_ok {K : PySem.W.Frag} : ∀ (k : Nat) (u : Value) (d : D), readD K k u = some d → ∃ v, RelV v u ∧ ∀ H Y, Rep K H Y d v
  | 0, u, d, h => plain_ok h
  | k + 1, u, d, h => by
    cases u with
    | ref a =>
      have h : (match K.lookup a with
        | some ⟨.type "tuple", _, .seq its _, _⟩ => if its.size ≤ 16777216 then (mapO (readD K k) its.toList).map D.tup else none
        | _ => none) = some d := h
      split at h
      · rename_i od its n sl e
        split at h
        · rename_i hs
          cases hm : mapO (readD K k) its.toList with
          | none => rw [hm] at h; cases h
          | some ds =>
            rw [hm] at h
            cases h
            obtain ⟨vs, rs, qs⟩ := mapO_ok (readD_ok k) _ _ hm
            exact ⟨.ref a, rfl, fun H Y => rep_tup.mpr ⟨a, vs, rfl, .inr ⟨_, its, n, e, rfl, rfl, by rw [sizeLine_eq]; exact hs, rs⟩, qs H Y⟩⟩
        · cases h
      · cases h
    | _ => exact plain_ok h
theorem pd_glob {X : Cx} {Z : List Zx} {W : WX} {x : Str} {u : Value} {d : D} {k : Nat} {pos : Pos} (hg : Gl X x) (hm : X.mg x = some u) (hr : readD X.K k u = some d) (hd : (x == ("__debug__" : Str)) = false) : PE X (.Name x pos) (tD X.K Z W (eC d)) := by
  obtain ⟨v, r, q⟩ := readD_ok k u d hr
  exact pd_c (t := tC v) (pe_glob hg hm r hd) q
end L2.Pz
set_option Elab.async false
set_option linter.all false
set_option maxRecDepth 100000
set_option maxHeartbeats 4000000
set_option autoImplicit false
namespace L2.Pz
open PySem PySem.Spec PyProof.Rows
/-! ### what a handler knows of the held exception -/
/-- a suite that is written for the class c0 alone -/
def sFor1 (c0 c : Str) (f : SF) : SF := if c = c0 then f else fun _ _ _ => .stuck
theorem su_if {X : Cx} {n0 : Nat} {Z : List Zx} {W : WX} {suite : List Stmt} {c0 c : Str} {f : SF} (h : c = c0 → PSs X suite (tS X.K Z W n0 f)) : PSs X suite (tS X.K Z W n0 (sFor1 c0 c f)) := by
  unfold sFor1
  by_cases e : c = c0
  · rw [if_pos e]; exact h e
  · rw [if_neg e]; exact ⟨fun pins s σ H Dn I ⟨Xo, js, env, J, F, p⟩ => p.elim⟩
/-- which class is caught by which: one handler's column -/
abbrev Xcol := List (Str × Bool)
def excOf (l : List (Str × Xcol)) (c x : Str) : Option Bool := (l.lookup x).bind fun r => r.lookup c
theorem xcol_ok {K : PySem.W.Frag} {v : Value} : ∀ (r : Xcol), (∀ p ∈ r, ∃ C, PySem.W.nsIn K mainGlobals p.1 = some (some (.ref C)) ∧ PySem.W.exmOne K (.ref C) v = some p.2) → ∀ c b, r.lookup c = some b → ∀ C, PySem.W.nsIn K mainGlobals c = some (some (.ref C)) → PySem.W.exmOne K (.ref C) v = some b
  | [], _, c, b, h => by cases h
  | (c0, b0) :: r, hr, c, b, h => by
    intro C hC
    by_cases e : (c == c0) = true
    · simp only [List.lookup_cons, e] at h
      cases h
      have e := eq_of_beq e
      subst e
      obtain ⟨C', h1, h2⟩ := hr _ List.mem_cons_self
      have h1 : PySem.W.nsIn K mainGlobals c = some (some (.ref C')) := h1
      rw [h1] at hC
      cases hC
      exact h2
    · rw [Bool.not_eq_true] at e
      simp only [List.lookup_cons, e] at h
      exact xcol_ok r (fun p hp => hr p (List.mem_cons_of_mem _ hp)) c b h C hC
theorem xcol_cons {K : PySem.W.Frag} {v : Value} {c : Str} {b : Bool} {C : Addr} {r : Xcol} (h1 : PySem.W.nsIn K mainGlobals c = some (some (.ref C))) (h2 : PySem.W.exmOne K (.ref C) v = some b)
    (hr : ∀ p ∈ r, ∃ C, PySem.W.nsIn K mainGlobals p.1 = some (some (.ref C)) ∧ PySem.W.exmOne K (.ref C) v = some p.2) : ∀ p ∈ (c, b) :: r, ∃ C, PySem.W.nsIn K mainGlobals p.1 = some (some (.ref C)) ∧ PySem.W.exmOne K (.ref C) v = some p.2
  | p, hp => by
    rcases List.mem_cons.mp hp with rfl | hp
    · exact ⟨C, h1, h2⟩
    · exact hr p hp
theorem xcol_nil {K : PySem.W.Frag} {v : Value} : ∀ p ∈ ([] : Xcol), ∃ C, PySem.W.nsIn K mainGlobals p.1 = some (some (.ref C)) ∧ PySem.W.exmOne K (.ref C) v = some p.2 := fun p hp => by cases hp
/-- the clauses, one by one -/
abbrev ColOk (K : PySem.W.Frag) (M : Str → Str → Option Bool) (v : Value) (x : Str) : Prop := ∀ c b, M c x = some b → ∀ C, PySem.W.nsIn K mainGlobals c = some (some (.ref C)) → PySem.W.exmOne K (.ref C) v = some b
theorem cols_nil {K : PySem.W.Frag} {M : Str → Str → Option Bool} : ∀ p ∈ ([] : List (Value × PCl)), ColOk K M p.1 p.2.1 := fun p hp => by cases hp
theorem cols_cons {K : PySem.W.Frag} {M : Str → Str → Option Bool} {v : Value} {q : PCl} {cs : List (Value × PCl)} (h : ColOk K M v q.1) (hr : ∀ p ∈ cs, ColOk K M p.1 p.2.1) : ∀ p ∈ (v, q) :: cs, ColOk K M p.1 p.2.1
  | p, hp => by
    rcases List.mem_cons.mp hp with rfl | hp
    · exact h
    · exact hr p hp
section
variable {X : Cx} {Z : List Zx} {W : WX} {f g k : EF}
theorem chain_read {r r' : R2} {fo go : F2} {σ : L2.St} {H : Hp} {Q : V → Hp → Prop} (sem : Sem2 X.K r fo) (sem' : Sem2 X.K r' go) : tN X.K Z W (eChain fo go f g k) σ H Q → tChain r r' (tD X.K Z W f) (tD X.K Z W g) (tD X.K Z W k) σ H Q := fun ⟨Xo, js, env, J, F, p⟩ => by
  refine ⟨Xo, js, env, J, F, ?_⟩
  unfold eChain at p
  cases hf : f env J with
  | stuck => rw [hf] at p; exact p.elim
  | err c fs J1 => rw [hf] at p; exact p
  | ok h1 J1 =>
    rw [hf] at p
    intro x H1 e1 F1 x1
    refine ⟨Xo, js, env, J1, F1, ?_⟩
    have p : PostN X.K Z W Xo js H σ env Q ((g env J1).bind fun h2 J2 => (toB (app2 fo J2 h1 h2)).bind fun b J3 => if b = true then (k env J3).bind fun h3 J4 => app2 go J4 h2 h3 else .ok (.val (.bl false)) J3) := p
    cases hg : g env J1 with
    | stuck => rw [hg] at p; exact p.elim
    | err c fs J2 => rw [hg] at p; exact p.later e1
    | ok h2 J2 =>
      rw [hg] at p
      intro y H2 e2 F2 y2
      refine app2_read (W := W) sem (H := H2) .refl F2 (x1.ext F1 e2) y2 ?_
      have p : PostN X.K Z W Xo js H σ env Q ((toB (app2 fo J2 h1 h2)).bind fun b J3 => if b = true then (k env J3).bind fun h3 J4 => app2 go J4 h2 h3 else .ok (.val (.bl false)) J3) := p
      cases hr : app2 fo J2 h1 h2 with
      | stuck => rw [hr] at p; exact p.elim
      | err c fs J3 => rw [hr] at p; exact p.later (e1.trans e2)
      | ok z J3 =>
        rw [hr] at p
        intro v H3 e3 o
        have e03 := (e1.trans e2).trans e3
        cases z with
        | jar k => exact p.elim
        | exc k => exact p.elim
        | new ds => exact p.elim
        | val d =>
          cases d with
          | bl q =>
            refine ⟨q, outN_bl o, ?_⟩
            cases q with
            | false => exact iteF (p (.bl false) H3 e03 (out_bl o.1))
            | true =>
              refine iteT ⟨Xo, js, env, J3, o.1, ?_⟩
              have p : PostN X.K Z W Xo js H σ env Q ((k env J3).bind fun h3 J4 => app2 go J4 h2 h3) := p
              cases hk : k env J3 with
              | stuck => rw [hk] at p; exact p.elim
              | err c fs J4 => rw [hk] at p; exact p.later e03
              | ok h3 J4 =>
                rw [hk] at p
                intro u H4 e4 F4 u4
                exact app2_read sem' (e03.trans e4) F4 ((y2.ext F2 e3).ext o.1 e4) u4 p
          | _ => exact p.elim
/-- a op1 b op2 c, the expression known -/
theorem pn_chainD {a b c : Expr} {op op' : CmpOp} {r r' : R2} {fo go : F2} {pos : Pos} (ho : OpR X (compareOp op) r) (ho' : OpR X (compareOp op') r') (sem : Sem2 X.K r fo) (sem' : Sem2 X.K r' go) (ha : PE X a (tD X.K Z W f)) (hb : PE X b (tD X.K Z W g)) (hc : PE X c (tD X.K Z W k))
    (hm : lastMarks [op, op'] [b, c] = false) : PE X (.Compare a [op, op'] [b, c] pos) (tN X.K Z W (eChain fo go f g k)) := pe_mono (pe_chain ho ho' ha hb hc hm) fun σ H Q w => chain_read sem sem' w
def bChain (fo go : F2) (f g k : EF) : BF := fun env J => toB (eChain fo go f g k env J)
theorem pt_chainD {a b c : Expr} {op op' : CmpOp} {r r' : R2} {fo go : F2} {pos : Pos} (ho : OpR X (compareOp op) r) (ho' : OpR X (compareOp op') r') (sem : Sem2 X.K r fo) (sem' : Sem2 X.K r' go) (ha : PE X a (tD X.K Z W f)) (hb : PE X b (tD X.K Z W g)) (hc : PE X c (tD X.K Z W k))
    (hm : lastMarks [op, op'] [b, c] = false) : PT X (.Compare a [op, op'] [b, c] pos) (tT X.K Z W (bChain fo go f g k)) := pt_mono (pt_chain ho ho' ha hb hc hm) fun σ H Q w => chain_read sem sem' (toB_read w)
end
end L2.Pz
set_option Elab.async false
set_option linter.all false
set_option maxRecDepth 100000
set_option maxHeartbeats 4000000
set_option autoImplicit false
namespace L2.Pz
open PySem PySem.Spec PyProof.Rows
/-! ### more builtins -/
def asBls : List D → Option (List Bool)
  | [] => some []
  | .bl b :: r => (asBls r).map (b :: ·)
  | _ => none
def dAll : F1
  | .lst ds => match asBls ds with
    | some bs => some (.val (.bl (bs.all id)))
    | none => none
  | _ => none
theorem asBls_map : ∀ {ds : List D} {bs : List Bool}, asBls ds = some bs → ds = bs.map D.bl
  | [], ns, h => by cases h; rfl
  | .bl i :: r, ns, h => by
    unfold asBls at h
    cases e : asBls r with
    | none => rw [e] at h; cases h
    | some ms =>
      rw [e] at h
      cases h
      rw [asBls_map e]; rfl
  | .non :: r, _, h => by cases h
  | .int _ :: r, _, h => by cases h
  | .str _ :: r, _, h => by cases h
  | .tup _ :: r, _, h => by cases h
  | .lst _ :: r, _, h => by cases h
section
variable {K : PySem.W.Frag} {H H' : Hp} {Y : Addr → Prop} {v x y : V} {Z : List Zx}
theorem reps_bls : ∀ {bs : List Bool} {vs : List V}, Reps K H Y (bs.map D.bl) vs → vs = bs.map V.bl
  | [], vs, h => reps_nil.mp h
  | b :: bs, vs, h => by
    obtain ⟨v, r, e, h1, h2⟩ := reps_cons.mp h
    subst e
    rw [reps_bls h2]
    cases h1
    rfl
theorem sem_all : Sem1 K (fun x H Q => rAll K [x] H Q) dAll := by
  intro H Y x d z Q hl hx hz q
  unfold dAll at hz
  split at hz
  · rename_i ds
    split at hz
    · rename_i bs hn
      cases hz
      obtain ⟨a, vs, rfl, s, r⟩ := hx
      rw [asBls_map hn] at r
      have e := reps_bls r
      subst e
      exact ⟨a, bs, rfl, s, q _ _ (po_val mk_bl)⟩
    · cases hz
  · cases hz
end
end L2.Pz
namespace L2.Pz
open PySem PySem.Spec PyProof.Rows
def asStrs : List D → Option (List Str)
  | [] => some []
  | .str b :: r => (asStrs r).map (b :: ·)
  | _ => none
/-- sep.join(a list or tuple of texts) -/
def dJoin (a : Str) : F1
  | .lst ds => match asStrs ds with
    | some ys => if (ys.map (·.length)).sum + ys.length * a.length ≤ 16777216 then some (.val (.str (Txt.join a ys))) else none
    | none => none
  | .tup ds => match asStrs ds with
    | some ys => if (ys.map (·.length)).sum + ys.length * a.length ≤ 16777216 then some (.val (.str (Txt.join a ys))) else none
    | none => none
  | _ => none
def dUpper : F1
  | .str a => if a.length ≤ 5592405 then some (.val (.str (Txt.upper a))) else none
  | _ => none
def dLower : F1
  | .str a => if a.length ≤ 5592405 then some (.val (.str (Txt.lower a))) else none
  | _ => none
theorem asStrs_map : ∀ {ds : List D} {bs : List Str}, asStrs ds = some bs → ds = bs.map D.str
  | [], ns, h => by cases h; rfl
  | .str i :: r, ns, h => by
    unfold asStrs at h
    cases e : asStrs r with
    | none => rw [e] at h; cases h
    | some ms =>
      rw [e] at h
      cases h
      rw [asStrs_map e]; rfl
  | .non :: r, _, h => by cases h
  | .int _ :: r, _, h => by cases h
  | .bl _ :: r, _, h => by cases h
  | .tup _ :: r, _, h => by cases h
  | .lst _ :: r, _, h => by cases h
section
variable {X : Cx} {Z : List Zx} {W : WX} {f : EF} {K : PySem.W.Frag} {H H' : Hp} {Y : Addr → Prop} {v x y : V}
theorem reps_strs : ∀ {bs : List Str} {vs : List V}, Reps K H Y (bs.map D.str) vs → vs = bs.map V.str
  | [], vs, h => reps_nil.mp h
  | b :: bs, vs, h => by
    obtain ⟨v, r, e, h1, h2⟩ := reps_cons.mp h
    subst e
    rw [reps_strs h2]
    cases h1
    rfl
theorem sem_join {a : Str} : Sem1 K (fun x H Q => ∃ b p, ∃ ys : List Str, V.str a = .str b ∧ [x] = [.ref p] ∧ (SqL K H p (ys.map V.str) ∨ SqT K H p (ys.map V.str)) ∧ (ys.map (·.length)).sum + ys.length * b.length ≤ 16777216 ∧ Q (.str (Txt.join b ys)) H) (dJoin a) := by
  intro H Y x d z Q hl hx hz q
  unfold dJoin at hz
  split at hz
  · split at hz
    · rename_i ys hn
      split at hz
      · rename_i hs
        cases hz
        obtain ⟨p, vs, rfl, s, r⟩ := hx
        rw [asStrs_map hn] at r
        have e := reps_strs r
        subst e
        exact ⟨a, p, ys, rfl, rfl, .inl s, hs, q _ _ (po_val mk_str)⟩
      · cases hz
    · cases hz
  · split at hz
    · rename_i ys hn
      split at hz
      · rename_i hs
        cases hz
        obtain ⟨p, vs, rfl, s, r⟩ := top_tup hx
        rw [asStrs_map hn] at r
        have e := reps_strs r
        subst e
        exact ⟨a, p, ys, rfl, rfl, .inr s, hs, q _ _ (po_val mk_str)⟩
      · cases hz
    · cases hz
  · cases hz
theorem sem_upper : Sem1 K (fun x H Q => (∃ a, x = .str a) ∧ ∃ a, x = .str a ∧ ([] : List V) = [] ∧ a.length ≤ 5592405 ∧ Q (.str (Txt.upper a)) H) dUpper := by
  intro H Y x d z Q hl hx hz q
  unfold dUpper at hz
  split at hz
  · split at hz
    · rename_i hs
      cases hz
      have e := top_str hx
      subst e
      exact ⟨⟨_, rfl⟩, _, rfl, rfl, hs, q _ _ (po_val mk_str)⟩
    · cases hz
  · cases hz
theorem sem_lower : Sem1 K (fun x H Q => (∃ a, x = .str a) ∧ ∃ a, x = .str a ∧ ([] : List V) = [] ∧ a.length ≤ 5592405 ∧ Q (.str (Txt.lower a)) H) dLower := by
  intro H Y x d z Q hl hx hz q
  unfold dLower at hz
  split at hz
  · split at hz
    · rename_i hs
      cases hz
      have e := top_str hx
      subst e
      exact ⟨⟨_, rfl⟩, _, rfl, rfl, hs, q _ _ (po_val mk_str)⟩
    · cases hz
  · cases hz
theorem pn_upper {o : Expr} {apos pos : Pos} (ho : PE X o (tD X.K Z W f)) (hbase : attributeBase o "upper" X.env (eval o X.env) = eval o X.env) (hline : (apos.endLine == pos.line) = true) :
    PE X (.Call (.Attribute o "upper" apos) [] [] pos) (tN X.K Z W (eUn dUpper f)) := pe_mono (pe_upper ho hbase hline) fun σ H Q w => un_read sem_upper (fun _ _ _ z => z) w
theorem pn_lower {o : Expr} {apos pos : Pos} (ho : PE X o (tD X.K Z W f)) (hbase : attributeBase o "lower" X.env (eval o X.env) = eval o X.env) (hline : (apos.endLine == pos.line) = true) :
    PE X (.Call (.Attribute o "lower" apos) [] [] pos) (tN X.K Z W (eUn dLower f)) := pe_mono (pe_lower ho hbase hline) fun σ H Q w => un_read sem_lower (fun _ _ _ z => z) w
theorem pn_join {o e : Expr} {a : Str} {apos pos : Pos} (ho : PE X o (tC (.str a))) (he : PE X e (tD X.K Z W f)) (hs : starEach [e] X.env = [(false, eval e X.env)]) (hbase : attributeBase o "join" X.env (eval o X.env) = eval o X.env) (hline : (apos.endLine == pos.line) = true) :
    PE X (.Call (.Attribute o "join" apos) [e] [] pos) (tN X.K Z W (eUn (dJoin a) f)) := pe_mono (pe_join ho he hs hbase hline) fun σ H Q w => ⟨⟨a, rfl⟩, un_read sem_join (fun _ _ _ z => z) w⟩
end
end L2.Pz
namespace L2.Pz
open PySem PySem.Spec PyProof.Rows
/-- str(an int) -/
def dStrI : F1
  | .int i => if i.natAbs.log2 < 1920 then some (.val (.str (toString i))) else none
  | _ => none
theorem sem_strI {K : PySem.W.Frag} : Sem1 K (fun x H Q => ∃ i, [x] = [V.int i] ∧ i.natAbs.log2 < 1920 ∧ Q (.str (toString i)) H) dStrI := by
  intro H Y x d z Q hl hx hz q
  unfold dStrI at hz
  split at hz
  · split at hz
    · rename_i hs
      cases hz
      have e := top_int hx
      subst e
      exact ⟨_, rfl, hs, q _ _ (po_val mk_str)⟩
    · cases hz
  · cases hz
end L2.Pz
namespace L2.Pz
open PySem PySem.Spec PyProof.Rows
/-- a.split() and a.split(b) -/
def dWords : F1
  | .str a => if a.length + 2 ≤ big then some (.new ((Txt.words a).map D.str)) else none
  | _ => none
theorem reps_of_strs {K : PySem.W.Frag} {H : Hp} {Y : Addr → Prop} : ∀ {ys : List Str}, Reps K H Y (ys.map D.str) (ys.map V.str)
  | [] => reps_nil.mpr rfl
  | y :: ys => reps_cons.mpr ⟨_, _, rfl, mk_str, reps_of_strs⟩
theorem sem_words {K : PySem.W.Frag} : Sem1 K (fun x H Q => (∃ a, x = .str a) ∧ ∃ a, x = .str a ∧ ([] : List V) = [] ∧ a.length + 2 ≤ sizeLine ∧ rNewStrs (Txt.words a) H Q) dWords := by
  intro H Y x d z Q hl hx hz q
  unfold dWords at hz
  split at hz
  · split at hz
    · rename_i hs
      cases hz
      have e := top_str hx
      subst e
      exact ⟨⟨_, rfl⟩, _, rfl, rfl, by rw [sizeLine_eq]; exact hs, fun p hp => q _ _ (po_newl hl hp reps_of_strs)⟩
    · cases hz
  · cases hz
section
variable {X : Cx} {Z : List Zx} {W : WX} {f : EF}
theorem pn_words {o : Expr} {apos pos : Pos} (ho : PE X o (tD X.K Z W f)) (hbase : attributeBase o "split" X.env (eval o X.env) = eval o X.env) (hline : (apos.endLine == pos.line) = true) :
    PE X (.Call (.Attribute o "split" apos) [] [] pos) (tN X.K Z W (eUn dWords f)) := pe_mono (pe_words ho hbase hline) fun σ H Q w => un_read sem_words (fun _ _ _ z => z) w
end
end L2.Pz
namespace L2.Pz
open PySem PySem.Spec PyProof.Rows
def dSplit (b : Str) : F1
  | .str a => if (b.length == 0) = false ∧ a.length + 2 ≤ big then some (.new ((Txt.split a b).map D.str)) else none
  | _ => none
theorem sem_split {K : PySem.W.Frag} {b : Str} : Sem1 K (fun x H Q => (∃ a, x = .str a) ∧ ∃ a c, x = .str a ∧ [V.str b] = [.str c] ∧ (c.length == 0) = false ∧ a.length + 2 ≤ sizeLine ∧ rNewStrs (Txt.split a c) H Q) (dSplit b) := by
  intro H Y x d z Q hl hx hz q
  unfold dSplit at hz
  split at hz
  · split at hz
    · rename_i hs
      cases hz
      have e := top_str hx
      subst e
      exact ⟨⟨_, rfl⟩, _, _, rfl, rfl, hs.1, by rw [sizeLine_eq]; exact hs.2, fun p hp => q _ _ (po_newl hl hp reps_of_strs)⟩
    · cases hz
  · cases hz
section
variable {X : Cx} {Z : List Zx} {W : WX} {f : EF}
theorem pn_split {o e : Expr} {b : Str} {apos pos : Pos} (ho : PE X o (tD X.K Z W f)) (he : PE X e (tC (.str b))) (hs : starEach [e] X.env = [(false, eval e X.env)]) (hbase : attributeBase o "split" X.env (eval o X.env) = eval o X.env) (hline : (apos.endLine == pos.line) = true) :
    PE X (.Call (.Attribute o "split" apos) [e] [] pos) (tN X.K Z W (eUn (dSplit b) f)) := pe_mono (pe_split ho he hs hbase hline) fun σ H Q w => un_read sem_split (fun _ _ _ z => z) w
end
end L2.Pz
set_option Elab.async false
set_option linter.all false
set_option maxRecDepth 100000
set_option maxHeartbeats 4000000
set_option autoImplicit false
/-! isinstance of a held exception that keeps attributes; a def that asks a held exception, called in a suite -/
namespace PySem.W
open PySem PySem.Spec PySem.Calls PyProof.Rows
section
variable {prog : Program} {w : World} {A : Around} {E : Value → Shared → Prop} {s : Shared} {K : Frag} {x D : Addr} {ox : Obj} {od : Option Obj}
theorem findObj_data_pz {C : Addr} {name : Str} {a g : Value} (hc : (clsIn K C).isSome = true) (ha : findIn K (.ref C) name = some (some a)) (hg : specialIn K a "__get__" = some (some g)) (ht : takesIn K a = some true) : findObj K C od name = some (.bind g a) := by
  obtain ⟨cd, hc⟩ := Option.isSome_iff_exists.mp hc
  unfold findObj
  rw [hc, Option.bind_some, ha, Option.bind_some]
  simp [hg, ht]
theorem kin_class_pz {Q : Option Value → Shared → Prop} (hga : findIn K (.ref D) "__getattribute__" = some (some (.builtin "BaseException.__getattribute__"))) (hgt : findIn K (.ref D) "__getattr__" = some none) (hsub : subIn K (.ref D) (.type "BaseException") = some true)
    (hdct : hasDictIn K D = true) (ha : findIn K (.ref D) "__class__" = some (some (.builtin "object.__class__")))
    (hn : specialIn K (.builtin "object.__class__") "__get__" = some (some (.builtin "getset_descriptor.__get__"))) (htk : takesIn K (.builtin "object.__class__") = some true) (hm : mroIn K D (.type "object") = some true)
    (X : K.In s.heap) (I : InstAt s.heap x ox D od) (h : Q (some (.ref D)) { s with toks := s.toks + 1 }) : wpAny (model prog w) A (getAttr? (.ref x) "__class__") Q E s := by
  have hf : findObj K D od "__class__" = some (.bind (.builtin "getset_descriptor.__get__") (.builtin "object.__class__")) := findObj_data_pz (by obtain ⟨cd, hc, _⟩ := any_some hdct; rw [hc]; rfl) ha hn htk
  obtain ⟨hp, g, d, t, os⟩ := s
  have L0 := I.type (M := model prog w)
  have L1 := looks_findIn (M := model prog w) X hga
  have L2 := looks_findIn (M := model prog w) X hgt
  have L3 := looks_find (M := model prog w) X I hf
  have sub : Looks (model prog w) hp (isInstance (.ref x) (.type "BaseException")) true := L0.andThen (looks_subIn X hsub)
  have hx0 : (false && onTheHeap (Value.builtin "BaseException.__getattribute__")) = false := rfl
  have hx2 : (Value.builtin "BaseException.__getattribute__" == Value.builtin "object.__getattribute__") = false := by decide +kernel
  have hx1 : (onTheHeap (Value.ref D) && Value.builtin "BaseException.__getattribute__" == Value.builtin "object.__getattribute__") = false := by rw [hx2]; rfl
  unfold getAttr? getAttrBy? getAttrBy
  refine wpAny_bind (wpAny_mkText (wpAny_bind (wpAny_attempt (wpAny_holding (wpAny_bind (L0.at (wpAny_bind (L1.at ?_))))))))
  show wpAny _ _ (if (onTheHeap (Value.ref D) && Value.builtin "BaseException.__getattribute__" == Value.builtin "object.__getattribute__") = true then _ else _) _ _ _
  rw [hx1, if_neg Bool.false_ne_true]
  unfold getAttrByItsOwn hookBefore
  refine wpAny_bind ?_
  rw [if_pos (show onTheHeap (Value.ref D) = true from rfl)]
  refine L2.at ?_
  refine wpAny_bind (wpAny_attempt (wpAny_holding ?_))
  unfold callGetattribute
  rw [hx0, if_neg Bool.false_ne_true]
  unfold boundAndCalled
  rw [PySem.F.excAttr_ValueError.ga.bind (.ref x)]
  refine wpAny_bind (wpAny_pure ?_)
  show wpAny _ _ (call (.builtin "BaseException.__getattribute__") [.ref x, .str "__class__" t]) _ _ _
  refine wpAny_call (codeAny_call_builtin PySem.F.excAttr_ValueError.ga.plain PySem.F.entry_bexc_ga ?_)
  refine @check_slot (model prog w) _ _ ⟨hp, g, d, t + 1, os⟩ "BaseException.__getattribute__" "BaseException" "__getattribute__" (.ref x) [.str "__class__" t] [] _ (by decide +kernel) (by decide +kernel) sub (PySem.F.args_bexc_ga (.ref x) (.str "__class__" t)) ?_
  unfold Builtin.«object.__getattribute__»
  refine wpAny_bind (wpAny_of_eq (a := ((Value.ref x : Value), [Value.str "__class__" t])) (by first | rfl | (simp only [slotArgs]; rfl)) ?_)
  refine wpAny_bind (wpAny_pure (wpAny_bind (L0.at (wpAny_bind (L3.at ?_)))))
  show wpAny _ _ (holding [Value.builtin "object.__class__"] (call (.builtin "getset_descriptor.__get__") [.builtin "object.__class__", .ref x, .ref D]) >>= ret) _ _ _
  refine wpAny_bind (wpAny_holding (wpAny_call (class_get (s := ⟨hp, g, d, t + 1, os⟩) (ox := ox) (od := od) X I hm ?_)))
  refine wpAny_pure ?_
  show wpAny _ _ (handedOut (.ref D)) _ _ _
  rw [handedOut_of (v := .ref D) rfl]
  first
    | exact wpAny_pure (wpAny_pure h)
    | exact wpAny_pure h
    | exact wpAny_pure (wpAny_bind (wpAny_pure (wpAny_pure h)))
theorem kitx_pz (hga : findIn K (.ref D) "__getattribute__" = some (some (.builtin "BaseException.__getattribute__"))) (hgt : findIn K (.ref D) "__getattr__" = some none) (hsub : subIn K (.ref D) (.type "BaseException") = some true) (hdct : hasDictIn K D = true) (ha : findIn K (.ref D) "__class__" = some (some (.builtin "object.__class__")))
    (hn : specialIn K (.builtin "object.__class__") "__get__" = some (some (.builtin "getset_descriptor.__get__"))) (htk : takesIn K (.builtin "object.__class__") = some true) (hm : mroIn K D (.type "object") = some true) :
    KitX K (.ref x) (.ref D) (fun h => InstAt h x ox D od) where
  ty := fun _ _ _ I => I.type
  it := fun _ _ X _ => by
    obtain ⟨cdD, hcD, _⟩ := any_some hdct
    unfold clsIn at hcD
    split at hcD
    · rename_i c' d' cd' sl' ho
      intro A' Q' E' s' k q
      unfold isType loadHead
      exact wpAny_bind (wpAny_loadPart (k _ _ (X _ _ ho)) (wpAny_pure q))
    · cases hcD
  ne := fun h tp dd its n sl X htp => by
    obtain ⟨cdD, hcD, _⟩ := any_some hdct
    refine Bool.eq_false_iff.mpr fun q => ?_
    have e : D = tp := Value.ref.inj (beq_iff_eq.mp q)
    subst e
    unfold clsIn at hcD
    split at hcD
    · rename_i c' d' cd' sl' ho
      have z := (X _ _ ho).symm.trans htp
      cases z
    · cases hcD
  ca := fun X I k => kin_class_pz hga hgt hsub hdct ha hn htk hm X I k
end
end PySem.W
namespace L2.Pz
open PySem PySem.Spec PyProof.Rows
/-- what isinstance wants of the exception's class, as one test -/
def excB (K : PySem.W.Frag) (D : Addr) : Bool := decide (PySem.W.findIn K (.ref D) "__getattribute__" = some (some (.builtin "BaseException.__getattribute__"))) && (decide (PySem.W.findIn K (.ref D) "__getattr__" = some none) && (decide (PySem.W.subIn K (.ref D) (.type "BaseException") = some true) && (PySem.W.hasDictIn K D && (decide (PySem.W.findIn K (.ref D) "__class__" = some (some (.builtin "object.__class__"))) &&
  (decide (PySem.W.specialIn K (.builtin "object.__class__") "__get__" = some (some (.builtin "getset_descriptor.__get__"))) && (decide (PySem.W.takesIn K (.builtin "object.__class__") = some true) && decide (PySem.W.mroIn K D (.type "object") = some true)))))))
theorem excB_ok {K : PySem.W.Frag} {D : Addr} (h : excB K D = true) : ExcC K D := by
  obtain ⟨h1, h⟩ := Bool.and_eq_true_iff.mp h
  obtain ⟨h2, h⟩ := Bool.and_eq_true_iff.mp h
  obtain ⟨h3, h⟩ := Bool.and_eq_true_iff.mp h
  obtain ⟨h4, h⟩ := Bool.and_eq_true_iff.mp h
  obtain ⟨h5, h⟩ := Bool.and_eq_true_iff.mp h
  obtain ⟨h6, h⟩ := Bool.and_eq_true_iff.mp h
  obtain ⟨h7, h8⟩ := Bool.and_eq_true_iff.mp h
  exact ⟨of_decide_eq_true h1, of_decide_eq_true h2, of_decide_eq_true h3, h4, of_decide_eq_true h5, of_decide_eq_true h6, of_decide_eq_true h7, of_decide_eq_true h8⟩
/-- one class asked of several exceptions -/
abbrev KitOk (K : PySem.W.Frag) (M : Str → Str → Option Bool) (v : Value) (x : Str) : Prop := ∀ c b, M c x = some b → ∀ C, PySem.W.nsIn K mainGlobals c = some (some (.ref C)) → ExcC K C ∧ PySem.W.kitOne K (.ref C) v = some b
theorem kcol_ok {K : PySem.W.Frag} {v : Value} : ∀ (r : Xcol), (∀ p ∈ r, ∃ C, PySem.W.nsIn K mainGlobals p.1 = some (some (.ref C)) ∧ ExcC K C ∧ PySem.W.kitOne K (.ref C) v = some p.2) → ∀ c b, r.lookup c = some b → ∀ C, PySem.W.nsIn K mainGlobals c = some (some (.ref C)) → ExcC K C ∧ PySem.W.kitOne K (.ref C) v = some b
  | [], _, c, b, h => by cases h
  | (c0, b0) :: r, hr, c, b, h => by
    intro C hC
    by_cases e : (c == c0) = true
    · simp only [List.lookup_cons, e] at h
      cases h
      have e := eq_of_beq e
      subst e
      obtain ⟨C', h1, h2⟩ := hr _ List.mem_cons_self
      have h1 : PySem.W.nsIn K mainGlobals c = some (some (.ref C')) := h1
      rw [h1] at hC
      cases hC
      exact h2
    · rw [Bool.not_eq_true] at e
      simp only [List.lookup_cons, e] at h
      exact kcol_ok r (fun p hp => hr p (List.mem_cons_of_mem _ hp)) c b h C hC
theorem kcol_cons {K : PySem.W.Frag} {v : Value} {c : Str} {b : Bool} {C : Addr} {r : Xcol} (h1 : PySem.W.nsIn K mainGlobals c = some (some (.ref C))) (h0 : ExcC K C) (h2 : PySem.W.kitOne K (.ref C) v = some b)
    (hr : ∀ p ∈ r, ∃ C, PySem.W.nsIn K mainGlobals p.1 = some (some (.ref C)) ∧ ExcC K C ∧ PySem.W.kitOne K (.ref C) v = some p.2) : ∀ p ∈ (c, b) :: r, ∃ C, PySem.W.nsIn K mainGlobals p.1 = some (some (.ref C)) ∧ ExcC K C ∧ PySem.W.kitOne K (.ref C) v = some p.2
  | p, hp => by
    rcases List.mem_cons.mp hp with rfl | hp
    · exact ⟨C, h1, h0, h2⟩
    · exact hr p hp
theorem kcol_nil {K : PySem.W.Frag} {v : Value} : ∀ p ∈ ([] : Xcol), ∃ C, PySem.W.nsIn K mainGlobals p.1 = some (some (.ref C)) ∧ ExcC K C ∧ PySem.W.kitOne K (.ref C) v = some p.2 := fun p hp => by cases hp
/-- isinstance(e, c), e the held exception in slot i, its class k -/
def eIsE (M : Str → Str → Option Bool) (i : Nat) (x k : Str) : EF := fun env J => match env[i]? with
  | some (some (.exc 0)) => (match M k x with | some b => .ok (.val (.bl b)) J | none => .stuck)
  | _ => .stuck
/-- the context bears z -/
structure Bears (X : Cx) (z : Zx) : Prop where
  ex : ∃ oe, (z.a, oe) ∈ X.pn ∧ Zc z.cls z.od oe ∧ ∃ vs, oe.data = .fields vs
theorem bears_su {X : Cx} {z : Zx} {oe : Obj} {pn : List (Addr × Obj)} (hz : Zc z.cls z.od oe) (hf : ∃ vs, oe.data = .fields vs) : Bears (X.suite z.a ((z.a, oe) :: pn)) z := ⟨oe, List.mem_cons_self, hz, hf⟩
/-- isinstance of it: read -/
def rIsD (K : PySem.W.Frag) (z : Zx) : List V → Hp → VK → Prop := fun xs H Q => ∃ (C : Addr) (c : V) (cv : Value) (b : Bool) (dd : Addr) (us : List (Str × V)), xs = [.ref z.a, c] ∧ (∀ u, RelV c u → u = cv) ∧ z.cls = .ref C ∧ z.od = some dd ∧ H dd = some (.xd us) ∧ ExcC K C ∧ PySem.W.kitOne K (.ref C) cv = some b ∧ Q (.bl b) H
theorem call_isD {X : Cx} {z : Zx} (B : Bears X z) : CallR X (.builtin "isinstance") (rIsD X.K z) := by
  intro pins s σ H xs us Q I r h
  obtain ⟨oe, hmem, hz, vs, hv⟩ := B.ex
  obtain ⟨C, c, cv, b, dd, us', rfl, hcv, ec, ed, ea, E, e, q⟩ := h
  cases r with
  | cons rx rr =>
    cases rr with
    | cons rt rr =>
      cases rr
      cases rx
      have ecv := hcv _ rt
      subst ecv
      obtain ⟨hget, _⟩ := I.pin (z.a, oe) (List.mem_append_left _ hmem)
      have hx : ObjOk X.prog X.w H s.heap dd (.xd us') := I.hok dd _ ea
      obtain ⟨mA, hns, hr⟩ := hx
      obtain ⟨od, ho, hl⟩ := lookIn_ns hns
      have J : PySem.W.InstAt s.heap z.a oe C (some od) := ⟨hget, by rw [hz.1, ec], by unfold PySem.W.notCls; rw [hv] <;> rfl, by rw [hz.2, ed]; exact ho⟩
      exact PySem.W.kia_one (PySem.W.kitx_pz E.hg E.hk E.hs E.hd E.ha E.hn E.ht E.hm) I.kIn J e (fun z => nomatch z) fun tk => ⟨.bl b, H, I.kept (t' := tk) fun _ _ z => z, rfl, q⟩
theorem pn_isE {X : Cx} {z : Zx} {W : WX} {M : Str → Str → Option Bool} {C : Addr} {i : Nat} {x y n : Str} {p p1 p2 pos : Pos} (B : Bears X z) (hk : KitOk X.K M (.ref C) y) (hg : Gl X x) (hm : X.mg x = none) (hv : bootBuiltins x = some (.builtin "isinstance"))
    (he : PE X (.Name n p1) (tVar i)) (hy : PE X (.Name y p2) (tC (.ref C)))
    (hn : x ≠ "__name__") (hdb : (x == ("__debug__" : Str)) = false) (h1 : starEach [.Name n p1, .Name y p2] X.env = (false, eval (.Name n p1) X.env) :: starEach [.Name y p2] X.env) (h2 : starEach [.Name y p2] X.env = (false, eval (.Name y p2) X.env) :: starEach [] X.env) (hpl : (backTo pos (starEach [.Name y p2] X.env)).any (·.1) = false) :
    PE X (.Call (.Name x p) [.Name n p1, .Name y p2] [] pos) (tN X.K [z] W (eIsE M i y z.c)) :=
  pe_mono (pe_callB (call_isD B) hg hm hv (pa_cons he (pa_cons hy pa_nil h2) h1) hn hdb h1 hpl) fun σ H Q ⟨Xo, js, env, J, F, p⟩ => by
    unfold eIsE at p
    cases hs : env[i]? with
    | none => rw [hs] at p; exact p.elim
    | some o =>
      cases o with
      | none => rw [hs] at p; exact p.elim
      | some h =>
        cases h with
        | val d => rw [hs] at p; exact p.elim
        | new d => rw [hs] at p; exact p.elim
        | jar k => rw [hs] at p; exact p.elim
        | exc k =>
          cases k with
          | succ k => rw [hs] at p; exact p.elim
          | zero =>
            rw [hs] at p
            have p : PostN X.K [z] W Xo js H σ env Q (match M z.c y with | some b => .ok (.val (.bl b)) J | none => .stuck) := p
            cases hM : M z.c y with
            | none => rw [hM] at p; exact p.elim
            | some b =>
              rw [hM] at p
              obtain ⟨v, hv', z', hz', rfl⟩ := F.slot i _ hs
              have ez : z = z' := by simpa using hz'
              subst ez
              obtain ⟨C', c1, c2, dd, us, d1, d2, d3, d4⟩ := F.ez z List.mem_cons_self
              obtain ⟨E, k1⟩ := hk _ _ hM _ c1
              exact ⟨_, hv', C', _, _, b, dd, us, rfl, fun u r => r, c2, d1, d2, E, k1, p (.bl b) H .refl (out_bl F)⟩
end L2.Pz
set_option Elab.async false
set_option linter.all false
set_option maxRecDepth 100000
set_option maxHeartbeats 4000000
set_option autoImplicit false
/-! a def that asks the held exception, called in a suite -/
namespace L2.Pz
open PySem PySem.Spec PyProof.Rows
section
variable {P : Program} {w : World} {K : PySem.W.Frag} {mg : Str → Option Value} {base : Heap}
theorem roomS {j k : Nat} {A : Around} {m : Option Value} (hr : Room k A) (h : j ≤ k) : L2H.RoomH j (A.mark m) := ⟨(hr.mono h).dp, (hr.mono h).un⟩
structure KinOk (P : Program) (w : World) (K : PySem.W.Frag) (mg : Str → Option Value) (base : Heap) (k : Nat) (f : Addr) (fd : FuncData) (ps : List Str) (F : Str → FT) : Prop where
  run : ∀ (A : Around) (outer : List Env) (s : Shared) (H : Hp) (args : Args) (us : List Value) (Q : VK) (E : XK) (z : Zx) (oe : Obj) (Xo : Addr → Prop) (js : List Addr) (J J1 : Jr) (d : D), L2H.RoomH k A → L2H.PinOk outer H s (z.a, oe) → Zc z.cls z.od oe → (∃ vs, oe.data = .fields vs) → Env0 P w K mg base A outer s H → BindsTo s fd args (ps.zip us) → Vals [.ref z.a] us →
    Fit K [z] Xo js H [] [] J → F z.c [.exc 0] J = .ok (.val d) J1 → (∀ v H', Ext js H H' → Fit K [z] Xo js H' [] [] J1 → Rep K H' (Yf Xo js) d v → Q v H') → codeAny (model P w) A (.call (.ref f) args) (CR (L2.CX P w) outer P w H s Q E) s
theorem kin_ok {x qual : Str} {st : Stmt} {f : Addr} {fd : FuncData} {N ps : List Str} {k : Nat} {g : Str → SF} (Fd : Fun K x qual st f fd) (S : FnScope N ps (defScope st)) (hp : ps.length = 1)
    (hb : ∀ (cdv : Value) (A : Around) (outer : List Env) (s : Shared) (H : Hp) (E : XK) (n0 : Nat) (z : Zx) (oe : Obj), Zc z.cls z.od oe → (∃ vs, oe.data = .fields vs) → L2H.RoomH k (A.deeper (envOfC qual (defScope st) s.heap.objs.size f cdv)) →
      PSs (L2H.cxH (L2.CX P w) P w K mg base N qual (defScope st) f cdv A outer s H E (z.a, oe)) (defBody st) (tS K [z] W0 n0 (g z.c))) : KinOk P w K mg base (k + 1) f fd ps (fun c => mkF N.length (g c)) := by
  obtain ⟨oc, od, kV, doc, pm, an, cdv, ct, osl, rfl, lk, hcd⟩ := Fd.ex
  refine ⟨fun A outer s H args us Q E z oe Xo js J J1 d hr hpin hz hf e0 hbd r Fi hF hQ => ?_⟩
  have hl : [V.ref z.a].length = ps.length := hp.symm
  have KX : K.In s.heap := e0.mod.kin.keeps fun b o e => (e0.bs b o e).1
  have lim : s.heap.NoLimit := e0.mod.nolimit.keeps fun b o e => (e0.bs b o e).1
  have hkind : ∀ y ∈ ps.zip us, (defScope st).names.lookup y.1 = some .local ∨ ((defScope st).names.lookup y.1 = some .cell ∧ ((cellsFrom (s.heap.objs.size + 1) (defScope st).names []).lookup y.1).isSome = true) := fun ⟨n, v⟩ hy => by
    rcases S.par n (List.of_mem_zip hy).1 with q | q
    · exact .inl q
    · exact .inr ⟨q, PySem.W.cellsFrom_some _ _ _ (.inl q)⟩
  refine codeAny_call_function hr.depth (KX _ _ lk) rfl S.co S.gen rfl (PySem.W.codeRec_of KX hcd) (hbd _ _ _ _ ?_)
  refine wpAny_newFunctionEnv_cells S.kind hkind fun env he s1 x => ?_
  subst he
  refine ⟨lim.keeps x.toInCall.keep, codeAny_func ?_⟩
  have ht := hb cdv A outer s H E J.length z oe hz hf (hr.deeper _)
  have I : Inv (L2H.cxH (L2.CX P w) P w K mg base N qual (defScope st) f cdv A outer s H E (z.a, oe)) [] (L2.start N [.ref z.a]) H s1 := L2H.inv_startH S hpin e0 hl r x
  have hrr : HReps K [z] H (Yf Xo js) js [.exc 0] [.ref z.a] := ⟨.ref z.a, [], rfl, ⟨z, rfl, rfl⟩, rfl⟩
  have hq : tS K [z] W0 J.length (g z.c) { nx := fun _ H' => Q .non H', rt := Q } (L2.start N [.ref z.a]) H := by
    refine ⟨Xo, js, startE N.length [.exc 0], J, fit_start Fi hrr, ?_⟩
    have hF : endR J.length (g z.c J.length (startE N.length [.exc 0]) J) = .ok (.val d) J1 := hF
    cases r : g z.c J.length (startE N.length [.exc 0]) J with
    | stuck => rw [r] at hF; cases hF
    | bk e1 J2 => rw [r] at hF; cases hF
    | ct e1 J2 => rw [r] at hF; cases hF
    | err c fs e1 J2 =>
      rw [r] at hF
      have hF : (if J.length ≤ J2.length then R.err c fs (J2.take J.length) else R.stuck) = R.ok (HV.val d) J1 := hF
      split at hF <;> cases hF
    | nx e1 J2 =>
      rw [r] at hF
      have hF : (if J.length ≤ J2.length then R.ok (HV.val .non) (J2.take J.length) else R.stuck) = R.ok (HV.val d) J1 := hF
      split at hF
      · cases hF
        intro σ' H' js' s F'
        have G := F'.bare.trim J.length
        rw [take_js Fi s] at G
        exact hQ .non H' s.ext G (mk_non (K := K) (H := H') (Y := Yf Xo js))
      · cases hF
    | rt h J2 =>
      rw [r] at hF
      have hF : (if J.length ≤ J2.length then outH J.length J2 h else R.stuck) = R.ok (HV.val d) J1 := hF
      split at hF
      · cases h with
        | val d' =>
          cases hF
          intro v H' js' s o
          have ej := take_js Fi s
          have yy : ∀ a, Yf Xo js a → Yf Xo js' a := fun a y => y.elim .inl fun y => .inr (by rw [← ej] at y; exact List.mem_of_mem_take y)
          have G := o.1.trim J.length
          rw [ej] at G
          exact hQ v H' s.ext G (rep_move (fun _ _ e _ => e) (fun a y => .inl (yy a y)) o.1.lists _ _ o.2)
        | new ds => cases hF
        | exc m => cases hF
        | jar m =>
          have hF : (if m < J.length then R.ok (HV.jar m) (J2.take J.length) else match J2[m]? with
            | some ds => R.ok (HV.new ds) (J2.take J.length)
            | none => R.stuck) = R.ok (HV.val d) J1 := hF
          split at hF
          · cases hF
          · split at hF <;> cases hF
      · cases hF
  refine wpAny_mono (ht.run [] s1 (L2.start N [.ref z.a]) H _ I hq) (fun fl s' hs => ?_) fun e s' hs => hs
  have fin : ∀ {σ' : L2.St} {H' : Hp} {v : V} {u : Value}, Inv (L2H.cxH (L2.CX P w) P w K mg base N qual (defScope st) f cdv A outer s H E (z.a, oe)) [] σ' H' s' → RelV v u → Q v H' → CE outer P w H s Q u s' :=
    fun {σ' H' v u} J rv q => ⟨v, H', J.os, J.bare, J.base, J.hok, rv, q⟩
  cases fl with
  | ret u =>
    obtain ⟨v, σ', H', J, rv, q⟩ := hs
    exact fin J rv q
  | next =>
    obtain ⟨σ', H', J, q⟩ := hs
    exact fin (v := V.non) (u := Value.none) J rfl q
  | brk =>
    obtain ⟨_, _, _, q⟩ := hs
    exact False.elim q
  | cont =>
    obtain ⟨_, _, _, q⟩ := hs
    exact False.elim q
end
/-- f(e), e the held exception in slot i, its class k -/
def eKin (F : Str → FT) (i : Nat) (k : Str) : EF := fun env J => match env[i]? with
  | some (some (.exc 0)) => (match F k [.exc 0] J with | .ok (.val d) J1 => .ok (.val d) J1 | _ => .stuck)
  | _ => .stuck
theorem pn_kin {X : Cx} {z : Zx} {W : WX} {F : Str → FT} {k i : Nat} {f : Addr} {fd : FuncData} {ps : List Str} {n x : Str} {p p1 pos : Pos} (G : KinOk X.prog X.w X.K X.mg X.base k f fd ps F) (B : Bears X z) (hr : L2H.RoomH k X.A) (hg : Gl X x) (hm : X.mg x = some (.ref f)) (hk : PySem.W.keepIn X.K (.ref f) = true)
    (hb : Binds X.K fd ps []) (hp : ps.length = 1) (he : PE X (.Name n p1) (tVar i)) (hdb : (x == ("__debug__" : Str)) = false) (hst : starEach [.Name n p1] X.env = (false, eval (.Name n p1) X.env) :: starEach [] X.env) (hpl : (backTo pos (starEach [] X.env)).any (·.1) = false) :
    PE X (.Call (.Name x p) [.Name n p1] [] pos) (tN X.K [z] W (eKin F i z.c)) := by
  refine ⟨fun pins s σ H Q I ⟨Xo, js, env, J, Fi, p⟩ => ?_⟩
  unfold eKin at p
  cases hs : env[i]? with
  | none => rw [hs] at p; exact p.elim
  | some o =>
    cases o with
    | none => rw [hs] at p; exact p.elim
    | some h =>
      cases h with
      | val d => rw [hs] at p; exact p.elim
      | new d => rw [hs] at p; exact p.elim
      | jar k => rw [hs] at p; exact p.elim
      | exc kk =>
        cases kk with
        | succ k => rw [hs] at p; exact p.elim
        | zero =>
          rw [hs] at p
          have p : PostN X.K [z] W Xo js H σ env Q (match F z.c [.exc 0] J with | .ok (.val d) J1 => .ok (.val d) J1 | _ => .stuck) := p
          cases hF : F z.c [.exc 0] J with
          | stuck => rw [hF] at p; exact p.elim
          | err c fs J1 => rw [hF] at p; exact p.elim
          | ok h J1 =>
            rw [hF] at p
            cases h with
            | jar k => exact p.elim
            | new k => exact p.elim
            | exc k => exact p.elim
            | val d =>
              have p : PostN X.K [z] W Xo js H σ env Q (.ok (.val d) J1) := p
              obtain ⟨v, hv', z', hz', rfl⟩ := Fi.slot i _ hs
              have ez : z = z' := by simpa using hz'
              subst ez
              obtain ⟨oe, hmem, hz, hf⟩ := B.ex
              refine wpAny_Call_Name_kw (ld_glob I hg hm ?_ hdb)
              refine PySem.W.callWith_K (h₀ := X.base) I.ok.mod.kin hk (thn ((pa_cons he pa_nil hst).run pos pins s σ H (fun vs H1 => vs = [.ref z.a] ∧ H1 = H) I ⟨_, hv', rfl, rfl⟩) fun us s1 ⟨vs, H1, I1, r, e1, e2⟩ => ⟨I1.kIn, ?_⟩) hst hpl
              subst e1 e2
              have hl : us.length = ps.length := by rw [← r.length]; exact hp.symm
              have b := hb s1 us I1.kIn (by rw [List.append_nil]; exact hl)
              rw [List.append_nil] at b
              have P1 := I1.pin (z.a, oe) (List.mem_append_left _ hmem)
              have hpin : L2H.PinOk X.stack H1 s1 (z.a, oe) := ⟨P1.1, P1.2.1, fun hm => (List.mem_cons.mp (I1.stkSub z.a hm)).elim P1.2.2.1 P1.2.2.2.1, P1.2.2.2.2⟩
              refine wpAny_call (codeAny_mono (G.run X.A X.stack s1 H1 ⟨us, []⟩ us Q E0 z oe Xo js J J1 d hr hpin hz hf I1.env0 b r Fi.bare hF (fun v H' ex G rd => p v H' ex (out_val (Fi.renew ex (fun _ h => .inl h) G) rd))) fun r s' hq => ?_)
              cases r with
              | error e => exact passL pins σ H1 s1 e s' I1 hq
              | ok fl =>
                cases fl with
                | ret u => exact I1.after hq
                | next => exact False.elim hq
                | brk => exact False.elim hq
                | cont => exact False.elim hq
end L2.Pz
set_option Elab.async false
set_option linter.all false
set_option maxRecDepth 100000
set_option maxHeartbeats 4000000
set_option autoImplicit false
/-! reversed(a text) -/
namespace RvS
open PySem PySem.Spec PyProof.Rows RT
theorem norev_str : typeLookup (.type "str") "__reversed__" = pure none := by rw [typeLookup_type, builtinLookup_eq_fast]; kernel_rfl
theorem get_str : typeLookup (.type "str") "__getitem__" = pure (some (.builtin "str.__getitem__")) := by rw [typeLookup_type, builtinLookup_eq_fast]; kernel_rfl
theorem sub_str_dict : isSubtype (.type "str") (.type "dict") = pure false := by rw [isSubtype_type]; kernel_rfl
def rsObj (x : Str) (t : Tok) (i : Int) : Obj := { cls := .type "reversed", data := .fields #[.str x t, rawInt i] }
/-- reversed(x), the next place i -/
def IsRs (h : Heap) (a : Addr) (x : Str) (t : Tok) (i : Int) : Prop := ∃ o, h.get? a = some o ∧ o.cls = .type "reversed" ∧ o.data = .fields #[.str x t, rawInt i]
section
variable {prog : Program} {w : World} {A : Around} {E : Value → Shared → Prop} {s : Shared} {x : Str} {t : Tok}
theorem IsRs.typeIs {a : Addr} {i : Int} (y : IsRs s.heap a x t i) : s.TypeIs (.ref a) "reversed" := let ⟨o, ho, hc, _⟩ := y; ⟨o, ho, hc⟩
theorem code_reversed_str {Q₁ : Value → Shared → Prop} (hlen : ¬ (x.length : Int) ≥ 2 ^ 63)
    (h : Q₁ (.ref s.heap.objs.size) { s with heap := s.heap.push (rsObj x t ((x.length : Int) - 1)), toks := s.toks + 1 + 1 }) :
    codeAny (model prog w) A (.call (.builtin "reversed.__new__") ⟨[.type "reversed", .str x t], []⟩) (wants Q₁ E) s := by
  have hT : s.TypeIs (.str x t) "str" := typeIs_str s x t
  refine codeAny_of_tree ?_
  show wpAny _ A.in1 (do checkBuiltinCall "reversed.__new__" ⟨[.type "reversed", .str x t], []⟩; again (.builtin "reversed.__new__" ⟨[.type "reversed", .str x t], []⟩)) _ _ s
  refine wpAny_bind (wpAny_of_eq (F.newCall_reversed_1 _) (wpAny_pure ⟨plainId_quiet F.plain_reversed_new _, codeAny_builtin F.entry_reversed_new ?_⟩))
  rw [Around.under_plainId F.plain_reversed_new _]
  unfold Builtin.«reversed.__new__»
  refine wpAny_bind (wpAny_of_eq (newClass_reversed _) ?_)
  try dsimp only
  refine wpAny_bind (wpAny_of_eq (a := ()) (by first | rfl | kernel_rfl) ?_)
  try dsimp only
  refine wpAny_bind (wpAny_of_eq (a := ()) (by first | rfl | kernel_rfl) ?_)
  try dsimp only
  refine wpAny_bind (wpAny_specialOf hT norev_str ?_)
  try dsimp only
  refine wpAny_bind ?_
  wp_delta
  refine wpAny_bind (wpAny_isInstance (T := "str") (U := "dict") (b := false) hT sub_str_dict ?_)
  try dsimp only
  try rw [if_neg Bool.false_ne_true]
  try dsimp only
  refine wpAny_bind (wpAny_specialOf hT get_str ?_)
  try dsimp only
  try rw [if_pos (by decide +kernel)]
  refine wpAny_pure ?_
  try dsimp only
  try rw [if_neg (by decide)]
  try dsimp only
  refine wpAny_bind (len_str hlen ?_)
  refine wpAny_bind (wpAny_of_eq (a := some ((x.length : Nat) : Int)) rfl ?_)
  try dsimp only
  refine wpAny_bind ?_
  show wpAny _ _ (newObj (.type "reversed") (.fields #[.str x t, rawInt ((x.length : Int) - 1)])) _ _ _
  refine wpAny_newObj_type ?_
  exact wpAny_pure h
theorem call_reversed_str {Q : Value → Shared → Prop} (hlen : ¬ (x.length : Int) ≥ 2 ^ 63)
    (h : Q (.ref s.heap.objs.size) { s with heap := s.heap.push (rsObj x t ((x.length : Int) - 1)), toks := s.toks + 1 + 1 }) : wpAny (model prog w) A (call (.type "reversed") [.str x t]) Q E s := by
  refine callType_codes (Q₁ := fun obj s₁ => s₁.TypeIs obj "reversed" ∧ Q obj s₁) called_rt (F.typeCall_reversed_1 _) F.entry_object_init
    (code_reversed_str (A := A.in1) hlen ⟨⟨_, Heap.get?_push_size _ rfl, rfl⟩, h⟩) fun obj s₁ h₁ => ?_
  exact ⟨h₁.1, F.args_object_init_2 obj _, object_init_meets called_rt.init.lookup called_rt.made (by decide) prog w A.in1 _ s₁ ⟨h₁.1, rfl, h₁.2⟩⟩
theorem next_rs_item {it : Addr} {i : Nat} {c : Nat} {Q : Option Value → Shared → Prop} (hit : IsRs s.heap it x t (i : Int)) (hx : x.cps[i]? = some c) (hsz : x.length < 2 ^ 62)
    (hQ : ∀ h' tk u, IsRs h' it x t ((i : Int) - 1) → Heap.SameBut it s.heap h' → Q (some (.str ⟨#[c]⟩ u)) { s with heap := h', toks := tk }) : wpAny (model prog w) A (pyNext (.ref it)) Q E s := by
  obtain ⟨o, ho, hc, hd⟩ := id hit
  have hi : i < x.cps.size := (Array.getElem?_eq_some_iff.mp hx).1
  have hi2 : i < x.length := hi
  have hT : s.TypeIs (.str x t) "str" := typeIs_str s x t
  unfold pyNext
  refine wpAny_bind (wpAny_attempt (wpAny_callSpecial?_slot (name := Str.ofString "__next__") hit.typeIs slot_rt_next
    (wpAny_call_entry slot_rt_next hit.typeIs entry_rt_next ?_ (args_rt_next _))))
  unfold Builtin.«reversed.__next__»
  refine wpAny_bind (wpAny_of_eq (a := (Value.ref it, [])) rfl ?_)
  try dsimp only
  refine wpAny_bind (wpAny_field ho hd (x := .str x t) rfl ?_)
  try dsimp only
  refine wpAny_bind (wpAny_field ho hd (x := rawInt (i : Int)) rfl ?_)
  show wpAny _ _ (if (i : Int) < 0 then _ else _) _ _ s
  rw [if_neg (by omega)]
  try dsimp only
  refine wpAny_bind (wpAny_specialOf hT get_str ?_)
  try dsimp only
  try rw [if_neg (by decide)]
  try dsimp only
  refine wpAny_bind (wpAny_mkInt ?_)
  refine wpAny_bind (wpAny_attempt ?_)
  have fin : seqIndex? (i : Int) x.length = some i := seqIndex_of (by omega) (by omega)
  refine PyProof.Rows.getItem_str (s := { s with toks := s.toks + 1 }) (c := c) (by simp only [Bool.or_eq_false_iff, decide_eq_false_iff_not]; omega) (by rw [fin]; exact hx) ?_
  try dsimp only
  refine wpAny_bind (wpAny_field (s := { s with toks := s.toks + 1 + 1 }) ho hd (x := rawInt (i : Int)) rfl ?_)
  try dsimp only
  refine wpAny_bind (wpAny_setField (s := { s with toks := s.toks + 1 + 1 }) ho hd (by simp) ?_)
  first
  | refine wpAny_pure ⟨_, rfl, wpAny_pure (hQ _ _ _ ?_ (Heap.SameBut.update ..))⟩
  | refine wpAny_bind (wpAny_pure (wpAny_pure ⟨_, rfl, wpAny_pure (hQ _ _ _ ?_ (Heap.SameBut.update ..))⟩))
  exact ⟨_, Heap.get?_update_self _ ho (Obj.isFreed_of_fields (Obj.data_mapFields hd _)), (Obj.cls_mapFields ..).trans hc, by
    rw [Obj.data_mapFields hd]; simp⟩
theorem next_rs_end {it : Addr} {Q : Option Value → Shared → Prop} (hh : A.handled = none) (hit : IsRs s.heap it x t (-1))
    (hQ : ∀ h', Heap.ExtBut it s.heap h' → Q none { s with heap := h' }) : wpAny (model prog w) A (pyNext (.ref it)) Q E s := by
  obtain ⟨o, ho, hc, hd⟩ := id hit
  unfold pyNext
  refine wpAny_bind (wpAny_attempt (wpAny_callSpecial?_slot (name := Str.ofString "__next__") hit.typeIs slot_rt_next
    (wpAny_call_entry slot_rt_next hit.typeIs entry_rt_next ?_ (args_rt_next _))))
  unfold Builtin.«reversed.__next__»
  refine wpAny_bind (wpAny_of_eq (a := (Value.ref it, [])) rfl ?_)
  try dsimp only
  refine wpAny_bind (wpAny_field ho hd (x := .str x t) rfl ?_)
  try dsimp only
  refine wpAny_bind (wpAny_field ho hd (x := rawInt (-1)) rfl ?_)
  show wpAny _ _ (if (-1 : Int) < 0 then _ else _) _ _ s
  rw [if_pos (by decide)]
  try dsimp only
  refine wpAny_bind (wpAny_rule ?_)
  refine wpAny_bind ?_
  wp_delta
  refine wpAny_bind (wpAny_setField ho hd (by simp) ?_)
  have ho2 := Heap.get?_update_self (Obj.mapFields (·.setIfInBounds 1 (rawInt (-1)))) ho (Obj.isFreed_of_fields (Obj.data_mapFields hd _))
  refine wpAny_setField (s := { s with heap := s.heap.update it (Obj.mapFields (·.setIfInBounds 1 (rawInt (-1)))) }) ho2 (Obj.data_mapFields hd _) (by simp) ?_
  try dsimp only
  first
  | show wpAny _ _ (newExc (.type "StopIteration") [] >>= _) _ _ _
  | (refine wpAny_bind ?_; show wpAny _ _ (newExc (.type "StopIteration") [] >>= _) _ _ _)
  | (refine wpAny_bind ?_; wp_delta; show wpAny _ _ (newExc (.type "StopIteration") [] >>= _) _ _ _)
  refine wpAny_bind ?_
  simp only [newExc, newTuple]
  refine wpAny_bind (wpAny_newObj_type ?_ (by size_fits))
  refine wpAny_bind (m := firstArgMember _ _) (wpAny_of_eq (a := Value.none) (by first | rfl | (simp only [firstArgMember]; rfl)) ?_)
  refine wpAny_newObj_type ?_ (by size_fits)
  simp only [raiseNew]
  refine wpAny_bind (wpAny_handled ?_)
  first | rw [show A.in1.handled = none from hh] | rw [hh]
  refine wpAny_bind (wpAny_pure (wpAny_throw ?_))
  refine wpAny_bind (wpAny_isInstance (T := "StopIteration") (b := true) ⟨_, Heap.get?_push_size _ rfl, rfl⟩ isSubtype_stop ?_)
  refine wpAny_pure (hQ _ ?_)
  refine ((?_ : Heap.ExtBut it s.heap _).push _).push _
  exact fun b ob hb e => (Heap.get?_update_other _ _ (Ne.symm hb)).trans ((Heap.get?_update_other _ _ (Ne.symm hb)).trans e)
theorem iter_rs {it : Addr} {i : Int} {Q : Value → Shared → Prop} (hit : IsRs s.heap it x t i) (h : Q (.ref it) s) : wpAny (model prog w) A (pyIter (.ref it)) Q E s := by
  refine wpAny_pyIter_slot hit.typeIs slot_rt_iter (wpAny_call_entry slot_rt_iter hit.typeIs entry_rt_iter ?_ (args_rt_iter _))
  show wpAny _ _ (ret (.ref it)) _ _ s
  exact wpAny_pure ⟨_, rfl, "reversed", _, hit.typeIs, slot_rt_next.lookup, h⟩
end
end RvS
namespace L2.Pz
open PySem PySem.Spec PyProof.Rows RvS
def ItsR (x : Str) : It := ⟨fun i _ => i < x.cps.size, fun i H v H' => H' = H ∧ ∃ c, x.cps[x.cps.size - 1 - i]? = some c ∧ v = .str ⟨#[c]⟩, fun i _ => x.cps.size ≤ i⟩
theorem turn_rs {P : Program} {w : World} {K : PySem.W.Frag} {tg : Expr} (it : Addr) (x : Str) (t : Tok) (hsz : x.cps.size < 2 ^ 62) :
    Turn P w K tg (ItsR x) [it] it (fun i h => i ≤ x.cps.size ∧ IsRs h it x t ((x.cps.size : Int) - 1 - (i : Nat))) where
  mem := by simp
  obj := fun i h st b hb => by
    have e : b = it := by simpa using hb
    subst e
    obtain ⟨_, o, e, c, d⟩ := st
    exact ⟨o, e, fun v z => by rw [d] at z; cases z⟩
  keep := fun i h h' st k => let ⟨hi, o, ho, r⟩ := st; ⟨hi, o, k it (by simp) o ho, r⟩
  item := by
    intro X hP hw hK hc i pins s σ H E I hf st hg
    subst hP hw hK
    obtain ⟨f0, f1, f2, f3, f4, f5⟩ := hf it (by simp)
    have hg : i < x.cps.size := hg
    obtain ⟨_, hit⟩ := st
    have e1 : (x.cps.size : Int) - 1 - ((i : Nat) : Int) = ((x.cps.size - 1 - i : Nat) : Int) := by omega
    rw [e1] at hit
    obtain ⟨c, hx⟩ : ∃ c, x.cps[x.cps.size - 1 - i]? = some c := ⟨x.cps[x.cps.size - 1 - i]'(by omega), Array.getElem?_eq_getElem _⟩
    refine next_rs_item hit hx hsz fun h' tk u st' sb => ?_
    have e2 : ((x.cps.size - 1 - i : Nat) : Int) - 1 = (x.cps.size : Int) - 1 - ((i + 1 : Nat) : Int) := by omega
    rw [e2] at st'
    have I1 : Inv X pins σ H { s with heap := h', toks := tk } := I.turned (t' := tk) (fun b o hb e => (sb.2 b hb).trans e) f0 f1 f3 f4 f5
    obtain ⟨o, e, cc, d⟩ := id st'
    exact ⟨_, rfl, go_of (s := { s with heap := h', toks := tk }) e cc d (by decide) ⟨.str ⟨#[c]⟩, H, I1, ⟨u, rfl⟩, ⟨rfl, c, hx, rfl⟩, ⟨hg, st'⟩, fun b hb => (hf b hb).1⟩⟩
  done := by
    intro X hP hw hK hc i pins s σ H E I hf st hg
    subst hP hw hK
    obtain ⟨f0, f1, f2, f3, f4, f5⟩ := hf it (by simp)
    obtain ⟨hin, hit⟩ := st
    have hge : x.cps.size ≤ i := hg
    have e1 : (x.cps.size : Int) - 1 - ((i : Nat) : Int) = -1 := by omega
    rw [e1] at hit
    exact next_rs_end (I.ok.hd hc) hit fun h' eb => ⟨rfl, I.turned (t' := s.toks) (fun b o hb e => eb b o hb e) f0 f1 f3 f4 f5⟩
  self := fun A i s Q E st h => iter_rs st.2 h
section
variable {X : Cx} {tg e : Expr} {te : TE} {p pos : Pos} {K : PySem.W.Frag} {H : Hp} {Y : Addr → Prop} {Z : List Zx} {W : WX} {f : EF}
def iRevT (te : TE) : TI := fun σ H R => te σ H fun v H1 => ∃ x, v = .str x ∧ x.cps.size < 2 ^ 62 ∧ R (ItsR x) H1
theorem pi_revT (he : PE X e te) (hg : Gl X "reversed") (hm : X.mg "reversed" = none) (hs : starEach [e] X.env = (false, eval e X.env) :: starEach [] X.env) : PI X tg (.Call (.Name "reversed" p) [e] [] pos) (iRevT te) := by
  refine ⟨fun pins s σ H R I h => ?_⟩
  refine Call_ (ld_blt I hg hm PyProof.Rows.boot_reversed (PyProof.Rows.callWith_type1 (args_cons (thn (he.run pins s σ H _ I h) fun u s1 ⟨v, H1, I1, r1, q1⟩ => args_nil ?_) hs) hs rfl))
  obtain ⟨x, ev, hsz, q⟩ := q1
  subst ev
  obtain ⟨t, rfl⟩ := r1
  refine call_reversed_str (show ¬ ((x.cps.size : Nat) : Int) ≥ 2 ^ 63 by omega) (iter_rs (x := x) (t := t) (i := (x.cps.size : Int) - 1) ⟨_, Heap.get?_push_size _ rfl, rfl, rfl⟩ ?_)
  refine pi_one (tk := s1.toks + 1 + 1) I1 _ (turn_rs _ x t hsz) ⟨Nat.zero_le _, ?_⟩ q
  have e1 : (x.cps.size : Int) - 1 = (x.cps.size : Int) - 1 - ((0 : Nat) : Int) := by simp
  rw [← e1]
  exact ⟨_, Heap.get?_push_size _ rfl, rfl, rfl⟩
theorem walk_rs {z : Str} : Walk (ItsR z) z.cps.size (fun _ => True) (fun i H v H' => H' = H ∧ ∃ c, z.cps[z.cps.size - 1 - i]? = some c ∧ v = .str ⟨#[c]⟩) :=
  ⟨fun i H hi _ => hi, fun H _ => Nat.le_refl _, fun i H x H' _ _ y => y⟩
theorem walkD_rs {z : Str} : WalkD K Y H (ItsR z) (chars z).reverse := by
  have w := walk_rs (z := z)
  have e : z.cps.size = (chars z).reverse.length := by unfold chars; simp
  rw [show (ItsR z) = ItsR z from rfl] at w
  refine ⟨fun _ => True, fun i H v H' => H' = H ∧ ∃ c, z.cps[z.cps.size - 1 - i]? = some c ∧ v = .str ⟨#[c]⟩, e ▸ w, fun _ _ => trivial, fun Y' hY i H1 x H' hi k _ y => ?_⟩
  obtain ⟨e2, c, hc, hx⟩ := y
  subst e2
  rw [← e] at hi
  refine ⟨Same.refl _, .str ⟨#[c]⟩, ?_, by rw [hx]; exact mk_str⟩
  have hl : (chars z).length = z.cps.size := by unfold chars; simp
  rw [List.getElem?_reverse (by rw [hl]; exact hi), hl]
  unfold chars
  rw [List.getElem?_map]
  simp [hc]
/-- reversed(a text) -/
def iRevS (f : EF) : IF := fun env J => (f env J).bind fun h J1 => match h with
  | .val (.str z) => if z.cps.size < 2 ^ 62 then .ok (chars z).reverse J1 else .stuck
  | _ => .stuck
theorem pw_revS (hg : Gl X "reversed") (hm : X.mg "reversed" = none) (he : PE X e (tD X.K Z W f)) (hs : starEach [e] X.env = (false, eval e X.env) :: starEach [] X.env) : PI X tg (.Call (.Name "reversed" p) [e] [] pos) (tW X.K Z W (iRevS f)) := pi_mono (pi_revT he hg hm hs) fun σ H Q ⟨Xo, js, env, J, F, p⟩ => by
  refine ⟨Xo, js, env, J, F, ?_⟩
  unfold iRevS at p
  cases hf : f env J with
  | stuck => rw [hf] at p; exact p.elim
  | err c fs J1 => rw [hf] at p; exact p
  | ok h J1 =>
    rw [hf] at p
    intro x H1 e1 F1 x1
    cases h with
    | jar k => exact p.elim
    | exc k => exact p.elim
    | new ds => exact p.elim
    | val d =>
      cases d with
      | str z =>
        have p : PostW X.K Z W Xo js H σ env Q (if z.cps.size < 2 ^ 62 then .ok (chars z).reverse J1 else .stuck) := p
        split at p
        · rename_i h
          exact ⟨z, rep_str (K := X.K) (H := H1) (Y := Yf Xo js) x1, h, p _ _ e1 F1 walkD_rs⟩
        · exact p.elim
      | _ => exact p.elim
end
/-! the logic of these -/
section
variable {X : XP} {J : Jr} {env : En} {f : EF}
end
end L2.Pz
set_option Elab.async false
set_option linter.all false
set_option maxRecDepth 100000
set_option maxHeartbeats 4000000
set_option autoImplicit false
/-! the facts of own exceptions, gathered from the written part; the logic of the last forms -/
namespace L2.Pz
open PySem PySem.Spec PyProof.Rows PySem.W PySem.HandSPX
/-- the class facts but for names -/
structure SxK (P : Program) (K : Frag) (C fI : Addr) (ns : List Str) : Prop where
  cls : ∃ nm q N bs bm sn sub ab col dd k0 k1 k2 k3 k5, K.lookup C = some (excClassObj nm q C N bs bm true sn sub ab col dd k0 k1 k2 k3 k5 "ValueError.__new__") ∧ refsVE bm = true
  sa : findIn K (.ref C) "__setattr__" = some (some (.builtin "object.__setattr__"))
  noN : ∀ n ∈ ns, findIn K (.ref C) n = some none
  tI : typeIn K (.ref fI) = some (.type "function")
  kC : keepIn K (.ref C) = true
  exC : subIn K (.ref C) (.type "BaseException") = some true
  veC : subIn K (.ref C) (.type "ValueError") = some true
  tyC : typeIn K (.ref C) = some (.type "type")
  sup : ks_superIn K C C "__init__" = some (some (.builtin "ValueError.__init__"))
  own : mroIn K C (.ref C) = some true
theorem sxc_mk {P : Program} {K : Frag} {h : Heap} {mg : Str → Option Value} {x : Str} {C fI : Addr} {ns : List Str} (X : K.In h) (G : h.Ns mainGlobals mg) (n : nsIn K mainGlobals x = some (some (.ref C))) (iC : findIn K (.ref C) "__init__" = some (some (.ref fI))) (S : SxK P K C fI ns)
    (opq : nsIn K cStatics "thirdparty.any" = some none) (gS : nsIn K mainGlobals "super" = some none) (top : (P.main.scope.names.lookup ("super" : Str)).isSome = false) : PySem.SxX.SxC P K mg x C fI ns :=
  ⟨mg_of X G n, S.cls, S.sa, S.noN, iC, S.tI, S.kC, S.exC, S.veC, S.tyC, S.sup, S.own, opq, mg_none_of X G gS, top⟩
theorem no1 {K : Frag} {C : Addr} {a : Str} (h : findIn K (.ref C) a = some none) : ∀ n ∈ [a], findIn K (.ref C) n = some none := fun n hn => by rw [List.mem_singleton.mp hn]; exact h
theorem no2 {K : Frag} {C : Addr} {a b : Str} (h : findIn K (.ref C) a = some none) (h2 : findIn K (.ref C) b = some none) : ∀ n ∈ [a, b], findIn K (.ref C) n = some none := fun n hn => by
  rcases List.mem_cons.mp hn with e | hn
  · rw [e]; exact h
  · rw [List.mem_singleton.mp hn]; exact h2
theorem col_mk {K : Frag} {v : Value} {x : Str} {l : List (Str × Xcol)} {r : Xcol} (e : l.lookup x = some r) (h : ∀ p ∈ r, ∃ C, nsIn K mainGlobals p.1 = some (some (.ref C)) ∧ exmOne K (.ref C) v = some p.2) : ColOk K (excOf l) v x := fun c b hc => by
  unfold excOf at hc
  rw [e] at hc
  exact xcol_ok r h c b hc
theorem kit_mk {K : Frag} {v : Value} {x : Str} {l : List (Str × Xcol)} {r : Xcol} (e : l.lookup x = some r) (h : ∀ p ∈ r, ∃ C, nsIn K mainGlobals p.1 = some (some (.ref C)) ∧ ExcC K C ∧ kitOne K (.ref C) v = some p.2) : KitOk K (excOf l) v x := fun c b hc => by
  unfold excOf at hc
  rw [e] at hc
  exact kcol_ok r h c b hc
/-! ### the logic -/
def strQ (h : HV) (Q : Str → Prop) : Prop := match h with
  | .val (.str z) => Q z
  | _ => False
@[simp] theorem strQ_str {z : Str} {Q : Str → Prop} : strQ (.val (.str z)) Q ↔ Q z := Iff.rfl
section
variable {X : XP} {J J1 : Jr} {env : En} {f : EF} {M : Str → Str → Option Bool} {i : Nat} {x k : Str}
@[simp] theorem Ex_isE {Q : HV → Jr → Prop} : Ex X (eIsE M i x k env J) Q ↔ excQ env[i]? (OpQ (M k x) fun b => Q (.val (.bl b)) J) := by
  unfold eIsE
  cases h : env[i]? with
  | none => simp only [Ex_eq]; exact Iff.rfl
  | some y =>
    cases y with
    | none => simp only [Ex_eq]; exact Iff.rfl
    | some y =>
      cases y with
      | val d => simp only [Ex_eq]; exact Iff.rfl
      | jar d => simp only [Ex_eq]; exact Iff.rfl
      | new d => simp only [Ex_eq]; exact Iff.rfl
      | exc z =>
        cases z with
        | succ z => simp only [Ex_eq]; exact Iff.rfl
        | zero =>
          show Ex X (match M k x with | some b => .ok (.val (.bl b)) J | none => .stuck) Q ↔ OpQ (M k x) fun b => Q (.val (.bl b)) J
          cases M k x <;> (simp only [Ex_eq]; exact Iff.rfl)
theorem Ex_kin {F : Str → FT} {Q : HV → Jr → Prop} {d : D} (h : F k [.exc 0] J = .ok (.val d) J1) : Ex X (eKin F i k env J) Q ↔ excQ env[i]? (Q (.val d) J1) := by
  unfold eKin
  cases h' : env[i]? with
  | none => simp only [Ex_eq]; exact Iff.rfl
  | some y =>
    cases y with
    | none => simp only [Ex_eq]; exact Iff.rfl
    | some y =>
      cases y with
      | val d => simp only [Ex_eq]; exact Iff.rfl
      | jar d => simp only [Ex_eq]; exact Iff.rfl
      | new d => simp only [Ex_eq]; exact Iff.rfl
      | exc z =>
        cases z with
        | succ z => simp only [Ex_eq]; exact Iff.rfl
        | zero =>
          show Ex X (match F k [.exc 0] J with | .ok (.val d) J1 => .ok (.val d) J1 | _ => .stuck) Q ↔ Q (.val d) J1
          rw [h]
          exact Ex_ok
@[simp] theorem Ex_revS {Q : List D → Jr → Prop} : Ex X (iRevS f env J) Q ↔ Ex X (f env J) fun h J => strQ h fun z => z.cps.size < 2 ^ 62 ∧ Q (chars z).reverse J := by
  unfold iRevS
  rw [Ex_bind]
  refine Ex_iff fun h J => ?_
  cases h with
  | val d =>
    cases d with
    | str n => exact Ex_ite
    | _ => first | exact Iff.rfl | (simp only [Ex_eq, Sx_eq]; exact Iff.rfl)
  | _ => first | exact Iff.rfl | (simp only [Ex_eq, Sx_eq]; exact Iff.rfl)
end
end L2.Pz
set_option Elab.async false
set_option linter.all false
set_option maxRecDepth 100000
set_option maxHeartbeats 4000000
set_option autoImplicit false
namespace L2.Pz
open PySem
/-! ### texts as lists of code points -/
abbrev S (l : List Nat) : Str := ⟨⟨l⟩⟩
abbrev dS (l : List Nat) : D := .str (S l)
theorem S_eta (s : Str) : s = S s.cps.toList := rfl
@[simp] theorem S_len {l : List Nat} : (S l).length = l.length := rfl
@[simp] theorem S_lenI {l : List Nat} : Str.length (S l) = l.length := rfl
theorem S_app {a b : List Nat} : S a ++ S b = S (a ++ b) := by
  show (⟨(⟨a⟩ : Array Nat) ++ ⟨b⟩⟩ : Str) = _
  simp
theorem S_inj {a b : List Nat} : (S a = S b) ↔ a = b := ⟨fun h => by injection h with h; injection h, fun h => by rw [h]⟩
theorem dAdd_S {a b : List Nat} (h : a.length + b.length ≤ big) : dAdd (.str (S a)) (.str (S b)) = some (.val (.str (S (a ++ b)))) := by
  show (if (S a).length + (S b).length ≤ big then some (HV.val (.str (S a ++ S b))) else none) = _
  rw [if_pos (show (S a).length + (S b).length ≤ big from h), S_app]
theorem dLen_S {l : List Nat} (h : l.length ≤ big) : dLen (.str (S l)) = some (.val (.int l.length)) := by
  show (if (S l).length ≤ big then some (HV.val (.int (S l).length)) else none) = _
  rw [if_pos (show (S l).length ≤ big from h)]
  rfl
theorem dIx_S {l : List Nat} {i : Int} (h : l.length ≤ big) (h0 : 0 ≤ i) (h1 : i < l.length) : dIx (.str (S l)) (.int i) = some (.val (.str (S [l[i.toNat]'(by omega)]))) := by
  show (if (S l).length ≤ big then (atI (S l).cps.toList i).map fun c => HV.val (.str ⟨#[c]⟩) else none) = _
  rw [if_pos (show (S l).length ≤ big from h)]
  show (atI l i).map _ = _
  rw [atI_in h0 h1]
  rfl
theorem cutS_to {l : List Nat} {i : Int} (h0 : 0 ≤ i) : cutS (S l) none (some i) = S (l.take i.toNat) := by
  unfold cutS
  show S _ = _
  rw [S_inj, S_len, HT.sIx_none, sIx_to h0]
  show List.take _ (List.drop 0 l) = _
  rw [List.drop_zero, Nat.sub_zero]
  by_cases h : i.toNat ≤ l.length
  · rw [Nat.min_eq_left h]
  · rw [Nat.min_eq_right (by omega), List.take_length, List.take_of_length_le (by omega)]
theorem cutS_from {l : List Nat} {i : Int} (h0 : 0 ≤ i) : cutS (S l) (some i) none = S (l.drop i.toNat) := by
  unfold cutS
  show S _ = _
  rw [S_inj, S_len, HT.sIx_none, sIx_from h0]
  show List.take _ (List.drop _ l) = _
  by_cases h : i.toNat ≤ l.length
  · rw [Nat.min_eq_left h, List.take_of_length_le (by rw [List.length_drop]; exact Nat.le_refl _)]
  · rw [Nat.min_eq_right (by omega), Nat.sub_self, List.take_zero, List.drop_of_length_le (by omega)]
theorem cutS_mid {l : List Nat} {i j : Int} (h0 : 0 ≤ i) (h1 : 0 ≤ j) : cutS (S l) (some i) (some j) = S ((l.drop (min i.toNat l.length)).take (min j.toNat l.length - min i.toNat l.length)) := by
  unfold cutS
  show S _ = _
  rw [S_inj, S_len, sIx_to h1, sIx_from h0]
theorem dSl_to {l : List Nat} {i : Int} (h : l.length ≤ big) (h0 : 0 ≤ i) : dSl (.str (S l)) none (some i) = some (.val (.str (S (l.take i.toNat)))) := by
  show (if (S l).length ≤ big then some (HV.val (.str (cutS (S l) none (some i)))) else none) = _
  rw [if_pos (show (S l).length ≤ big from h), cutS_to h0]
theorem dSl_from {l : List Nat} {i : Int} (h : l.length ≤ big) (h0 : 0 ≤ i) : dSl (.str (S l)) (some i) none = some (.val (.str (S (l.drop i.toNat)))) := by
  show (if (S l).length ≤ big then some (HV.val (.str (cutS (S l) (some i) none))) else none) = _
  rw [if_pos (show (S l).length ≤ big from h), cutS_from h0]
theorem dSl_mid {l : List Nat} {i j : Int} (h : l.length ≤ big) (h0 : 0 ≤ i) (h1 : 0 ≤ j) : dSl (.str (S l)) (some i) (some j) = some (.val (.str (S ((l.drop (min i.toNat l.length)).take (min j.toNat l.length - min i.toNat l.length))))) := by
  show (if (S l).length ≤ big then some (HV.val (.str (cutS (S l) (some i) (some j)))) else none) = _
  rw [if_pos (show (S l).length ≤ big from h), cutS_mid h0 h1]
theorem dIn_S {c : Nat} {l : List Nat} : dIn (.str (S [c])) (.str (S l)) = some (.val (.bl (decide (c ∈ l)))) := rfl
theorem dNotIn_S {c : Nat} {l : List Nat} : dNotIn (.str (S [c])) (.str (S l)) = some (.val (.bl (!decide (c ∈ l)))) := rfl
theorem chars_S {l : List Nat} : chars (S l) = l.map fun c => dS [c] := rfl
theorem strOk_S {l : List Nat} (h : ∀ c ∈ l, c < 1114112) : PyData.strOk (S l) = true := by
  unfold PyData.strOk
  rw [← Array.all_toList]
  simp only [List.all_eq_true, decide_eq_true_eq]
  exact h
theorem beq_S {a b : List Nat} : (S a == S b) = decide (a = b) := by
  by_cases h : a = b
  · subst h; simp
  · rw [decide_eq_false h]
    exact beq_eq_false_iff_ne.mpr fun e => h (S_inj.mp e)
theorem dEq_S {a b : List Nat} (ha : ∀ c ∈ a, c < 1114112) (hb : ∀ c ∈ b, c < 1114112) : dEq (.str (S a)) (.str (S b)) = some (.val (.bl (decide (a = b)))) := by
  rw [dEq_str (strOk_S ha) (strOk_S hb), beq_S]
theorem asStrs_S : ∀ {l : List (List Nat)}, asStrs (l.map dS) = some (l.map S)
  | [] => rfl
  | a :: l => by
    show (asStrs (l.map dS)).map (S a :: ·) = _
    rw [asStrs_S]
    rfl
theorem sjoin_S : ∀ {l : List (List Nat)}, Str.join "" (l.map S) = S l.flatten
  | [] => rfl
  | [a] => by show S a = _; simp
  | a :: b :: r => by
    have ih := sjoin_S (l := b :: r)
    show S a ++ S [] ++ Str.join "" ((b :: r).map S) = _
    rw [ih, S_app, S_app]
    simp
theorem join_S {l : List (List Nat)} : Txt.join "" (l.map S) = S l.flatten := (StrLaws.glued_eq_join _ _).trans sjoin_S
theorem dJoin_S {l : List (List Nat)} (h : (l.map (·.length)).sum ≤ 16777216) : dJoin "" (.lst (l.map dS)) = some (.val (.str (S l.flatten))) := by
  show (match asStrs (l.map dS) with
    | some ys => if (ys.map Str.length).sum + ys.length * Str.length "" ≤ 16777216 then some (HV.val (.str (Txt.join "" ys))) else none
    | none => none) = _
  rw [asStrs_S]
  dsimp only
  rw [if_pos, join_S]
  have e : (l.map S).map Str.length = l.map (·.length) := by rw [List.map_map]; rfl
  rw [e]
  show _ + _ * 0 ≤ _
  omega
theorem dJoin_chr {l : List Nat} (h : l.length ≤ 16777216) : dJoin "" (.lst (l.map fun c => dS [c])) = some (.val (.str (S l))) := by
  have e : (l.map fun c => dS [c]) = (l.map fun c => [c]).map dS := by rw [List.map_map]; rfl
  have e2 : ∀ l : List Nat, (l.map fun c => [c]).flatten = l := fun l => by induction l with
    | nil => rfl
    | cons a l ih => simp [ih]
  have e3 : ∀ l : List Nat, ((l.map fun c => [c]).map (·.length)).sum = l.length := fun l => by induction l with
    | nil => rfl
    | cons a l ih => rw [List.map_cons, List.map_cons, List.sum_cons, ih, List.length_cons]; simp; omega
  rw [e, dJoin_S (by rw [e3]; exact h), e2]
end L2.Pz
set_option Elab.async false
set_option linter.all false
set_option maxRecDepth 100000
set_option maxHeartbeats 4000000
set_option autoImplicit false
namespace L2
open PySem PySem.Spec PyProof.Rows
/-! ### tuple * int, any small int -/
theorem tuple_mul_one (l : Addr) (items : Array Value) (n : Nat) (dd : Option Addr) (sl : Array (Option Value)) (x : Int) (u : Tok) (c0 : (decide (x < -(2 ^ 63)) || decide (x ≥ 2 ^ 63)) = false) (c1 : (items.isEmpty || x == 1) = true) :
    Meets (Builtin.«tuple.__mul__» ⟨[.ref l, .int x u], []⟩) (fun _ R s => s.heap.get? l = some { cls := .type "tuple", dict := dd, data := .seq items n, slots := sl } ∧ R (.ok (.ret (Value.ref l))) s) :=
  .of_wp fun prog w A R s h => by
    obtain ⟨hp, g, d, tk, os⟩ := s
    obtain ⟨hl, h⟩ := h
    have f1 := AutoSeq1.idx_int
    wp_walk using wpAny_loadPart' hl
    repeat (first
      | (refine wpAny_ite_false (decide_eq_false (by rw [c0]; exact Bool.false_ne_true)) ?_; wp_walk using wpAny_loadPart' hl)
      | (refine wpAny_ite_true (decide_eq_true c1) ?_; wp_walk using wpAny_loadPart' hl))
    exact ⟨_, rfl, h⟩
theorem tuple_mul_none (l : Addr) (items : Array Value) (n : Nat) (dd : Option Addr) (sl : Array (Option Value)) (x : Int) (u : Tok) (c0 : (decide (x < -(2 ^ 63)) || decide (x ≥ 2 ^ 63)) = false) (c1 : (items.isEmpty || x == 1) = false) (c2 : (decide (x ≤ 0) || items.isEmpty) = true) :
    Meets (Builtin.«tuple.__mul__» ⟨[.ref l, .int x u], []⟩) (fun _ R s => s.heap.get? l = some { cls := .type "tuple", dict := dd, data := .seq items n, slots := sl } ∧
      R (.ok (.ret (Value.ref s.heap.objs.size))) { s with heap := s.heap.push { cls := Value.type "tuple", data := Data.seq #[] }, toks := s.toks }) :=
  .of_wp fun prog w A R s h => by
    obtain ⟨hp, g, d, tk, os⟩ := s
    obtain ⟨hl, h⟩ := h
    have f1 := AutoSeq1.idx_int
    wp_walk using wpAny_loadPart' hl
    repeat (first
      | (refine wpAny_ite_false (decide_eq_false (by rw [c0]; exact Bool.false_ne_true)) ?_; wp_walk using wpAny_loadPart' hl)
      | (refine wpAny_ite_false (decide_eq_false (by rw [c1]; exact Bool.false_ne_true)) ?_; wp_walk using wpAny_loadPart' hl)
      | (refine wpAny_ite_true (decide_eq_true c2) ?_; wp_walk using wpAny_loadPart' hl))
    exact ⟨_, rfl, h⟩
def rRepTW (K : PySem.W.Frag) : R2 := fun x y H Q => ∃ l k xs, x = .ref l ∧ y = .int k ∧ SqT K H l xs ∧ -(2 ^ 62) < k ∧ k < 2 ^ 62 ∧ xs.length * k.toNat ≤ 1000000 ∧
  (((xs = [] ∨ k = 1) ∧ Q (.ref l) H) ∨ (¬ (xs = [] ∨ k = 1) ∧ ∀ p, H p = none → Q (.ref p) (upd H p (.tup (List.replicate k.toNat xs).flatten))))
theorem op_repTW {X : Cx} : OpR X (binaryOp .Mult) (rRepTW X.K) := by
  intro pins s σ H x y v u Q I rx ry h
  obtain ⟨l, k, xs, rfl, rfl, hT, h1, h2, hm, q⟩ := h
  cases rx
  obtain ⟨t, rfl⟩ := ry
  obtain ⟨its, r, ⟨⟨cls, dd, data, sl⟩, ho, hc, n, hd⟩, hs⟩ := I.tuple hT
  simp only at hc hd
  subst hc hd
  have hle : its.length = xs.length := r.length.symm
  have hsz0 : its.toArray.size = xs.length := by rw [List.size_toArray, hle]
  have c0 : (decide (k < -(2 ^ 63)) || decide (k ≥ 2 ^ 63)) = false := by
    rw [decide_eq_false (by omega), decide_eq_false (by omega)] <;> rfl
  have hemp : its.toArray.isEmpty = decide (xs = []) := by
    cases its with
    | nil =>
      have : xs = [] := List.eq_nil_of_length_eq_zero (by simpa using hle.symm)
      rw [this]; rfl
    | cons a b =>
      cases xs with
      | nil => simp at hle
      | cons c d => rfl
  rcases q with ⟨hq, q⟩ | ⟨hq, q⟩
  · have c1 : (its.toArray.isEmpty || k == 1) = true := by
      rw [hemp]
      rcases hq with e | e
      · rw [decide_eq_true e]; rfl
      · rw [e]; simp
    exact wpAny_binaryOp_repeat_ref (T := "tuple") (U := "int") (by decide) ⟨_, ho, rfl⟩ (fun s' => typeIs_int s' k t) noFill_tuple_mul F.fills_int_mul F.slot_int_rmul repeat_tuple F.slot_int_index.lookup
      (call_meets F.slot_int_rmul (typeIs_int s k t) F.entry_int_rmul (F.args_int_rmul_2 _ _) (int_rmul_tuple k t l its.toArray n dd sl)
        ⟨ho, rfl, ⟨_, ho, rfl⟩, call_meets F.slot_tuple_mul ⟨_, ho, rfl⟩ F.entry_tuple_mul (F.args_tuple_mul_2 _ _) (tuple_mul_one l its.toArray n dd sl k t c0 c1) ⟨ho, .ref l, H, I, rfl, q⟩⟩)
  · rw [not_or] at hq
    obtain ⟨hq1, hq2⟩ := hq
    have c1 : (its.toArray.isEmpty || k == 1) = false := by
      rw [hemp, decide_eq_false hq1, Bool.false_or]
      exact beq_eq_false_iff_ne.mpr hq2
    by_cases hk : k ≤ 0
    · have c2 : (decide (k ≤ 0) || its.toArray.isEmpty) = true := by rw [decide_eq_true hk]; rfl
      have e0 : k.toNat = 0 := by omega
      refine wpAny_binaryOp_repeat_ref (T := "tuple") (U := "int") (by decide) ⟨_, ho, rfl⟩ (fun s' => typeIs_int s' k t) noFill_tuple_mul F.fills_int_mul F.slot_int_rmul repeat_tuple F.slot_int_index.lookup
        (call_meets F.slot_int_rmul (typeIs_int s k t) F.entry_int_rmul (F.args_int_rmul_2 _ _) (int_rmul_tuple k t l its.toArray n dd sl)
          ⟨ho, rfl, ⟨_, ho, rfl⟩, call_meets F.slot_tuple_mul ⟨_, ho, rfl⟩ F.entry_tuple_mul (F.args_tuple_mul_2 _ _) (tuple_mul_none l its.toArray n dd sl k t c0 c1 c2) ⟨ho, ?_⟩⟩)
      rw [e0] at q
      refine ⟨.ref s.heap.objs.size, _, I.laid (t' := s.toks) (o := .tup []) (fun b ob q => Heap.get?_push_of_some _ q) (Nat.le_refl _) ?_, rfl, q _ (I.hok.fresh (Nat.le_refl _))⟩
      exact ⟨by rw [sizeLine_eq]; decide, [], .nil, IsTup.new _ _⟩
    · have hi : its.toArray.isEmpty = false := by rw [hemp]; exact decide_eq_false hq1
      have c2 : (decide (k ≤ 0) || its.toArray.isEmpty) = false := by
        rw [hi, Bool.or_false]
        exact decide_eq_false (by omega)
      have hmi : ((its.toArray.size : Nat) : Int) * k ≤ 1000000 := by
        rw [hsz0]
        have e : k = (k.toNat : Int) := by omega
        rw [e, ← Int.natCast_mul]
        omega
      have c4 : Builtin.Tuple.tupleTooMany (((its.toArray.size : Nat) : Int) * k) = false := by
        unfold Builtin.Tuple.tupleTooMany
        rw [sizeLine_eq]
        exact decide_eq_false (by omega)
      have flen : (List.replicate k.toNat its).flatten.length ≤ sizeLine := by
        rw [PyProof.Rows.lm_len_rep_flat, hle, sizeLine_eq, Nat.mul_comm]
        omega
      refine wpAny_binaryOp_repeat_ref (T := "tuple") (U := "int") (by decide) ⟨_, ho, rfl⟩ (fun s' => typeIs_int s' k t) noFill_tuple_mul F.fills_int_mul F.slot_int_rmul repeat_tuple F.slot_int_index.lookup
        (call_meets F.slot_int_rmul (typeIs_int s k t) F.entry_int_rmul (F.args_int_rmul_2 _ _) (int_rmul_tuple k t l its.toArray n dd sl)
          ⟨ho, rfl, ⟨_, ho, rfl⟩, call_meets F.slot_tuple_mul ⟨_, ho, rfl⟩ F.entry_tuple_mul (F.args_tuple_mul_2 _ _) (tuple_mulW l its.toArray n dd sl k t c0 c1 c2 (by omega) c4 (by rw [size_rep, List.size_toArray]; exact flen)) ⟨ho, ?_⟩⟩)
      rw [size_rep]
      refine ⟨.ref s.heap.objs.size, _, I.laid (t' := s.toks) (o := .tup (List.replicate k.toNat xs).flatten) (fun b ob q => Heap.get?_push_of_some _ q) (Nat.le_refl _) ?_, rfl, q _ (I.hok.fresh (Nat.le_refl _))⟩
      exact ⟨by rw [PyProof.Rows.lm_len_rep_flat, sizeLine_eq, Nat.mul_comm]; omega, _, r.rep k.toNat, IsTup.new _ _⟩
end L2
namespace L2.Pz
open PySem PySem.Spec PyProof.Rows
def dRepT : F2
  | .tup ds, .int k => if -(2 ^ 62) < k ∧ k < 2 ^ 62 ∧ ds.length * k.toNat ≤ 1000000 then some (.val (.tup (List.replicate k.toNat ds).flatten)) else none
  | _, _ => none
theorem sem_repT {K : PySem.W.Frag} : Sem2 K (rRepTW K) dRepT := by
  intro H Y x y d e z Q hl hx hy hz q
  unfold dRepT at hz
  split at hz
  · rename_i ds k
    split at hz
    · rename_i hb
      cases hz
      obtain ⟨a, vs, rfl, s, r⟩ := top_tup hx
      have hlen := reps_len r
      refine ⟨a, k, vs, rfl, top_int hy, s, hb.1, hb.2.1, by rw [hlen]; exact hb.2.2, ?_⟩
      by_cases h : vs = [] ∨ k = 1
      · refine .inl ⟨h, q _ _ (po_val ?_)⟩
        have e : (List.replicate k.toNat ds).flatten = ds := by
          rcases h with h | h
          · have : ds = [] := List.eq_nil_of_length_eq_zero (by rw [← hlen, h]; rfl)
            rw [this]
            simp
          · rw [h]
            show (List.replicate 1 ds).flatten = ds
            simp
        rw [e]
        exact rep_tup.mpr ⟨a, vs, rfl, s, r⟩
      · exact .inr ⟨h, fun p hp => q _ _ (po_newt hl hp (reps_rep r _))⟩
    · cases hz
  · cases hz
end L2.Pz
set_option Elab.async false
set_option linter.all false
set_option maxRecDepth 100000
set_option maxHeartbeats 4000000
set_option autoImplicit false
namespace L2.Pz
open PySem PySem.Spec PyProof.Rows
/-! ### xs.pop(i), xs.pop() of a cell -/
def popEnd (J : Jr) (k : Nat) (j : Int) : R HV := match J[k]? with
  | some ds => if -(2 ^ 62) ≤ j ∧ j < 2 ^ 62 then (match seqIndex? j ds.length with
      | some m => (match ds[m]? with
        | some d => .ok (.val d) (J.set k (ds.eraseIdx m))
        | none => .stuck)
      | none => .stuck) else .stuck
  | none => .stuck
def ePop (i : Nat) (f : EF) : EF := fun env J => match env[i]? with
  | some (some (.jar k)) => (f env J).bind fun h J1 => match h with
    | .val (.int j) => popEnd J1 k j
    | _ => .stuck
  | _ => .stuck
def ePop0 (i : Nat) : EF := fun env J => match env[i]? with
  | some (some (.jar k)) => (match J[k]? with
    | some ds => (match ds[ds.length - 1]? with
      | some d => .ok (.val d) (J.set k ds.dropLast)
      | none => .stuck)
    | none => .stuck)
  | _ => .stuck
theorem reps_erase {K : PySem.W.Frag} {H : Hp} {Y : Addr → Prop} : ∀ {ds : List D} {vs : List V} (m : Nat), Reps K H Y ds vs → Reps K H Y (ds.eraseIdx m) (vs.eraseIdx m)
  | [], vs, m, h => by rw [reps_nil.mp h]; exact reps_nil.mpr rfl
  | c :: ds, vs, 0, h => by
    obtain ⟨u, r, e2, h1, h2⟩ := reps_cons.mp h
    subst e2
    exact h2
  | c :: ds, vs, m + 1, h => by
    obtain ⟨u, r, e2, h1, h2⟩ := reps_cons.mp h
    subst e2
    exact reps_cons.mpr ⟨u, r.eraseIdx m, rfl, h1, reps_erase m h2⟩
theorem reps_last {K : PySem.W.Frag} {H : Hp} {Y : Addr → Prop} {ds : List D} {vs : List V} (h : Reps K H Y ds vs) : Reps K H Y ds.dropLast vs.dropLast := by
  rw [List.dropLast_eq_take, List.dropLast_eq_take, reps_len h]
  exact reps_take _ h
section
variable {X : Cx} {W : WX} {e : Expr} {f : EF} {i : Nat} {Z : List Zx}
theorem pn_pop (h : PE X e (tBM X.K "list" rPopAt (tVar i) (tCons (tD X.K Z W f) tNil))) : PE X e (tN X.K Z W (ePop i f)) := pe_mono h fun σ H Q ⟨Xo, js, env, J, F, p⟩ => by
  unfold ePop at p
  cases hs : env[i]? with
  | none => rw [hs] at p; exact p.elim
  | some o =>
    cases o with
    | none => rw [hs] at p; exact p.elim
    | some z =>
      cases z with
      | val d => rw [hs] at p; exact p.elim
      | new d => rw [hs] at p; exact p.elim
      | exc k => rw [hs] at p; exact p.elim
      | jar k =>
        rw [hs] at p
        obtain ⟨v, hv, a, ha, rfl⟩ := F.slot i _ hs
        obtain ⟨ds0, vs0, _, hl0, _⟩ := F.at ha
        refine ⟨_, hv, .inl ⟨rfl, _, SqL.of hl0⟩, ?_⟩
        show tD X.K Z W f σ H fun x H1 => _
        refine ⟨Xo, js, env, J, F, ?_⟩
        have p : PostN X.K Z W Xo js H σ env Q ((f env J).bind fun h J1 => match h with
          | .val (.int j) => popEnd J1 k j
          | _ => .stuck) := p
        cases r : f env J with
        | stuck => rw [r] at p; exact p.elim
        | err c fs J1 => rw [r] at p; exact p
        | ok h J1 =>
          rw [r] at p
          intro x H1 e1 F1 x1
          cases h with
          | jar k => exact p.elim
          | exc k => exact p.elim
          | new k => exact p.elim
          | val d0 =>
            cases d0 with
            | int j =>
              have p : PostN X.K Z W Xo js H σ env Q (popEnd J1 k j) := p
              unfold popEnd at p
              obtain ⟨ds, vs, hJ, hl, rs⟩ := F1.at ha
              rw [hJ] at p
              dsimp only at p
              split at p
              · rename_i hb
                have hlen := reps_len rs
                cases hm : seqIndex? j ds.length with
                | none => rw [hm] at p; exact p.elim
                | some m =>
                  rw [hm] at p
                  dsimp only at p
                  cases hd : ds[m]? with
                  | none => rw [hd] at p; exact p.elim
                  | some d =>
                    rw [hd] at p
                    dsimp only at p
                    obtain ⟨y, hy, ry⟩ := reps_get rs hd
                    obtain ⟨F2, e2⟩ := F1.write ha (reps_erase m rs)
                    have y2 := HRep.ext (h := .val d) (v := y) F1 e2 ry
                    exact ⟨a, vs, j, m, y, rfl, by rw [rep_int (K := X.K) (H := H1) (Y := Yf Xo js) x1], hl, by omega, by omega, by rw [hlen]; exact hm, hy, p y _ (e1.trans e2) (out_val F2 y2)⟩
              · exact p.elim
            | _ => exact p.elim
        done
theorem pn_pop0 (h : PE X e (tBM0 X.K "list" rPop (tVar i))) : PE X e (tN X.K Z W (ePop0 i)) := pe_mono h fun σ H Q ⟨Xo, js, env, J, F, p⟩ => by
  unfold ePop0 at p
  cases hs : env[i]? with
  | none => rw [hs] at p; exact p.elim
  | some o =>
    cases o with
    | none => rw [hs] at p; exact p.elim
    | some z =>
      cases z with
      | val d => rw [hs] at p; exact p.elim
      | new d => rw [hs] at p; exact p.elim
      | exc k => rw [hs] at p; exact p.elim
      | jar k =>
        rw [hs] at p
        obtain ⟨v, hv, a, ha, rfl⟩ := F.slot i _ hs
        obtain ⟨ds, vs, hJ, hl, rs⟩ := F.at ha
        refine ⟨_, hv, .inl ⟨rfl, _, SqL.of hl⟩, ?_⟩
        dsimp only at p
        rw [hJ] at p
        dsimp only at p
        have hlen := reps_len rs
        cases hd : ds[ds.length - 1]? with
        | none => rw [hd] at p; exact p.elim
        | some d =>
          rw [hd] at p
          dsimp only at p
          obtain ⟨y, hy, ry⟩ := reps_get rs hd
          obtain ⟨F2, e2⟩ := F.write ha (reps_last rs)
          have y2 := HRep.ext (h := .val d) (v := y) F e2 ry
          exact ⟨a, vs, y, rfl, rfl, hl, by rw [hlen]; exact hy, p y _ e2 (out_val F2 y2)⟩
end
/-! ### isinstance(x, (T, U)), built-in classes -/
def dIsa2 (T U : String) : F1 := fun d => some (.val (.bl (isa T d || isa U d)))
theorem top_same {K : PySem.W.Frag} {H H' : Hp} {Y : Addr → Prop} {d : D} {v : V} (s : Same H H') (hl : Lists H Y) (h : RepTop K H Y d v) : RepTop K H' Y d v := by
  have mv : ∀ d v, Rep K H Y d v → Rep K H' Y d v := fun d v r => rep_move (fun a o e _ => s a o e) (fun _ y => .inl y) hl _ _ r
  cases d with
  | lst ds =>
    obtain ⟨a, vs, e, q, r⟩ := h
    refine ⟨a, vs, e, ?_, reps_move (fun a o e _ => s a o e) (fun _ y => .inl y) hl _ _ r⟩
    rcases q with (q | ⟨o, q⟩) | q
    · exact .inl (.inl (s _ _ q))
    · exact .inl (.inr ⟨o, s _ _ q⟩)
    · exact .inr q
  | non => exact mv _ _ h
  | bl b => exact mv _ _ h
  | int b => exact mv _ _ h
  | str b => exact mv _ _ h
  | tup b => exact mv _ _ h
theorem kit2 {K : PySem.W.Frag} {t a b : Value} {x y : Bool} (h1 : PySem.W.kitOne K t a = some x) (h2 : PySem.W.kitOne K t b = some y) : PySem.W.kitAny K t [a, b] = some (x || y) := by
  unfold PySem.W.kitAny
  rw [h1]
  cases x
  · unfold PySem.W.kitAny
    rw [h2]
    cases y <;> rfl
  · rfl
theorem sem_isa2 {K : PySem.W.Frag} {T U : String} (hT : IsaOk T) (hU : IsaOk U) : Sem1 K (fun x H Q => [V.ty T, V.ty U].length ≤ sizeLine ∧ ∀ p, H p = none → rIsiT K [x, .ref p] (upd H p (.tup [.ty T, .ty U])) Q) (dIsa2 T U) := by
  intro H Y x d z Q hl hx hz q
  cases hz
  refine ⟨by rw [sizeLine_eq]; show 2 ≤ 16777216; decide, fun p hp => ?_⟩
  have s : Same H (upd H p (.tup [.ty T, .ty U])) := same_upd hp
  exact ⟨x, p, _, _, [.type T, .type U], _, rfl, upd_same, .cons (.ty T) (.cons (.ty U) .nil), tyx_of (top_same s hl hx), kit2 (kit_ty (hT d)) (kit_ty (hU d)), q _ _ ⟨s, mk_bl⟩⟩
/-- isinstance(x, (T, U)) -/
theorem pn_isi2 {X : Cx} {W : WX} {a : Expr} {f : EF} {Z : List Zx} {x : Str} {m n : String} {p p2 p3 tpos pos : Pos} {tk : Nat} {y z : Str} (sem : Sem1 X.K (fun x H Q => [V.ty m, V.ty n].length ≤ sizeLine ∧ ∀ p, H p = none → rIsiT X.K [x, .ref p] (upd H p (.tup [.ty m, .ty n])) Q) (dIsa2 m n))
    (hg : Gl X x) (hm : X.mg x = none) (hv : bootBuiltins x = some (.builtin "isinstance")) (ha : PE X a (tD X.K Z W f)) (hy : PE X (.Name y p2) (tC (.ty m))) (hz : PE X (.Name z p3) (tC (.ty n)))
    (hn : x ≠ "__name__") (hdb : (x == ("__debug__" : Str)) = false) (h1 : starEach [a, .Tuple [.Name y p2, .Name z p3] tk tpos] X.env = (false, eval a X.env) :: starEach [.Tuple [.Name y p2, .Name z p3] tk tpos] X.env)
    (h2 : starEach [.Tuple [.Name y p2, .Name z p3] tk tpos] X.env = (false, eval (.Tuple [.Name y p2, .Name z p3] tk tpos) X.env) :: starEach [] X.env) (h3 : starEach [.Name y p2, .Name z p3] X.env = (false, eval (.Name y p2) X.env) :: starEach [.Name z p3] X.env) (h4 : starEach [.Name z p3] X.env = (false, eval (.Name z p3) X.env) :: starEach [] X.env)
    (hpl : (backTo pos (starEach [.Tuple [.Name y p2, .Name z p3] tk tpos] X.env)).any (·.1) = false) :
    PE X (.Call (.Name x p) [a, .Tuple [.Name y p2, .Name z p3] tk tpos] [] pos) (tN X.K Z W (eUn (dIsa2 m n) f)) :=
  pe_mono (pe_callB call_isiT hg hm hv (pa_cons ha (pa_cons (pe_tup (pa_cons hy (pa_cons hz pa_nil h4) h3)) pa_nil h2) h1) hn hdb h1 hpl) fun σ H Q w => un_read (ta := tD X.K Z W f) sem (fun _ _ _ z => z) w
end L2.Pz
set_option Elab.async false
set_option linter.all false
set_option maxRecDepth 100000
set_option maxHeartbeats 4000000
set_option autoImplicit false
namespace L2.Pz
open PySem
variable {X : XP} {Q : HV → Jr → Prop} {T J : Jr} {jc : List D} {env : En}
/-! ### names, small texts: for many laws -/
abbrev cp (s : Str) : List Nat := s.cps.toList
def abc : List Nat := cp "abcdefghijklmnopqrstuvwxyz"
def figs : List Nat := cp "0123456789"
theorem figs_lit : D.str (Str.ofString "0123456789") = dS figs := by with_unfolding_all rfl
def barred : List (List Nat) := ([("sign" : Str), "held", "idle", "loose", "same", "state", "flag", "count", "on", "if", "and", "do", "no", "least", "below", "raise", "clear", "add", "drop", "tell", "path", "machine", "program", "rows"] : List Str).map fun s : Str => cp s
def isL (c : Nat) : Bool := decide (c ∈ abc)
def isF (c : Nat) : Bool := decide (c ∈ figs)
def badAt : Nat → List Nat → Option Nat
  | _, [] => none
  | i, c :: r => if (isL c || (i != 0 && isF c)) = true then badAt (i + 1) r else some i
def due (l : List Nat) : Int := if l.length < 1 ∨ 8 < l.length then -1 else if l ∈ barred then -1 else match badAt 0 l with
  | some i => i
  | none => 100 + l.length
abbrev asc (l : List Nat) : Prop := ∀ c ∈ l, c < 1114112
theorem barred_asc : ∀ w ∈ barred, asc w := by decide +kernel
theorem badAt_ge : ∀ (l : List Nat) (i k : Nat), badAt i l = some k → i ≤ k ∧ k < i + l.length
  | [], i, k, h => by cases h
  | c :: r, i, k, h => by
    unfold badAt at h
    split at h
    · have := badAt_ge r (i + 1) k h
      rw [List.length_cons]; omega
    · cases h
      rw [List.length_cons]; omega
theorem due_small {l : List Nat} (h : due l < 100) : due l < 8 := by
  unfold due at h ⊢
  split
  · decide
  · split
    · decide
    · rename_i h1 h2
      rw [if_neg h1, if_neg h2] at h
      cases e : badAt 0 l with
      | none => rw [e] at h; dsimp only at h; omega
      | some k =>
        have := badAt_ge _ _ _ e
        dsimp only
        omega
theorem due_big {l : List Nat} (h : ¬ due l < 100) : due l = 100 + l.length := by
  unfold due at h ⊢
  split
  · rename_i h1; rw [if_pos h1] at h; omega
  · split
    · rename_i h1 h2; rw [if_neg h1, if_pos h2] at h; omega
    · rename_i h1 h2
      rw [if_neg h1, if_neg h2] at h
      cases e : badAt 0 l with
      | none => rfl
      | some k =>
        have := badAt_ge _ _ _ e
        rw [e] at h
        dsimp only at h
        omega
@[simp] theorem yes2_t {i j : Int} : yes2 i j = true := rfl
theorem Ex_bChain {fo go : F2} {f g k : EF} {Q : Bool → Jr → Prop} : Ex X (bChain fo go f g k env J) Q ↔ Ex X (f env J) fun h1 J1 => Ex X (g env J1) fun h2 J2 => Ex X (app2 fo J2 h1 h2) fun z J3 => blQ z fun b => if b = true then Ex X (k env J3) fun h3 J4 => Ex X (app2 go J4 h2 h3) fun y J5 => blQ y fun b => Q b J5 else Q false J3 := by
  unfold bChain eChain
  simp only [Ex_toB, Ex_bind]
  refine Ex_iff fun h1 J1 => Ex_iff fun h2 J2 => Ex_iff fun z J3 => ?_
  cases z with
  | val d =>
    cases d with
    | bl b =>
      cases b
      · simp
      · simp
    | _ => simp [blQ]
  | _ => simp [blQ]
theorem pair_get {ds : List D} {k i : Nat} {d : D} (h : (pairUp k ds)[i]? = some d) : ∃ e, ds[i]? = some e ∧ d = .tup [.int ((k + i : Nat) : Int), e] := by
  have hi : i < ds.length := by
    have := (List.getElem?_eq_some_iff.mp h).1
    rw [pairUp_len] at this
    exact this
  have := pairUp_get ds k i ds[i] (List.getElem?_eq_getElem hi)
  rw [h] at this
  exact ⟨ds[i], List.getElem?_eq_getElem hi, by simpa using this⟩
theorem shp_barred : shp (.tup (barred.map dS)) = true := by decide +kernel
theorem shp_S {l : List Nat} (h : asc l) : shp (dS l) = true := by rw [shp_str]; exact strOk_S h
theorem in_barred {l : List Nat} : ∀ bs : List (List Nat), inAny (dS l) (bs.map dS) = decide (l ∈ bs)
  | [] => by simp [inAny]
  | b :: bs => by
    have ih := in_barred (l := l) bs
    unfold inAny at ih ⊢
    rw [List.map_cons, List.any_cons, ih]
    have e : deq (dS b) (dS l) = decide (b = l) := (show deq (dS b) (dS l) = (S b == S l) from rfl).trans beq_S
    rw [e]
    by_cases h : b = l
    · subst h; simp
    · have h' : ¬ l = b := fun e => h e.symm
      simp [h, h']
@[simp] theorem dAdd_ii {i j : Int} : dAdd (.int i) (.int j) = some (.val (.int (i + j))) := rfl
@[simp] theorem dSub_ii {i j : Int} : dSub (.int i) (.int j) = some (.val (.int (i - j))) := rfl
@[simp] theorem dLt_ii {i j : Int} : dLt (.int i) (.int j) = some (.val (.bl (decide (i < j)))) := rfl
@[simp] theorem dGe_ii {i j : Int} : dGe (.int i) (.int j) = some (.val (.bl (decide (j ≤ i)))) := rfl
@[simp] theorem dGt_ii {i j : Int} : dGt (.int i) (.int j) = some (.val (.bl (decide (j < i)))) := rfl
@[simp] theorem dNeg_i {i : Int} : dNeg (.int i) = some (.val (.int (-i))) := rfl
@[simp] theorem dLen_l {ds : List D} : dLen (.lst ds) = some (.val (.int ds.length)) := rfl
@[simp] theorem dLen_t {ds : List D} : dLen (.tup ds) = some (.val (.int ds.length)) := rfl
@[simp] theorem truth_bl {b : Bool} : truth (.bl b) = some b := rfl
abbrev a7 (l : List Nat) : Prop := ∀ c ∈ l, c < 128
theorem a7.asc {l : List Nat} (h : a7 l) : asc l := fun c hc => by have := h c hc; omega
theorem dIx_any {z : Str} {i : Int} (P : Nat → Prop) (hP : ∀ c ∈ z.cps.toList, P c) (hz : z.cps.toList.length ≤ big) (h0 : 0 ≤ i) (h1 : i < z.cps.toList.length) : ∃ c, P c ∧ dIx (.str z) (.int i) = some (.val (dS [c])) :=
  ⟨_, hP _ (List.getElem_mem (by omega)), dIx_S (l := z.cps.toList) hz h0 h1⟩
def gC (c : Nat) : Prop := isL c = true ∨ isF c = true
def gW (l : List Nat) : Prop := ∃ c r, l = c :: r ∧ isL c = true ∧ ∀ x ∈ r, gC x
theorem abc7 : ∀ c ∈ abc, c < 128 := by decide +kernel
theorem figs7 : ∀ c ∈ figs, c < 128 := by decide +kernel
theorem gC7 {c : Nat} (h : gC c) : c < 128 := by
  rcases h with h | h
  · exact abc7 c (of_decide_eq_true h)
  · exact figs7 c (of_decide_eq_true h)
theorem gW7 {l : List Nat} (h : gW l) : a7 l := by
  obtain ⟨c, r, rfl, h1, h2⟩ := h
  intro x hx
  rcases List.mem_cons.mp hx with rfl | hx
  · exact gC7 (.inl h1)
  · exact gC7 (h2 x hx)
theorem gW_all {l : List Nat} (h : gW l) : ∀ x ∈ l, gC x := by
  obtain ⟨c, r, rfl, h1, h2⟩ := h
  intro x hx
  rcases List.mem_cons.mp hx with rfl | hx
  · exact .inl h1
  · exact h2 x hx
theorem gW_app {l m : List Nat} (h : gW l) (hm : ∀ x ∈ m, gC x) : gW (l ++ m) := by
  obtain ⟨c, r, rfl, h1, h2⟩ := h
  exact ⟨c, r ++ m, rfl, h1, fun x hx => (List.mem_append.mp hx).elim (h2 x) (hm x)⟩
theorem bad_none : ∀ (r : List Nat) (i : Nat), (∀ x ∈ r, gC x) → badAt (i + 1) r = none
  | [], i, h => rfl
  | c :: r, i, h => by
    unfold badAt
    have hc : (isL c || (i + 1 != 0 && isF c)) = true := by
      rcases h c List.mem_cons_self with e | e <;> simp [e]
    rw [if_pos hc]
    exact bad_none r (i + 1) fun x hx => h x (List.mem_cons_of_mem _ hx)
theorem gW_bad {l : List Nat} (h : gW l) : badAt 0 l = none := by
  obtain ⟨c, r, rfl, h1, h2⟩ := h
  unfold badAt
  rw [if_pos (by simp [h1])]
  exact bad_none r 0 h2
theorem due_good {l : List Nat} (h : gW l) (hb : l ∉ barred) (h1 : l.length ≤ 8) : due l = 100 + l.length := by
  have h0 : 0 < l.length := by obtain ⟨c, r, rfl, _⟩ := h; simp
  unfold due
  rw [if_neg (by omega), if_neg hb, gW_bad h]
theorem barred_q : ∀ w ∈ barred, w.getLast? ≠ some 113 := by decide +kernel
theorem c09 : ∀ c ∈ cp "09az", gC c := by unfold gC; decide +kernel
theorem cfig : ∀ c ∈ cp "0123456789", gC c := by unfold gC; decide +kernel
theorem ctail : ∀ c ∈ abc ++ figs, gC c := by unfold gC; decide +kernel
theorem cabc : ∀ c ∈ abc, gC c := by unfold gC; decide +kernel
theorem a71 {c : Nat} (h : c < 128) : a7 [c] := fun x hx => by rw [List.mem_singleton.mp hx]; exact h
theorem dAdd_any {x y : Str} (h : x.cps.toList.length + y.cps.toList.length ≤ big) : dAdd (.str x) (.str y) = some (.val (dS (x.cps.toList ++ y.cps.toList))) := dAdd_S h
abbrev sm (n : Nat) (l : List Nat) : Prop := a7 l ∧ l.length ≤ n
theorem sm_app {a b : List Nat} {n m : Nat} (ha : sm n a) (hb : sm m b) : sm (n + m) (a ++ b) := ⟨fun c hc => (List.mem_append.mp hc).elim (ha.1 c) (hb.1 c), by rw [List.length_append]; have := ha.2; have := hb.2; omega⟩
theorem sm.mono {n m : Nat} {l : List Nat} (h : sm n l) (hm : n ≤ m) : sm m l := ⟨h.1, by have := h.2; omega⟩
theorem sm1 {c : Nat} (h : c < 128) : sm 1 [c] := ⟨a71 h, by simp⟩
theorem sm_take {n k : Nat} {l : List Nat} (h : sm n l) : sm n (l.take k) := ⟨fun c hc => h.1 c (List.mem_of_mem_take hc), by rw [List.length_take]; have := h.2; omega⟩
theorem sm_drop {n k : Nat} {l : List Nat} (h : sm n l) : sm n (l.drop k) := ⟨fun c hc => h.1 c (List.mem_of_mem_drop hc), by rw [List.length_drop]; have := h.2; omega⟩
theorem chars_get {z : Str} {i : Nat} {d : D} (h : (chars z)[i]? = some d) : ∃ c, c ∈ z.cps.toList ∧ d = dS [c] ∧ i < z.cps.toList.length := by
  unfold chars at h
  rw [List.getElem?_map] at h
  cases e : z.cps.toList[i]? with
  | none => rw [e] at h; cases h
  | some c => rw [e] at h; exact ⟨c, List.mem_of_getElem? e, by simpa using h.symm, (List.getElem?_eq_some_iff.mp e).1⟩
@[simp] theorem Ex_yes {env : En} {Q : Bool → Jr → Prop} : Ex X (bYes env J) Q ↔ Q true J := Ex_ok
theorem barred_sm : ∀ w ∈ barred, sm 9 w := by decide +kernel
theorem barred_abc : ∀ w ∈ barred, ∀ c ∈ w, c ∈ abc := by decide +kernel
theorem barred_pos : ∀ w ∈ barred, 0 < w.length := by decide +kernel
theorem dUpper_S {l : List Nat} (h : l.length ≤ 1000) : dUpper (.str (S l)) = some (.val (.str (Txt.upper (S l)))) := by
  show (if (S l).length ≤ 5592405 then some (HV.val (.str (Txt.upper (S l)))) else none) = _
  rw [if_pos (show (S l).length ≤ 5592405 from (show l.length ≤ 5592405 by omega))]
theorem dAdd_ll {xs ys : List D} (h : xs.length + ys.length ≤ 16777216) : dAdd (.lst xs) (.lst ys) = some (.new (xs ++ ys)) := by
  show (if xs.length + ys.length ≤ big then some (HV.new (xs ++ ys)) else none) = _
  rw [if_pos h]
@[simp] theorem dNe_bl {a b : Bool} : dNe (.bl a) (.bl b) = some (.val (.bl (!(a == b)))) := rfl
@[simp] theorem dEq_bl {a b : Bool} : dEq (.bl a) (.bl b) = some (.val (.bl (a == b))) := rfl
end L2.Pz
set_option Elab.async false
set_option linter.all false
set_option maxRecDepth 100000
set_option maxHeartbeats 4000000
set_option autoImplicit false
namespace K12
open PySem PySem.Spec PyProof.Rows L2 L2.Pz
/-! ### what the defs compute -/
def gc_NAME_MOST : D := (.int 8)
def gc_NO_NAMES : D := (.tup [(.str "sign"), (.str "held"), (.str "idle"), (.str "loose"), (.str "same"), (.str "state"), (.str "flag"), (.str "count"), (.str "on"), (.str "if"), (.str "and"), (.str "do"), (.str "no"), (.str "least"), (.str "below"), (.str "raise"), (.str "clear"), (.str "add"), (.str "drop"), (.str "tell"), (.str "path"), (.str "machine"), (.str "program"), (.str "rows")])
def gc_LETTERS : D := (.str "abcdefghijklmnopqrstuvwxyz")
def gc_FIGURES : D := (.str "0123456789")
def gc_STATES_MOST : D := (.int 200)
def isM : Str → Str → Option Bool := excOf [("BadMachine", [("BadName", false), ("BadMachine", true)]), ("BadProgram", [("BadName", false), ("BadMachine", false)]), ("BadRow", [("BadName", false), ("BadMachine", false)]), ("BadSetting", [("BadName", false), ("BadMachine", false)]), ("BadText", [("BadName", false), ("BadMachine", false)])]
def excM : Str → Str → Option Bool := excOf [("BadName", [("BadName", true), ("BadMachine", false)]), ("HeardError", [("BadName", true), ("BadMachine", true)])]
def B_l_jar : SF := (sSeq (sSet 1 (eC (.int 0)))
  (sSeq (sSet 2 (eC (.int 40961)))
  (sSeq (sFor (iAny (eName 0)) (tgName 3) (sSeq (sSet 4 (eBin dMod (eUn dAbs (eUn dToInt (eName 3))) (eBin dShl (eC (.int 1)) (eC (.int 2000)))))
  (sSeq (sIf (bCmp dGe (eName 4) (eBin dPow (eC (.int 10)) (eC (.int 18)))) (sSet 1 (eBin dMod (eBin dAdd (eBin dMul (eName 1) (eBin dShl (eC (.int 1)) (eC (.int 61)))) (eName 4)) (eBin dShl (eC (.int 1)) (eC (.int 4000))))) sNext)
  (sSeq (sSet 2 (eBin dMod (eBin dAdd (eBin dAdd (eBin dMul (eName 2) (eC (.int 16807))) (eBin dMod (eName 4) (eC (.int 1000003)))) (eC (.int 11))) (eC (.int 2147483647))))
  (sIf (bCmp dLt (eUn dToInt (eName 3)) (eC (.int 0))) (sSet 2 (eBin dMod (eBin dAdd (eName 2) (eC (.int 5003))) (eC (.int 2147483647)))) sNext)))))
  (sRet (eLst [(eName 1), (eName 2), (eC (.int 0))])))))
def F_l_jar : FT := mkF 5 B_l_jar
def B_l_draw : SF := (sSeq (sSetI 0 (eC (.int 2)) (eBin dAdd (eBin dIx (eName 0) (eC (.int 2))) (eC (.int 1))))
  (sSeq (sIf (bCmp dGt (eBin dIx (eName 0) (eC (.int 0))) (eC (.int 0))) (sSeq (sSet 2 (eBin dMod (eUn dToInt (eBin dIx (eName 0) (eC (.int 0)))) (eName 1)))
  (sSeq (sSetI 0 (eC (.int 0)) (eBin dFloor (eBin dIx (eName 0) (eC (.int 0))) (eName 1)))
  (sRet (eNorm (eName 2))))) sNext)
  (sSeq (sSetI 0 (eC (.int 1)) (eBin dMod (eBin dAdd (eBin dAdd (eBin dMul (eBin dIx (eName 0) (eC (.int 1))) (eC (.int 39373))) (eBin dMul (eC (.int 101)) (eBin dIx (eName 0) (eC (.int 2))))) (eC (.int 7))) (eC (.int 2147483647))))
  (sRet (eBin dMod (eUn dToInt (eBin dFloor (eBin dIx (eName 0) (eC (.int 1))) (eC (.int 4093)))) (eName 1))))))
def F_l_draw : FT := mkF 3 B_l_draw
def B_l_reserved : SF := (sSeq (sSet 0 (eC (.str "sign held idle loose same state flag count on if and do no least below raise clear add drop")))
  (sRet (eBin dAdd (eUn dWords (eName 0)) (eLst [(eC (.str "tell")), (eC (.str "path")), (eC (.str "machine")), (eC (.str "program")), (eC (.str "rows"))]))))
def F_l_reserved : FT := mkF 1 B_l_reserved
def B_l_is_name : SF := (sSeq (sSet 1 (eC (.str "abcdefghijklmnopqrstuvwxyz")))
  (sSeq (sIf (bOr (bNot (bTruth (eUn (dIsa "str") (eName 0)))) (bOr (bCmp dEq (eName 0) (eC (.str ""))) (bCmp dGt (eUn dLen (eName 0)) (eC (.int 8))))) (sRet (eNorm (eC (.bl false)))) sNext)
  (sSeq (sIf (bOr (bCmp dIn (eName 0) (eCall F_l_reserved [])) (bCmp dNotIn (eBin dIx (eName 0) (eC (.int 0))) (eName 1))) (sRet (eNorm (eC (.bl false)))) sNext)
  (sSeq (sFor (iAny (eName 0)) (tgName 2) (sIf (bAnd (bCmp dNotIn (eName 2) (eName 1)) (bCmp dNotIn (eName 2) (eC (.str "0123456789")))) (sRet (eNorm (eC (.bl false)))) sNext))
  (sRet (eNorm (eC (.bl true))))))))
def F_l_is_name : FT := mkF 3 B_l_is_name
def B_l_name : SF := (sSeq (sSet 1 (eC (.str "abcdefghijklmnopqrstuvwxyz0123456789")))
  (sSeq (sSet 2 (eBin dIx (eName 1) (eCall F_l_draw [(eName 0), (eC (.int 26))])))
  (sSeq (sFor (iRange1 (eCall F_l_draw [(eName 0), (eC (.int 8))])) (tgName 3) (sSet 2 (eBin dAdd (eName 2) (eBin dIx (eName 1) (eCall F_l_draw [(eName 0), (eC (.int 36))])))))
  (sSeq (sIf (bNot (bTruth (eCall F_l_is_name [(eName 2)]))) (sSet 2 (eBin dAdd (eName 2) (eC (.str "x")))) sNext)
  (sRet (eNorm (eName 2)))))))
def F_l_name : FT := mkF 4 B_l_name
def B_l_setting : SF := (sSeq (sSet 2 (eC (.str "rbdkmpt")))
  (sSeq (sSet 3 (eCall F_l_draw [(eName 0), (eC (.int 7))]))
  (sSeq (sNew 4 (eLst []))
  (sSeq (sFor (iRange1 (eName 1)) (tgName 5) (sSeq (sSet 9 (eBin dIx (eName 2) (eBin dMod (eBin dAdd (eName 3) (eName 5)) (eC (.int 7)))))
  (sSeq (sIf (bCmp dGt (eCall F_l_draw [(eName 0), (eC (.int 3))]) (eC (.int 0))) (sSet 9 (eBin dAdd (eName 9) (eCall F_l_name [(eName 0)]))) sNext)
  (sSeq (sIf (bCmp dGt (eUn dLen (eName 9)) (eC (.int 8))) (sSet 9 (eSl (eName 9) none (some (eC (.int 8))))) sNext)
  (sSeq (sIf (bNot (bTruth (eCall F_l_is_name [(eName 9)]))) (sSet 9 (eBin dAdd (eSl (eName 9) none (some (eC (.int 7)))) (eC (.str "7")))) sNext)
  (sApp 4 (eName 9)))))))
  (sSeq (sNew 6 (eBin dAdd (eLc (iRange1 (eName 1)) (tgName 5) bYes (eTup [(eC (.str "held")), (eName 5)]) [5]) (eLc (iRange1 (eName 1)) (tgName 5) bYes (eTup [(eC (.str "idle")), (eName 5)]) [5])))
  (sSeq (sFor (iRange1 (eName 1)) (tgName 5) (sSeq (sNew 6 (eBin dAdd (eName 6) (eLc (iRange2 (eBin dAdd (eName 5) (eC (.int 1))) (eName 1)) (tgName 10) bYes (eTup [(eC (.str "loose")), (eName 5), (eName 10)]) [10])))
  (sNew 6 (eBin dAdd (eName 6) (eLc (iRange2 (eBin dAdd (eName 5) (eC (.int 1))) (eName 1)) (tgName 10) bYes (eTup [(eC (.str "same")), (eName 5), (eName 10)]) [10])))))
  (sSeq (sNew 7 (eLst []))
  (sSeq (sFor (iRange1 (eCall F_l_draw [(eName 0), (eC (.int 13))])) (tgName 8) (sIf (bCmp dGt (eUn dLen (eName 6)) (eC (.int 0))) (sApp 7 (ePop 6 (eCall F_l_draw [(eName 0), (eUn dLen (eName 6))]))) sNext))
  (sRet (eTup [(eUn dTuple (eName 4)), (eUn dTuple (eName 7))]))))))))))
def F_l_setting : FT := mkF 11 B_l_setting
def B_l_machine : SF := (sSeq (sNew 3 (eLst []))
  (sSeq (sFor (iRange1 (eName 2)) (tgName 4) (sSeq (sSet 5 (eLc (iRange1 (eName 1)) (tgName 6) bYes (eCall F_l_draw [(eName 0), (eName 2)]) [6]))
  (sApp 3 (eTup [(eCall F_l_name [(eName 0)]), (eUn dTuple (eName 5))]))))
  (sRet (eUn dTuple (eName 3)))))
def F_l_machine : FT := mkF 7 B_l_machine
def B_is_integer : SF := (sRet (eAnd (eUn (dIsa "int") (eName 0)) (eNot (eUn (dIsa "bool") (eName 0)))))
def F_is_integer : FT := mkF 1 B_is_integer
def B_integer_within : SF := (sRet (eAnd (eCall F_is_integer [(eName 0)]) (eChain dLe dLe (eName 1) (eName 0) (eName 2))))
def F_integer_within : FT := mkF 3 B_integer_within
def B_is_number : SF := (sRet (eCall F_integer_within [(eName 0), (eC (.int 0)), (eBin dSub (eName 1) (eC (.int 1)))]))
def F_is_number : FT := mkF 2 B_is_number
def B_tuple_of : SF := (sRet (eAnd (eUn (dIsa "tuple") (eName 0)) (eBin dEq (eUn dLen (eName 0)) (eName 1))))
def F_tuple_of : FT := mkF 2 B_tuple_of
def B_check_name : SF := (sSeq (sIf (bOr (bNot (bTruth (eUn (dIsa "str") (eName 0)))) (bOr (bNot (bChain dLe dLe (eC (.int 1)) (eUn dLen (eName 0)) (eC gc_NAME_MOST))) (bCmp dIn (eName 0) (eC gc_NO_NAMES)))) (sRaise "BadName" ["at"] [(eUn dNeg (eC (.int 1)))]) sNext)
  (sSeq (sFor (iEnumD (eName 0)) (tgSeq [1, 2]) (sIf (bAnd (bCmp dNotIn (eName 2) (eC gc_LETTERS)) (bOr (bCmp dEq (eName 1) (eC (.int 0))) (bCmp dNotIn (eName 2) (eC gc_FIGURES)))) (sRaise "BadName" ["at"] [(eName 1)]) sNext))
  (sRet (eUn dLen (eName 0)))))
def F_check_name : FT := mkF 3 B_check_name
def B_is_name : SF := (sSeq (sTry excM (sExpr (eCall F_check_name [(eName 0)])) [("BadName", none, fun c fs => (sRet (eNorm (eC (.bl false)))))])
  (sRet (eNorm (eC (.bl true)))))
def F_is_name : FT := mkF 1 B_is_name
def B_is_state : SF := (sSeq (sIf (bOr (bNot (bTruth (eCall F_tuple_of [(eName 2), (eC (.int 2))]))) (bOr (bNot (bTruth (eCall F_is_name [(eBin dIx (eName 2) (eC (.int 0)))]))) (bNot (bTruth (eCall F_tuple_of [(eBin dIx (eName 2) (eC (.int 1))), (eName 0)]))))) (sRet (eNorm (eC (.bl false)))) sNext)
  (sRet (eUn dAll (eLc (iAny (eBin dIx (eName 2) (eC (.int 1)))) (tgName 3) bYes (eCall F_is_number [(eName 3), (eName 1)]) [3]))))
def F_is_state : FT := mkF 4 B_is_state
def B_check_machine : SF := (sSeq (sIf (bNot (bTruth (eUn (dIsa "tuple") (eName 1)))) (sRaise "BadMachine" ["at", "word"] [(eUn dNeg (eC (.int 1))), (eC (.str "shape"))]) sNext)
  (sSeq (sIf (bNot (bChain dLe dLe (eC (.int 1)) (eUn dLen (eName 1)) (eC gc_STATES_MOST))) (sRaise "BadMachine" ["at", "word"] [(eUn dNeg (eC (.int 1))), (eC (.str "states"))]) sNext)
  (sSeq (sFor (iEnumD (eName 1)) (tgSeq [2, 3]) (sIf (bNot (bTruth (eCall F_is_state [(eUn dLen (eBin dIx (eName 0) (eC (.int 0)))), (eUn dLen (eName 1)), (eName 3)]))) (sRaise "BadMachine" ["at", "word"] [(eName 2), (eC (.str "state"))]) sNext))
  (sRet (eUn dLen (eName 1))))))
def F_check_machine : FT := mkF 4 B_check_machine
def B_l_ask : SF := (sSeq (sTry excM (sIf (bTruth (eName 2)) (sSet 3 (eCallK F_check_machine [1, 0] [(eName 1), (eName 0)])) (sSet 3 (eCall F_check_machine [(eName 0), (eName 1)]))) [("HeardError", (some 4), fun c fs => (sFor1 "BadMachine" c (sSeq (sIf (bNot (bTruth (eIsE isM 4 "BadMachine" c))) (sRet (eLst [(eC (.str "other")), (eC (.int 0)), (eC (.str ""))])) sNext)
  (sSeq (sIf (bOr (bTruth (eIsE isM 4 "BadProgram" c)) (bOr (bTruth (eIsE isM 4 "BadRow" c)) (bTruth (eIsE isM 4 "BadSetting" c)))) (sRet (eLst [(eC (.str "other")), (eC (.int 0)), (eC (.str ""))])) sNext)
  (sSeq (sIf (bTruth (eIsE isM 4 "BadText" c)) (sRet (eLst [(eC (.str "other")), (eC (.int 0)), (eC (.str ""))])) sNext)
  (sRet (eLst [(eC (.str "raised")), (eFld 4 "at" fs), (eFld 4 "word" fs)])))))))])
  (sRet (eLst [(eC (.str "told")), (eName 3), (eC (.str ""))])))
def F_l_ask : FT := mkF 5 B_l_ask
def B_l_fits : SF := (sSeq (sIf (bCmp dNe (eBin dIx (eName 0) (eC (.int 0))) (eBin dIx (eName 1) (eC (.int 0)))) (sRet (eNorm (eC (.bl false)))) sNext)
  (sSeq (sIf (bOr (bNot (bTruth (eUn (dIsa "int") (eBin dIx (eName 0) (eC (.int 1)))))) (bOr (bTruth (eUn (dIsa "bool") (eBin dIx (eName 0) (eC (.int 1))))) (bCmp dNe (eBin dIx (eName 0) (eC (.int 1))) (eBin dIx (eName 1) (eC (.int 1)))))) (sRet (eNorm (eC (.bl false)))) sNext)
  (sRet (eAnd (eUn (dIsa "str") (eBin dIx (eName 0) (eC (.int 2)))) (eBin dEq (eBin dIx (eName 0) (eC (.int 2))) (eBin dIx (eName 1) (eC (.int 2))))))))
def F_l_fits : FT := mkF 2 B_l_fits
def B_is_machine : SF := (sSeq (sIf (bOr (bNot (bTruth (eUn (dIsa "tuple") (eName 1)))) (bNot (bTruth (eName 1)))) (sRet (eNorm (eC (.bl false)))) sNext)
  (sRet (eUn dAll (eLc (iAny (eName 1)) (tgName 2) bYes (eCall F_is_state [(eUn dLen (eBin dIx (eName 0) (eC (.int 0)))), (eUn dLen (eName 1)), (eName 2)]) [2]))))
def F_is_machine : FT := mkF 3 B_is_machine
def B_l_whether : SF := (sSeq (sIf (bTruth (eName 3)) (sSet 4 (eCallK F_is_machine [1, 0] [(eName 1), (eName 0)])) (sSet 4 (eCall F_is_machine [(eName 0), (eName 1)])))
  (sRet (eAnd (eUn (dIsa "bool") (eName 4)) (eBin dEq (eName 4) (eName 2)))))
def F_l_whether : FT := mkF 5 B_l_whether
def B_l_stands : SF := (sSeq (sIf (bOr (bNot (bTruth (eUn (dIsa "tuple") (eName 0)))) (bCmp dNe (eUn dLen (eName 0)) (eC (.int 2)))) (sRet (eNorm (eC (.bl false)))) sNext)
  (sSeq (sIf (bNot (bTruth (eCall F_l_is_name [(eBin dIx (eName 0) (eC (.int 0)))]))) (sRet (eNorm (eC (.bl false)))) sNext)
  (sSeq (sIf (bOr (bNot (bTruth (eUn (dIsa "tuple") (eBin dIx (eName 0) (eC (.int 1)))))) (bCmp dNe (eUn dLen (eBin dIx (eName 0) (eC (.int 1)))) (eName 1))) (sRet (eNorm (eC (.bl false)))) sNext)
  (sSeq (sFor (iAny (eBin dIx (eName 0) (eC (.int 1)))) (tgName 3) (sSeq (sIf (bOr (bNot (bTruth (eUn (dIsa "int") (eName 3)))) (bTruth (eUn (dIsa "bool") (eName 3)))) (sRet (eNorm (eC (.bl false)))) sNext)
  (sIf (bOr (bCmp dLt (eName 3) (eC (.int 0))) (bCmp dGe (eName 3) (eName 2))) (sRet (eNorm (eC (.bl false)))) sNext)))
  (sRet (eNorm (eC (.bl true))))))))
def F_l_stands : FT := mkF 4 B_l_stands
def B_l_first_bad : SF := (sSeq (sFor (iRange1 (eUn dLen (eName 1))) (tgName 2) (sIf (bNot (bTruth (eCall F_l_stands [(eBin dIx (eName 1) (eName 2)), (eName 0), (eUn dLen (eName 1))]))) (sRet (eNorm (eName 2))) sNext))
  (sRet (eUn dNeg (eC (.int 1)))))
def F_l_first_bad : FT := mkF 3 B_l_first_bad
def B_l_due : SF := (sSeq (sIf (bNot (bTruth (eUn (dIsa "tuple") (eName 1)))) (sRet (eLst [(eC (.str "raised")), (eUn dNeg (eC (.int 1))), (eC (.str "shape"))])) sNext)
  (sSeq (sIf (bOr (bCmp dLt (eUn dLen (eName 1)) (eC (.int 1))) (bCmp dGt (eUn dLen (eName 1)) (eC (.int 200)))) (sRet (eLst [(eC (.str "raised")), (eUn dNeg (eC (.int 1))), (eC (.str "states"))])) sNext)
  (sSeq (sSet 2 (eCall F_l_first_bad [(eName 0), (eName 1)]))
  (sSeq (sIf (bCmp dGe (eName 2) (eC (.int 0))) (sRet (eLst [(eC (.str "raised")), (eName 2), (eC (.str "state"))])) sNext)
  (sRet (eLst [(eC (.str "told")), (eUn dLen (eName 1)), (eC (.str ""))]))))))
def F_l_due : FT := mkF 3 B_l_due
def B_l_is_due : SF := (sRet (eAnd (eUn (dIsa "tuple") (eName 1)) (eAnd (eBin dGe (eUn dLen (eName 1)) (eC (.int 1))) (eBin dLt (eCall F_l_first_bad [(eName 0), (eName 1)]) (eC (.int 0))))))
def F_l_is_due : FT := mkF 2 B_l_is_due
def B_l_holds : SF := (sSeq (sSet 3 (eUn dLen (eBin dIx (eName 0) (eC (.int 0)))))
  (sSeq (sSet 4 (eCall F_l_due [(eName 3), (eName 1)]))
  (sSeq (sSet 5 (eCall F_l_is_due [(eName 3), (eName 1)]))
  (sSeq (sIf (bNot (bTruth (eCall F_l_fits [(eCall F_l_ask [(eName 0), (eName 1), (eName 2)]), (eName 4)]))) (sRet (eNorm (eC (.bl false)))) sNext)
  (sRet (eCall F_l_whether [(eName 0), (eName 1), (eName 5), (eName 2)]))))))
def F_l_holds : FT := mkF 6 B_l_holds
def B_l_bent_word : SF := (sSeq (sIf (bCmp dEq (eName 2) (eC (.int 0))) (sRet (eNorm (eC (.str "")))) sNext)
  (sSeq (sIf (bCmp dEq (eName 2) (eC (.int 1))) (sRet (eSl (eBin dAdd (eName 1) (eC (.str "abcdefgh"))) none (some (eC (.int 9))))) sNext)
  (sSeq (sIf (bCmp dEq (eName 2) (eC (.int 2))) (sSeq (sSet 3 (eCall F_l_reserved []))
  (sRet (eBin dIx (eName 3) (eCall F_l_draw [(eName 0), (eUn dLen (eName 3))])))) sNext)
  (sSeq (sIf (bCmp dEq (eName 2) (eC (.int 3))) (sSeq (sSet 4 (eC (.str " !#$&'()*+,-./:;<=>?\x40ABCDEFGHIJKLMNOPQRSTUVWXYZ[]^_|~")))
  (sSeq (sSet 5 (eCall F_l_draw [(eName 0), (eUn dLen (eName 1))]))
  (sRet (eBin dAdd (eBin dAdd (eSl (eName 1) none (some (eName 5))) (eBin dIx (eName 4) (eCall F_l_draw [(eName 0), (eUn dLen (eName 4))]))) (eSl (eName 1) (some (eBin dAdd (eName 5) (eC (.int 1)))) none))))) sNext)
  (sSeq (sIf (bCmp dEq (eName 2) (eC (.int 4))) (sRet (eBin dAdd (eBin dIx (eC (.str "0123456789")) (eCall F_l_draw [(eName 0), (eC (.int 10))])) (eSl (eName 1) (some (eC (.int 1))) none))) sNext)
  (sSeq (sIf (bCmp dEq (eName 2) (eC (.int 5))) (sRet (eNorm (eC .non))) sNext)
  (sSeq (sIf (bCmp dEq (eName 2) (eC (.int 6))) (sRet (eCall F_l_draw [(eName 0), (eC (.int 3))])) sNext)
  (sSeq (sIf (bCmp dEq (eName 2) (eC (.int 7))) (sRet (eTup [(eName 1)])) sNext)
  (sSeq (sIf (bCmp dEq (eName 2) (eC (.int 8))) (sRet (eLst [(eName 1)])) sNext)
  (sRet (eUn dUpper (eName 1))))))))))))
def F_l_bent_word : FT := mkF 6 B_l_bent_word
def B_l_bent_number : SF := (sSeq (sIf (bCmp dEq (eName 2) (eC (.int 0))) (sRet (eNorm (eName 1))) sNext)
  (sSeq (sIf (bCmp dEq (eName 2) (eC (.int 1))) (sRet (eBin dSub (eUn dNeg (eC (.int 1))) (eCall F_l_draw [(eName 0), (eName 1)]))) sNext)
  (sSeq (sIf (bCmp dEq (eName 2) (eC (.int 2))) (sRet (eNorm (eC (.bl true)))) sNext)
  (sSeq (sIf (bCmp dEq (eName 2) (eC (.int 3))) (sRet (eNorm (eC (.bl false)))) sNext)
  (sSeq (sIf (bCmp dEq (eName 2) (eC (.int 4))) (sRet (eNorm (eC .non))) sNext)
  (sSeq (sIf (bCmp dEq (eName 2) (eC (.int 5))) (sRet (eNorm (eC (.str "0")))) sNext)
  (sSeq (sIf (bCmp dEq (eName 2) (eC (.int 6))) (sRet (eTup [(eC (.int 0))])) sNext)
  (sSeq (sIf (bCmp dEq (eName 2) (eC (.int 7))) (sRet (eBin dAdd (eBin dPow (eC (.int 10)) (eC (.int 60))) (eCall F_l_draw [(eName 0), (eC (.int 9))]))) sNext)
  (sSeq (sIf (bCmp dEq (eName 2) (eC (.int 8))) (sRet (eLst [(eC (.int 0))])) sNext)
  (sRet (eBin dAdd (eBin dAdd (eName 1) (eC (.int 1))) (eCall F_l_draw [(eName 0), (eC (.int 300))]))))))))))))
def F_l_bent_number : FT := mkF 3 B_l_bent_number
def B_l_bent_state : SF := (sSeq (sSet 4 (eBin dIx (eName 1) (eC (.int 0))))
  (sSeq (sSet 5 (eBin dIx (eName 1) (eC (.int 1))))
  (sSeq (sIf (bCmp dLt (eName 3) (eC (.int 10))) (sRet (eTup [(eCall F_l_bent_word [(eName 0), (eName 4), (eName 3)]), (eName 5)])) sNext)
  (sSeq (sIf (bCmp dLt (eName 3) (eC (.int 20))) (sSeq (sSet 6 (eCall F_l_draw [(eName 0), (eUn dLen (eName 5))]))
  (sRet (eTup [(eName 4), (eBin dAdd (eBin dAdd (eSl (eName 5) none (some (eName 6))) (eTup [(eCall F_l_bent_number [(eName 0), (eName 2), (eBin dSub (eName 3) (eC (.int 10)))])])) (eSl (eName 5) (some (eBin dAdd (eName 6) (eC (.int 1)))) none))]))) sNext)
  (sSeq (sIf (bCmp dEq (eName 3) (eC (.int 20))) (sRet (eLst [(eName 4), (eName 5)])) sNext)
  (sSeq (sIf (bCmp dEq (eName 3) (eC (.int 21))) (sRet (eTup [(eName 4)])) sNext)
  (sSeq (sIf (bCmp dEq (eName 3) (eC (.int 22))) (sRet (eTup [(eName 4), (eName 5), (eC (.int 0))])) sNext)
  (sSeq (sIf (bCmp dEq (eName 3) (eC (.int 23))) (sRet (eTup [(eName 4), (eUn dList (eName 5))])) sNext)
  (sSeq (sIf (bCmp dEq (eName 3) (eC (.int 24))) (sRet (eTup [(eName 4), (eSl (eName 5) none (some (eBin dSub (eUn dLen (eName 5)) (eC (.int 1)))))])) sNext)
  (sSeq (sIf (bCmp dEq (eName 3) (eC (.int 25))) (sRet (eTup [(eName 4), (eBin dAdd (eName 5) (eTup [(eBin dIx (eName 5) (eC (.int 0)))]))])) sNext)
  (sSeq (sIf (bCmp dEq (eName 3) (eC (.int 26))) (sRet (eTup [(eName 5), (eName 4)])) sNext)
  (sRet (eTup [(eName 4), (eSl (eC (.str "0000000")) none (some (eUn dLen (eName 5))))])))))))))))))
def F_l_bent_state : FT := mkF 7 B_l_bent_state
def B_l_plain_same (Fr : FT) : SF := (sSeq (sIf (bTruth (eUn (dIsa2 "tuple" "list") (eName 0))) (sSeq (sIf (bOr (bCmp dNe (eUn (dIsa "tuple") (eName 0)) (eUn (dIsa "tuple") (eName 1))) (bCmp dNe (eUn (dIsa "list") (eName 0)) (eUn (dIsa "list") (eName 1)))) (sRet (eNorm (eC (.bl false)))) sNext)
  (sSeq (sIf (bCmp dNe (eUn dLen (eName 0)) (eUn dLen (eName 1))) (sRet (eNorm (eC (.bl false)))) sNext)
  (sSeq (sFor (iRange1 (eUn dLen (eName 0))) (tgName 2) (sIf (bNot (bTruth (eCall Fr [(eBin dIx (eName 0) (eName 2)), (eBin dIx (eName 1) (eName 2))]))) (sRet (eNorm (eC (.bl false)))) sNext))
  (sRet (eNorm (eC (.bl true))))))) sNext)
  (sSeq (sIf (bCmp dNe (eUn (dIsa "bool") (eName 0)) (eUn (dIsa "bool") (eName 1))) (sRet (eNorm (eC (.bl false)))) sNext)
  (sRet (eBin dEq (eName 0) (eName 1)))))
def R_l_plain_same : Nat → FT
  | 0 => fun _ _ => .stuck
  | k + 1 => mkF 3 (B_l_plain_same (R_l_plain_same k))
def F_l_plain_same : FT := R_l_plain_same 8
def B_l_plain_copy (Fr : FT) : SF := (sSeq (sIf (bTruth (eUn (dIsa "tuple") (eName 0))) (sRet (eUn dTuple (eLc (iAny (eName 0)) (tgName 1) bYes (eCall Fr [(eName 1)]) [1]))) sNext)
  (sSeq (sIf (bTruth (eUn (dIsa "list") (eName 0))) (sRet (eLc (iAny (eName 0)) (tgName 1) bYes (eCall Fr [(eName 1)]) [1])) sNext)
  (sRet (eNorm (eName 0)))))
def R_l_plain_copy : Nat → FT
  | 0 => fun _ _ => .stuck
  | k + 1 => mkF 2 (B_l_plain_copy (R_l_plain_copy k))
def F_l_plain_copy : FT := R_l_plain_copy 8
def B_l_bent_ones : SF := (sSeq (sSet 3 (eUn dLen (eName 2)))
  (sSeq (sFor (iRange1 (eC (.int 28))) (tgName 4) (sSeq (sSet 5 (eCall F_l_draw [(eName 0), (eName 3)]))
  (sSeq (sSet 6 (eBin dAdd (eBin dAdd (eSl (eName 2) none (some (eName 5))) (eTup [(eCall F_l_bent_state [(eName 0), (eBin dIx (eName 2) (eName 5)), (eName 3), (eName 4)])])) (eSl (eName 2) (some (eBin dAdd (eName 5) (eC (.int 1)))) none)))
  (sSeq (sSet 7 (eCall F_l_plain_copy [(eName 6)]))
  (sSeq (sIf (bNot (bTruth (eCall F_l_holds [(eName 1), (eName 6), (eBin dEq (eName 4) (eC (.int 9)))]))) (sRet (eNorm (eC (.bl false)))) sNext)
  (sSeq (sIf (bNot (bTruth (eCall F_l_plain_same [(eName 7), (eName 6)]))) (sRet (eNorm (eC (.bl false)))) sNext)
  (sIf (bAnd (bCmp dGt (eName 3) (eC (.int 1))) (bCmp dGt (eName 4) (eC (.int 19)))) (sSeq (sSet 8 (eCall F_l_draw [(eName 0), (eName 3)]))
  (sSeq (sSet 9 (eBin dAdd (eBin dAdd (eSl (eName 6) none (some (eName 8))) (eTup [(eCall F_l_bent_state [(eName 0), (eBin dIx (eName 2) (eName 8)), (eName 3), (eBin dSub (eName 4) (eC (.int 12)))])])) (eSl (eName 6) (some (eBin dAdd (eName 8) (eC (.int 1)))) none)))
  (sIf (bNot (bTruth (eCall F_l_holds [(eName 1), (eName 9), (eC (.bl false))]))) (sRet (eNorm (eC (.bl false)))) sNext))) sNext)))))))
  (sRet (eNorm (eC (.bl true))))))
def F_l_bent_ones : FT := mkF 10 B_l_bent_ones
def B_l_other_things : SF := (sSeq (sSet 3 (eLst [(eUn dList (eName 2)), (eC .non), (eC (.bl true)), (eC (.bl false)), (eC (.int 0)), (eC (.int 7)), (eC (.str "")), (eC (.str "ab")), (eBin dIx (eBin dIx (eName 2) (eC (.int 0))) (eC (.int 0))), (eUn dNeg (eC (.int 5))), (eBin dMul (eBin dPow (eC (.int 10)) (eC (.int 40))) (eBin dPow (eC (.int 10)) (eC (.int 41)))), (eLst []), (eTup []), (eTup [(eTup [])]), (eTup [(eLst [])])]))
  (sSeq (sSet 3 (eBin dAdd (eName 3) (eLst [(eTup [(eC .non)]), (eTup [(eC (.str "ab"))]), (eBin dIx (eName 2) (eC (.int 0))), (eTup [(eName 2)]), (eLst [(eName 2)]), (eTup [(eBin dIx (eBin dIx (eName 2) (eC (.int 0))) (eC (.int 1)))]), (eTup [(eC (.int 0)), (eC (.int 1))]), (eTup [(eTup [(eC (.int 0)), (eC (.int 1))])])])))
  (sSeq (sSet 4 (eCall F_l_bent_state [(eName 0), (eBin dIx (eName 2) (eC (.int 0))), (eUn dLen (eName 2)), (eCall F_l_draw [(eName 0), (eC (.int 28))])]))
  (sSeq (sSet 3 (eBin dAdd (eName 3) (eLst [(eLst [(eName 4)]), (eBin dAdd (eLst [(eName 4)]) (eUn dList (eSl (eName 2) (some (eC (.int 1))) none)))])))
  (sSeq (sFor (iAny (eName 3)) (tgName 5) (sSeq (sSet 6 (eCall F_l_plain_copy [(eName 5)]))
  (sSeq (sIf (bNot (bTruth (eCall F_l_holds [(eName 1), (eName 5), (eC (.bl false))]))) (sRet (eNorm (eC (.bl false)))) sNext)
  (sIf (bNot (bTruth (eCall F_l_plain_same [(eName 6), (eName 5)]))) (sRet (eNorm (eC (.bl false)))) sNext))))
  (sRet (eNorm (eC (.bl true)))))))))
def F_l_other_things : FT := mkF 7 B_l_other_things
def B_l_names : SF := (sSeq (sSet 2 (eBin dRepT (eTup [(eC (.int 0))]) (eUn dLen (eBin dIx (eName 1) (eC (.int 0))))))
  (sSeq (sSet 3 (eCall F_l_reserved []))
  (sSeq (sSet 4 (eLc (iRange1 (eC (.int 4))) (tgName 8) bYes (eBin dIx (eName 3) (eCall F_l_draw [(eName 0), (eUn dLen (eName 3))])) [8]))
  (sSeq (sFor (iAny (eName 4)) (tgName 5) (sSeq (sIf (bNot (bTruth (eCall F_l_holds [(eName 1), (eTup [(eTup [(eName 5), (eName 2)])]), (eC (.bl false))]))) (sRet (eNorm (eC (.bl false)))) sNext)
  (sFor (iAny (eTup [(eBin dAdd (eName 5) (eC (.str "2"))), (eSl (eName 5) none (some (eBin dSub (eUn dLen (eName 5)) (eC (.int 1))))), (eBin dAdd (eC (.str "x")) (eName 5)), (eBin dAdd (eName 5) (eC (.str " "))), (eBin dAdd (eC (.str " ")) (eName 5)), (eUn dUpper (eName 5)), (eBin dAdd (eName 5) (eC (.str "abc")))])) (tgName 7) (sIf (bNot (bTruth (eCall F_l_holds [(eName 1), (eTup [(eTup [(eName 7), (eName 2)])]), (eC (.bl false))]))) (sRet (eNorm (eC (.bl false)))) sNext))))
  (sSeq (sFor (iAny (eTup [(eC (.str "a")), (eC (.str "z")), (eC (.str "a0")), (eC (.str "z9")), (eC (.str "abcdefgh")), (eC (.str "a2345678")), (eC (.str "abcdefghi")), (eC (.str "0")), (eC (.str "9a")), (eC (.str "A")), (eC (.str "")), (eC (.str "a_b")), (eC (.str "a-b")), (eC (.str "_a"))])) (tgName 5) (sIf (bNot (bTruth (eCall F_l_holds [(eName 1), (eTup [(eTup [(eName 5), (eName 2)])]), (eC (.bl false))]))) (sRet (eNorm (eC (.bl false)))) sNext))
  (sSeq (sFor (iAny (eBin dIx (eName 1) (eC (.int 0)))) (tgName 6) (sIf (bNot (bTruth (eCall F_l_whether [(eName 1), (eTup [(eTup [(eName 6), (eName 2)])]), (eC (.bl true)), (eC (.bl false))]))) (sRet (eNorm (eC (.bl false)))) sNext))
  (sRet (eNorm (eC (.bl true))))))))))
def F_l_names : FT := mkF 9 B_l_names
def B_l_flags : SF := (sSeq (sSet 3 (eBin dAdd (eTup [(eTup [(eC (.str "a")), (eBin dRepT (eTup [(eC (.int 1))]) (eName 1))]), (eTup [(eC (.str "b")), (eBin dRepT (eTup [(eC (.int 0))]) (eName 1))])]) (eUn dTuple (eLc (iAny (eSl (eName 2) (some (eC (.int 2))) none)) (tgName 8) bYes (eTup [(eC (.str "c")), (eBin dIx (eName 8) (eC (.int 1)))]) [8]))))
  (sSeq (sIf (bCmp dGe (eCall F_l_first_bad [(eName 1), (eName 3)]) (eC (.int 0))) (sSet 3 (eSl (eName 3) none (some (eC (.int 2))))) sNext)
  (sSeq (sSet 4 (eBin dRepT (eTup [(eC (.int 1))]) (eBin dSub (eName 1) (eC (.int 1)))))
  (sSeq (sSet 5 (eBin dAdd (eTup [(eTup [(eC (.str "a")), (eBin dAdd (eName 4) (eTup [(eC (.bl true))]))])]) (eSl (eName 3) (some (eC (.int 1))) none)))
  (sSeq (sSet 6 (eBin dAdd (eBin dAdd (eSl (eName 3) none (some (eC (.int 1)))) (eTup [(eTup [(eC (.str "b")), (eBin dAdd (eBin dRepT (eTup [(eC (.int 0))]) (eBin dSub (eName 1) (eC (.int 1)))) (eTup [(eC (.bl false))]))])])) (eSl (eName 3) (some (eC (.int 2))) none)))
  (sSeq (sFor (iAny (eTup [(eName 3), (eName 5), (eName 3), (eName 6), (eName 5), (eName 3)])) (tgName 7) (sIf (bNot (bTruth (eCall F_l_holds [(eName 0), (eName 7), (eC (.bl false))]))) (sRet (eNorm (eC (.bl false)))) sNext))
  (sRet (eAnd (eCall F_l_whether [(eName 0), (eName 3), (eC (.bl true)), (eC (.bl true))]) (eCall F_l_whether [(eName 0), (eName 5), (eC (.bl false)), (eC (.bl true))])))))))))
def F_l_flags : FT := mkF 9 B_l_flags
def B_l_other_signs : SF := (sSeq (sFor (iRange2 (eC (.int 1)) (eC (.int 6))) (tgName 3) (sSeq (sSet 4 (eCall F_l_setting [(eName 0), (eName 3)]))
  (sSeq (sSet 5 (eBin dEq (eName 3) (eName 1)))
  (sSeq (sIf (bNot (bTruth (eCall F_l_whether [(eName 4), (eName 2), (eName 5), (eC (.bl false))]))) (sRet (eNorm (eC (.bl false)))) sNext)
  (sSeq (sSet 6 (eCall F_l_ask [(eName 4), (eName 2), (eC (.bl false))]))
  (sSeq (sIf (bAnd (bTruth (eName 5)) (bNot (bTruth (eCall F_l_fits [(eName 6), (eLst [(eC (.str "told")), (eUn dLen (eName 2)), (eC (.str ""))])])))) (sRet (eNorm (eC (.bl false)))) sNext)
  (sIf (bAnd (bNot (bTruth (eName 5))) (bNot (bTruth (eCall F_l_fits [(eName 6), (eLst [(eC (.str "raised")), (eC (.int 0)), (eC (.str "state"))])])))) (sRet (eNorm (eC (.bl false)))) sNext)))))))
  (sRet (eNorm (eC (.bl true)))))
def F_l_other_signs : FT := mkF 7 B_l_other_signs
def B_l_long : SF := (sSeq (sSet 3 (eCall F_l_draw [(eName 0), (eName 2)]))
  (sSeq (sSet 4 (eBin dAdd (eC (.int 1)) (eCall F_l_draw [(eName 0), (eC (.int 6))])))
  (sSeq (sNew 5 (eLst []))
  (sSeq (sFor (iRange1 (eName 2)) (tgName 6) (sSeq (sSet 7 (eLc (iRange1 (eName 1)) (tgName 8) bYes (eBin dMod (eBin dAdd (eBin dAdd (eName 3) (eBin dMul (eName 6) (eName 4))) (eBin dMul (eName 8) (eC (.int 7)))) (eName 2)) [8]))
  (sApp 5 (eTup [(eBin dAdd (eC (.str "w")) (eUn dStrI (eBin dMod (eName 6) (eC (.int 97))))), (eUn dTuple (eName 7))]))))
  (sRet (eUn dTuple (eName 5)))))))
def F_l_long : FT := mkF 9 B_l_long
def B_l_great : SF := (sSeq (sFor (iAny (eTup [(eC (.int 199)), (eC (.int 200)), (eC (.int 201))])) (tgName 3) (sSeq (sSet 4 (eCall F_l_long [(eName 0), (eName 2), (eName 3)]))
  (sSeq (sIf (bNot (bTruth (eCall F_l_whether [(eName 1), (eName 4), (eC (.bl true)), (eC (.bl false))]))) (sRet (eNorm (eC (.bl false)))) sNext)
  (sSeq (sIf (bNot (bTruth (eCall F_l_holds [(eName 1), (eName 4), (eC (.bl false))]))) (sRet (eNorm (eC (.bl false)))) sNext)
  (sSeq (sSet 6 (eBin dSub (eBin dSub (eName 3) (eC (.int 1))) (eBin dMul (eCall F_l_draw [(eName 0), (eC (.int 2))]) (eCall F_l_draw [(eName 0), (eName 3)]))))
  (sSeq (sSet 7 (eBin dAdd (eBin dAdd (eSl (eName 4) none (some (eName 6))) (eTup [(eCall F_l_bent_state [(eName 0), (eBin dIx (eName 4) (eName 6)), (eName 3), (eCall F_l_draw [(eName 0), (eC (.int 28))])])])) (eSl (eName 4) (some (eBin dAdd (eName 6) (eC (.int 1)))) none)))
  (sSeq (sIf (bNot (bTruth (eCall F_l_holds [(eName 1), (eName 7), (eC (.bl false))]))) (sRet (eNorm (eC (.bl false)))) sNext)
  (sIf (bNot (bTruth (eCall F_l_holds [(eName 1), (eUn dList (eName 4)), (eC (.bl false))]))) (sRet (eNorm (eC (.bl false)))) sNext))))))))
  (sSeq (sSet 3 (eBin dAdd (eC (.int 202)) (eCall F_l_draw [(eName 0), (eC (.int 900))])))
  (sSeq (sSet 4 (eCall F_l_long [(eName 0), (eName 2), (eName 3)]))
  (sSeq (sSet 5 (eSl (eName 4) none (some (eBin dSub (eName 3) (eC (.int 1))))))
  (sRet (eAnd (eCall F_l_holds [(eName 1), (eName 4), (eC (.bl false))]) (eCall F_l_holds [(eName 1), (eName 5), (eC (.bl false))])))))))
def F_l_great : FT := mkF 8 B_l_great
def B_l_vast : SF := (sSeq (sSet 3 (eBin dAdd (eC (.int 3000)) (eCall F_l_draw [(eName 0), (eC (.int 5000))])))
  (sSeq (sSet 4 (eCall F_l_long [(eName 0), (eName 2), (eName 3)]))
  (sSeq (sSet 5 (eBin dSub (eBin dSub (eName 3) (eC (.int 1))) (eCall F_l_draw [(eName 0), (eC (.int 40))])))
  (sSeq (sSet 6 (eBin dAdd (eBin dAdd (eSl (eName 4) none (some (eName 5))) (eTup [(eCall F_l_bent_state [(eName 0), (eBin dIx (eName 4) (eName 5)), (eName 3), (eCall F_l_draw [(eName 0), (eC (.int 28))])])])) (eSl (eName 4) (some (eBin dAdd (eName 5) (eC (.int 1)))) none)))
  (sSeq (sIf (bNot (bTruth (eCall F_l_fits [(eCall F_l_ask [(eName 1), (eName 4), (eC (.bl false))]), (eLst [(eC (.str "raised")), (eUn dNeg (eC (.int 1))), (eC (.str "states"))])]))) (sRet (eNorm (eC (.bl false)))) sNext)
  (sSeq (sIf (bNot (bTruth (eCall F_l_whether [(eName 1), (eName 4), (eC (.bl true)), (eC (.bl false))]))) (sRet (eNorm (eC (.bl false)))) sNext)
  (sSeq (sSet 7 (eCall F_l_is_due [(eName 2), (eName 6)]))
  (sRet (eCall F_l_whether [(eName 1), (eName 6), (eName 7), (eC (.bl false))])))))))))
def F_l_vast : FT := mkF 8 B_l_vast
def B_l_deep : SF := (sSeq (sSet 3 (eTup []))
  (sSeq (sFor (iRange1 (eC (.int 90))) (tgName 4) (sSet 3 (eTup [(eName 3)])))
  (sSeq (sSet 5 (eBin dRepT (eTup [(eC (.int 0))]) (eName 2)))
  (sSeq (sFor (iAny (eTup [(eName 3), (eTup [(eName 3)]), (eTup [(eTup [(eC (.str "a")), (eName 3)])]), (eTup [(eTup [(eName 3), (eName 5)])]), (eTup [(eTup [(eC (.str "a")), (eBin dAdd (eTup [(eName 3)]) (eSl (eName 5) (some (eC (.int 1))) none))])])])) (tgName 6) (sIf (bNot (bTruth (eCall F_l_holds [(eName 1), (eName 6), (eC (.bl false))]))) (sRet (eNorm (eC (.bl false)))) sNext))
  (sSeq (sSet 7 (eBin dRepT (eTup [(eCall F_l_draw [(eName 0), (eC (.int 3))])]) (eBin dAdd (eC (.int 300)) (eCall F_l_draw [(eName 0), (eC (.int 2000))]))))
  (sSeq (sFor (iAny (eTup [(eName 7), (eUn dList (eName 7)), (eTup [(eTup [(eC (.str "a")), (eName 7)])]), (eTup [(eTup [(eName 7), (eName 5)])])])) (tgName 6) (sIf (bNot (bTruth (eCall F_l_holds [(eName 1), (eName 6), (eC (.bl false))]))) (sRet (eNorm (eC (.bl false)))) sNext))
  (sRet (eNorm (eC (.bl true))))))))))
def F_l_deep : FT := mkF 8 B_l_deep
def B_law : SF := (sSeq (sNew 1 (eCall F_l_jar [(eName 0)]))
  (sSeq (sSet 2 (eBin dMod (eUn dToInt (eBin dAdd (eBin dIx (eName 1) (eC (.int 1))) (eBin dIx (eName 1) (eC (.int 0))))) (eC (.int 155))))
  (sSeq (sSet 3 (eBin dAdd (eC (.int 1)) (eCall F_l_draw [(eName 1), (eC (.int 5))])))
  (sSeq (sSet 4 (eCall F_l_setting [(eName 1), (eName 3)]))
  (sSeq (sSet 5 (eCall F_l_machine [(eName 1), (eName 3), (eBin dAdd (eC (.int 1)) (eCall F_l_draw [(eName 1), (eC (.int 4))]))]))
  (sSeq (sIf (bNot (bTruth (eCall F_l_fits [(eCall F_l_ask [(eName 4), (eName 5), (eC (.bl false))]), (eLst [(eC (.str "told")), (eUn dLen (eName 5)), (eC (.str ""))])]))) (sRet (eNorm (eC (.bl false)))) sNext)
  (sSeq (sIf (bNot (bTruth (eCall F_l_whether [(eName 4), (eName 5), (eC (.bl true)), (eC (.bl false))]))) (sRet (eNorm (eC (.bl false)))) sNext)
  (sSeq (sIf (bNot (bTruth (eCall F_l_bent_ones [(eName 1), (eName 4), (eName 5)]))) (sRet (eNorm (eC (.bl false)))) sNext)
  (sSeq (sIf (bNot (bTruth (eCall F_l_other_things [(eName 1), (eName 4), (eName 5)]))) (sRet (eNorm (eC (.bl false)))) sNext)
  (sSeq (sIf (bNot (bTruth (eCall F_l_names [(eName 1), (eName 4)]))) (sRet (eNorm (eC (.bl false)))) sNext)
  (sSeq (sIf (bNot (bTruth (eCall F_l_flags [(eName 4), (eName 3), (eName 5)]))) (sRet (eNorm (eC (.bl false)))) sNext)
  (sSeq (sIf (bNot (bTruth (eCall F_l_other_signs [(eName 1), (eName 3), (eName 5)]))) (sRet (eNorm (eC (.bl false)))) sNext)
  (sSeq (sIf (bNot (bTruth (eCall F_l_deep [(eName 1), (eName 4), (eName 3)]))) (sRet (eNorm (eC (.bl false)))) sNext)
  (sSeq (sIf (bAnd (bCmp dEq (eBin dMod (eName 2) (eC (.int 5))) (eC (.int 2))) (bNot (bTruth (eCall F_l_great [(eName 1), (eName 4), (eName 3)])))) (sRet (eNorm (eC (.bl false)))) sNext)
  (sSeq (sIf (bAnd (bCmp dEq (eBin dMod (eName 2) (eC (.int 31))) (eC (.int 7))) (bNot (bTruth (eCall F_l_vast [(eName 1), (eName 4), (eName 3)])))) (sRet (eNorm (eC (.bl false)))) sNext)
  (sRet (eCall F_l_holds [(eName 4), (eName 5), (eC (.bl true))])))))))))))))))))
def F_law : FT := mkF 6 B_law
end K12
set_option Elab.async false
set_option linter.all false
set_option maxRecDepth 100000
set_option maxHeartbeats 4000000
set_option autoImplicit false
namespace K12
open PySem L2 L2.Pz
variable {X : XP} {Q : HV → Jr → Prop} {T J : Jr} {jc : List D} {env : En} {b : Nat}
/-! ### the jar -/
/-- g is not too large; a wrapper -/
structure GBp (g : Int) : Prop where
  out : g.natAbs < 2 ^ 5000
theorem GBp.log2 {g : Int} (h : GBp g) : g.natAbs.log2 < 5000 := log2_lt' h.out (by decide)
theorem GBp_0 : GBp 0 := ⟨Nat.pow_pos (by decide)⟩
theorem pos4000 : (0 : Int) < 2 ^ 4000 := by decide +kernel
theorem pos2000 : (0 : Int) < 2 ^ 2000 := by decide +kernel
theorem p45 : ((2 : Int) ^ 4000) < ((2 ^ 5000 : Nat) : Int) := by decide +kernel
theorem mod_GB {x : Int} : 0 ≤ x % 2 ^ 4000 ∧ GBp (x % 2 ^ 4000) := by
  have hp := pos4000
  have h1 := Int.emod_nonneg x (Int.ne_of_gt hp)
  have h2 := Int.emod_lt_of_pos x hp
  refine ⟨h1, ⟨?_⟩⟩
  have h3 : ((x % 2 ^ 4000).natAbs : Int) = x % 2 ^ 4000 := Int.natAbs_of_nonneg h1
  have h4 := p45
  generalize x % 2 ^ 4000 = r at h1 h2 h3
  generalize (2 : Int) ^ 4000 = P at h2 h4
  generalize (2 : Nat) ^ 5000 = M at h4
  omega
theorem GBp.div {g m : Int} (h : GBp g) (g0 : 0 ≤ g) (hm : 0 < m) : GBp (g / m) := by
  have e1 : g / m ≤ g := Int.ediv_le_self _ g0
  have e2 : 0 ≤ g / m := Int.ediv_nonneg g0 (by omega)
  refine ⟨Nat.lt_of_le_of_lt ?_ h.out⟩
  omega
def Jb (b : Nat) (jc : List D) : Prop := ∃ g s c : Int, jc = [.int g, .int s, .int c] ∧ 0 ≤ g ∧ GBp g ∧ 0 ≤ s ∧ s < 2147483647 ∧ 0 ≤ c ∧ c ≤ b
abbrev LIM : Nat := 1000000000
theorem Jb.mono {b b' : Nat} {jc : List D} (h : Jb b jc) (hb : b ≤ b') : Jb b' jc := by
  obtain ⟨g, s, c, e, h1, h2, h3, h4, h5, h6⟩ := h
  exact ⟨g, s, c, e, h1, h2, h3, h4, h5, by omega⟩
theorem jar_spec (ns : List Int) (h : ∀ jc, Jb 0 jc → Q (.new jc) []) (hn : ns.length ≤ 63) : Ex X (F_l_jar [.val (.lst (ns.map D.int))] []) Q := by
  unfold F_l_jar B_l_jar
  rw [Ex_mkF]
  simp [startE, Sx_for]
  refine Sx_loop (fun i env J => ∃ x0 g s x3 x4, env = [x0, some (.val (.int g)), some (.val (.int s)), x3, x4] ∧ J = [] ∧ 0 ≤ g ∧ GBp g ∧ 0 ≤ s ∧ s < 2147483647) ?_ ?_ ?_
  · exact ⟨_, _, _, _, _, rfl, rfl, by omega, GBp_0, by omega, by omega⟩
  · rintro i d env J hd ⟨x0, g, s, x3, x4, rfl, rfl, g0, g1, s0, s1⟩
    rw [List.getElem?_map] at hd
    obtain ⟨v, rfl⟩ : ∃ v, d = .int v := by
      cases e : ns[i]? with
      | none => rw [e] at hd; cases hd
      | some v => rw [e] at hd; exact ⟨v, by simpa using hd.symm⟩
    have a1 := g1.log2
    have a2 := log2_lt' (n := s.natAbs) (k := 200) (by omega) (by decide)
    have a3 := log2_lt' (n := 16807) (k := 200) (by decide) (by decide)
    have a4 : (1 * (2 : Int) ^ (61 : Int).toNat).natAbs.log2 < 200 := by decide +kernel
    simp [tgName, dMul, dInt2, dAbs, dToInt, dMod, dShl, dPow, -Int.reducePow]
    refine ⟨pos2000, ?_⟩
    generalize (if v < 0 then -v else v) % 2 ^ 2000 = z
    have a4 : Nat.log2 2305843009213693952 < 200 := by decide +kernel
    by_cases h1 : (10 : Int) ^ 18 ≤ z
    · rw [if_pos h1]
      refine ⟨by omega, pos4000, by omega, ?_⟩
      obtain ⟨m1, m2⟩ := mod_GB (x := g * 2 ^ 61 + z)
      generalize (g * 2 ^ 61 + z) % 2 ^ 4000 = g' at m1 m2
      by_cases h2 : v < 0
      · rw [if_pos h2]
        exact ⟨_, _, _, ⟨rfl, rfl, rfl⟩, m1, m2, Int.emod_nonneg _ (by decide), Int.emod_lt_of_pos _ (by decide)⟩
      · rw [if_neg h2]
        exact ⟨_, _, _, ⟨rfl, rfl, rfl⟩, m1, m2, Int.emod_nonneg _ (by decide), Int.emod_lt_of_pos _ (by decide)⟩
    · rw [if_neg h1]
      refine ⟨by omega, ?_⟩
      by_cases h2 : v < 0
      · rw [if_pos h2]
        exact ⟨_, _, _, ⟨rfl, rfl, rfl⟩, g0, g1, Int.emod_nonneg _ (by decide), Int.emod_lt_of_pos _ (by decide)⟩
      · rw [if_neg h2]
        exact ⟨_, _, _, ⟨rfl, rfl, rfl⟩, g0, g1, Int.emod_nonneg _ (by decide), Int.emod_lt_of_pos _ (by decide)⟩
  · rintro env J ⟨x0, g, s, x3, x4, rfl, rfl, g0, g1, s0, s1⟩
    simp [big]
    exact h _ ⟨g, s, 0, rfl, g0, g1, s0, s1, by omega, by omega⟩
theorem draw_spec {m : Int} (hj : Jb b jc) (hb : b < LIM) (hm : 0 < m) (hm2 : m < 2 ^ 64) (h : ∀ r jc', 0 ≤ r → r < m → Jb (b + 1) jc' → Q (.val (.int r)) (jc' :: T)) : Ex X (F_l_draw [.jar 0, .val (.int m)] (jc :: T)) Q := by
  obtain ⟨g, s, c, rfl, g0, g1, s0, s1, c0, c1⟩ := hj
  unfold F_l_draw B_l_draw
  rw [Ex_mkF]
  have hL : (LIM : Nat) = 1000000000 := rfl
  have a1 := log2_lt' (n := s.natAbs) (k := 200) (by omega) (by decide)
  have a2 := log2_lt' (n := 39373) (k := 200) (by decide) (by decide)
  have a3 := log2_lt' (n := (c + 1).natAbs) (k := 200) (by omega) (by decide)
  have a4 := log2_lt' (n := 101) (k := 200) (by decide) (by decide)
  have a5 := log2_lt' (n := m.natAbs) (k := 64) (by omega) (by decide)
  by_cases hg : 0 < g
  · simp [startE, dMul, dInt2, dIx, dToInt, dMod, dFloor, atI, ixN, hg]
    refine ⟨hm, ⟨hm, by omega⟩, h _ _ (Int.emod_nonneg _ (by omega)) (Int.emod_lt_of_pos _ hm) ⟨_, _, _, rfl, Int.ediv_nonneg g0 (by omega), g1.div g0 hm, s0, s1, by omega, by omega⟩⟩
  · simp [startE, dMul, dInt2, dIx, dToInt, dMod, dFloor, atI, ixN, hg]
    have a6 : Nat.log2 4093 < 200 := by decide +kernel
    exact ⟨by omega, by omega, by omega, hm, h _ _ (Int.emod_nonneg _ (by omega)) (Int.emod_lt_of_pos _ hm) ⟨_, _, _, rfl, g0, g1, Int.emod_nonneg _ (by decide), Int.emod_lt_of_pos _ (by decide), by omega, by omega⟩⟩
end K12
set_option Elab.async false
set_option linter.all false
set_option maxRecDepth 100000
set_option maxHeartbeats 4000000
set_option autoImplicit false
namespace K12
open PySem L2 L2.Pz
variable {X : XP} {Q : HV → Jr → Prop} {T J : Jr} {jc : List D} {env : En} {b : Nat}
def dueD : D → Int
  | .str s => due (cp s)
  | _ => -1
theorem no_names : gc_NO_NAMES = .tup (barred.map dS) := by with_unfolding_all rfl
theorem letters_c : gc_LETTERS = dS abc := by with_unfolding_all rfl
theorem figures_c : gc_FIGURES = dS figs := by with_unfolding_all rfl
theorem dIn_no {l : List Nat} (h : asc l) : dIn (dS l) gc_NO_NAMES = some (.val (.bl (decide (l ∈ barred)))) := by
  rw [no_names]
  show (if (shp (dS l) && shp (.tup (barred.map dS))) = true then some (HV.val (.bl (inAny (dS l) (barred.map dS)))) else none) = _
  rw [shp_S h, shp_barred, in_barred]
  rfl
abbrev okD : D → Prop
  | .str s => s.cps.toList.length ≤ big ∧ asc s.cps.toList
  | _ => True
theorem chk_str {l : List Nat} (hl : l.length ≤ big) (ha : asc l) (h1 : ¬ due l < 100 → Q (.val (.int l.length)) J) (h2 : due l < 100 → X "BadName" [("at", .int (due l))] J) : Ex X (F_check_name [.val (dS l)] J) Q := by
  unfold F_check_name B_check_name
  rw [Ex_mkF]
  simp [startE, dIsa, isa, isaS, tyName, truth, dLen_S hl, dInt2, dLe, Sx_for, Ex_bChain, gc_NAME_MOST, dIn_no ha]
  by_cases hs : l.length < 1 ∨ 8 < l.length
  · have hd : due l = -1 := by unfold due; rw [if_pos hs]
    rw [hd] at h2
    have h2 := h2 (by decide)
    by_cases e1 : 1 ≤ l.length
    · have e1' : (1 : Int) ≤ l.length := by omega
      have e2 : ¬ (l.length : Int) ≤ 8 := by omega
      simp [e1', e2, dNeg]
      exact h2
    · have e1' : ¬ (1 : Int) ≤ l.length := by omega
      simp [e1', dNeg]
      exact h2
  · have e1 : (1 : Int) ≤ l.length := by omega
    have e2 : (l.length : Int) ≤ 8 := by omega
    simp [e1, e2]
    by_cases hb : l ∈ barred
    · have hd : due l = -1 := by unfold due; rw [if_neg hs, if_pos hb]
      rw [hd] at h2
      simp [hb, dNeg]
      exact h2 (by decide)
    · have hdue : due l = match badAt 0 l with
          | some i => (i : Int)
          | none => 100 + l.length := by unfold due; rw [if_neg hs, if_neg hb] <;> (cases badAt 0 l <;> rfl)
      have hB0 : badAt 0 l = badAt 0 (l.drop 0) := rfl
      have hBl : ∀ k, badAt 0 l = some k → k < 8 := fun k hk => by have := badAt_ge _ _ _ hk; omega
      generalize badAt 0 l = B at hdue hB0 hBl
      simp [hb]
      refine Sx_loop (fun i env J2 => ∃ z y, env = [some (.val (dS l)), z, y] ∧ J2 = J ∧ B = badAt i (l.drop i)) ⟨_, _, rfl, rfl, hB0⟩ ?_ ?_
      · rintro i d env J2 hd ⟨z, y, rfl, rfl, hB⟩
        obtain ⟨e, he, rfl⟩ := pair_get hd
        rw [chars_S, List.getElem?_map] at he
        have hi : i < l.length := by
          cases h : l[i]? with
          | none => rw [h] at he; cases he
          | some c => exact (List.getElem?_eq_some_iff.mp h).1
        rw [List.getElem?_eq_getElem hi] at he
        obtain rfl : dS [l[i]] = e := by simpa using he
        have hdr : l.drop i = l[i] :: l.drop (i + 1) := List.drop_eq_getElem_cons hi
        rw [hdr] at hB
        unfold badAt at hB
        simp [tgSeq, tgs, letters_c, figures_c, dNotIn_S]
        by_cases hL : l[i] ∈ abc
        · have : isL l[i] = true := by unfold isL; exact decide_eq_true hL
          simp [this] at hB
          simp [hL]
          exact hB
        · have hL' : isL l[i] = false := by unfold isL; exact decide_eq_false hL
          simp [hL', isF] at hB
          by_cases h0 : i = 0
          · simp [h0] at hB
            have h2 := h2 (by rw [hdue, hB]; show (0 : Int) < 100; decide)
            rw [hdue, hB] at h2
            simp [h0]
            subst h0
            simp [hL]
            exact h2
          · simp [h0] at hB
            simp [h0, hL]
            by_cases hF : l[i] ∈ figs
            · simp [hF] at hB ⊢
              exact hB
            · simp [hF] at hB ⊢
              have h2 := h2 (by rw [hdue, hB]; have := hBl _ hB; dsimp only; omega)
              rw [hdue, hB] at h2
              exact h2
      · rintro env J2 ⟨z, y, rfl, rfl, hB⟩
        rw [pairUp_len, chars_S, List.length_map, List.drop_length] at hB
        unfold badAt at hB
        simp [dLen_S hl]
        exact h1 (by rw [hdue, hB]; show ¬ ((100 : Int) + (l.length : Int) < 100); omega)
theorem chk_non {d : D} (hd : ∀ s, d ≠ .str s) (h2 : X "BadName" [("at", .int (-1))] J) : Ex X (F_check_name [.val d] J) Q := by
  unfold F_check_name B_check_name
  rw [Ex_mkF]
  cases d with
  | str s => exact absurd rfl (hd s)
  | _ => (simp [startE, dIsa, isa, isaS, tyName, truth, dNeg]; exact h2)
theorem dueD_str {s : Str} : dueD (.str s) = due s.cps.toList := rfl
theorem chk_spec {d : D} (ok : okD d) (h1 : ¬ dueD d < 100 → Q (.val (.int (dueD d - 100))) J) (h2 : dueD d < 100 → X "BadName" [("at", .int (dueD d))] J) : Ex X (F_check_name [.val d] J) Q := by
  cases d with
  | str s => exact chk_str (l := s.cps.toList) ok.1 ok.2 (fun h => by have := h1 h; rw [dueD_str, due_big h] at this; simpa [Int.add_sub_cancel, Int.add_comm] using this) h2
  | _ => exact chk_non (fun s => by simp) (h2 (by show (-1 : Int) < 100; decide))

/-- a good name -/
def nameB (d : D) : Bool := decide (100 ≤ dueD d)
theorem isname_spec {d : D} (ok : okD d) (q : Q (.val (.bl (nameB d))) J) : Ex X (F_is_name [.val d] J) Q := by
  unfold F_is_name B_is_name
  rw [Ex_mkF]
  simp [startE]
  refine chk_spec ok (fun h => ?_) (fun h => ?_)
  · have e : nameB d = true := decide_eq_true (by omega)
    rw [e] at q
    simpa using q
  · have e : nameB d = false := decide_eq_false (by omega)
    rw [e] at q
    rw [Sx_hit (show excM "BadName" "BadName" = some true by with_unfolding_all rfl)]
    simp [sufP, onE, offE, noExc, isExc]
    exact q
theorem reserved_spec (q : Q (.new (barred.map dS)) J) : Ex X (F_l_reserved [] J) Q := by
  unfold F_l_reserved B_l_reserved
  rw [Ex_mkF]
  simp [startE, dWords]
  refine ⟨by decide +kernel, ?_⟩
  generalize hw : Txt.words _ = ws
  have e : ws = (barred.take 19).map S := hw.symm.trans (by decide +kernel)
  subst e
  rw [dAdd_ll (by decide +kernel)]
  have e2 : ((barred.take 19).map S).map D.str ++ [D.str (Str.ofString "tell"), D.str (Str.ofString "path"), D.str (Str.ofString "machine"), D.str (Str.ofString "program"), D.str (Str.ofString "rows")] = barred.map dS := by with_unfolding_all rfl
  rw [e2]
  simp
  exact ⟨by decide, q⟩
theorem shp_barredL : shp (.lst (barred.map dS)) = true := by decide +kernel
theorem dIn_bl {l : List Nat} (h : asc l) : dIn (dS l) (.lst (barred.map dS)) = some (.val (.bl (decide (l ∈ barred)))) := by
  show (if (shp (dS l) && shp (.lst (barred.map dS))) = true then some (HV.val (.bl (inAny (dS l) (barred.map dS)))) else none) = _
  rw [shp_S h, shp_barredL, in_barred]
  rfl
theorem nameB_S {l : List Nat} : nameB (dS l) = decide (100 ≤ due l) := rfl
/-- good, by its signs -/
theorem nameB_iff {l : List Nat} : nameB (dS l) = true ↔ (gW l ∧ l ∉ barred ∧ l.length ≤ 8) := by
  rw [nameB_S, decide_eq_true_eq]
  constructor
  · intro h
    unfold due at h
    split at h
    · omega
    · rename_i h1
      split at h
      · omega
      · rename_i h2
        refine ⟨?_, h2, by omega⟩
        cases l with
        | nil => simp at h1
        | cons c r =>
          cases e : badAt 0 (c :: r) with
          | some k =>
            have := badAt_ge _ _ _ e
            rw [e] at h
            rw [List.length_cons] at this h1
            dsimp only at h
            omega
          | none =>
            unfold badAt at e
            split at e
            · rename_i h3
              have bb : ∀ (r : List Nat) (i : Nat), badAt i r = none → ∀ x ∈ r, gC x := fun r => by
                induction r with
                | nil => intro i e x hx; cases hx
                | cons y r ih =>
                  intro i e x hx
                  unfold badAt at e
                  split at e
                  · rename_i h4
                    rcases List.mem_cons.mp hx with rfl | hx
                    · simp at h4
                      rcases h4 with h4 | h4
                      · exact .inl h4
                      · exact .inr h4.2
                    · exact ih _ e x hx
                  · cases e
              exact ⟨c, r, rfl, by simpa using h3, bb r _ e⟩
            · cases e
  · rintro ⟨h1, h2, h3⟩
    rw [due_good h1 h2 h3]
    omega
theorem asc_nil : asc [] := fun c hc => by cases hc
theorem lname_spec {l : List Nat} (hl : l.length ≤ big) (ha : asc l) (q : Q (.val (.bl (nameB (dS l)))) J) : Ex X (F_l_is_name [.val (dS l)] J) Q := by
  unfold F_l_is_name B_l_is_name
  rw [Ex_mkF]
  have mt : D.str (Str.ofString "") = dS [] := by with_unfolding_all rfl
  simp [startE, dIsa, isa, isaS, tyName, Sx_for, dLen_S hl, mt, dEq_S ha asc_nil]
  by_cases h0 : l = []
  · have e : nameB (dS l) = false := by subst h0; with_unfolding_all rfl
    rw [e] at q
    simp [h0]
    simpa using q
  · simp [h0]
    by_cases h8 : (8 : Int) < l.length
    · have e : nameB (dS l) = false := by
        rw [Bool.eq_false_iff]
        intro h
        have := (nameB_iff.mp h).2.2
        omega
      rw [e] at q
      simp [h8]
      exact q
    · simp [h8]
      refine reserved_spec ?_
      simp [dIn_bl ha]
      by_cases hb : l ∈ barred
      · have e : nameB (dS l) = false := by
          rw [Bool.eq_false_iff]
          exact fun h => (nameB_iff.mp h).2.1 hb
        rw [e] at q
        simp [hb]
        exact q
      · obtain ⟨c, r, rfl⟩ : ∃ c r, l = c :: r := by
          cases l with
          | nil => exact absurd rfl h0
          | cons c r => exact ⟨c, r, rfl⟩
        have abc_lit : D.str (Str.ofString "abcdefghijklmnopqrstuvwxyz") = dS abc := by with_unfolding_all rfl
        have e0 : dIx (dS (c :: r)) (.int 0) = some (.val (dS [c])) := dIx_S (l := c :: r) (i := 0) hl (by decide) (by simp)
        simp [hb, e0, abc_lit, dNotIn_S]
        by_cases hc : c ∈ abc
        · simp [hc]
          refine Sx_loop (fun i env J' => ∃ z, env = [some (.val (dS (c :: r))), some (.val (dS abc)), z] ∧ J' = J ∧ ∀ k, k < i → ∀ x, (c :: r)[k]? = some x → gC x) ⟨_, rfl, rfl, fun k hk => by omega⟩ ?_ ?_
          · rintro i d env J' hd ⟨z, rfl, rfl, hk⟩
            rw [chars_S, List.getElem?_map] at hd
            cases hx : (c :: r)[i]? with
            | none => rw [hx] at hd; cases hd
            | some x =>
              rw [hx] at hd
              obtain rfl : dS [x] = d := by simpa using hd
              simp [tgName, dNotIn_S, figs_lit]
              by_cases g1 : x ∈ abc
              · simp [g1]
                intro k hk2 y hy
                by_cases e : k = i
                · subst e; rw [hx] at hy; cases hy; exact .inl (decide_eq_true g1)
                · exact hk k (by omega) y hy
              · by_cases g2 : x ∈ figs
                · simp [g1, g2]
                  intro k hk2 y hy
                  by_cases e : k = i
                  · subst e; rw [hx] at hy; cases hy; exact .inr (decide_eq_true g2)
                  · exact hk k (by omega) y hy
                · have e : nameB (dS (c :: r)) = false := by
                    rw [Bool.eq_false_iff]
                    intro h
                    rcases gW_all (nameB_iff.mp h).1 x (List.mem_of_getElem? hx) with h | h
                    · exact g1 (of_decide_eq_true h)
                    · exact g2 (of_decide_eq_true h)
                  rw [e] at q
                  simp [g1, g2]
                  exact q
          · rintro env J' ⟨z, rfl, rfl, hk⟩
            have e : nameB (dS (c :: r)) = true := nameB_iff.mpr ⟨⟨c, r, rfl, decide_eq_true hc, fun x hx => by
              obtain ⟨k, hk1, hk2⟩ := List.getElem_of_mem hx
              exact hk (k + 1) (by rw [chars_S, List.length_map, List.length_cons]; omega) x (by simp [hk1, hk2])⟩, hb, by simp at h8; simp; omega⟩
            rw [e] at q
            simp
            exact q
        · have e : nameB (dS (c :: r)) = false := by
            rw [Bool.eq_false_iff]
            intro h
            obtain ⟨c', r', h1, h2, _⟩ := (nameB_iff.mp h).1
            cases h1
            exact hc (of_decide_eq_true h2)
          rw [e] at q
          simp [hc]
          exact q
end K12
set_option Elab.async false
set_option linter.all false
set_option maxRecDepth 100000
set_option maxHeartbeats 4000000
set_option autoImplicit false
namespace K12
open PySem L2 L2.Pz
variable {X : XP} {Q : HV → Jr → Prop} {T J : Jr} {jc : List D} {env : En} {b : Nat}
@[simp] theorem dLe_ii {i j : Int} : dLe (.int i) (.int j) = some (.val (.bl (decide (i ≤ j)))) := rfl
/-! ### what may be handed in -/
def sok : Nat → D → Bool
  | _, .str x => decide (x.cps.toList.length ≤ 100000) && PyData.strOk x
  | _, .int _ => true
  | _, .bl _ => true
  | _, .non => true
  | k + 1, .tup ds => ds.all (sok k) && decide (ds.length ≤ 1000000)
  | k + 1, .lst ds => ds.all (sok k) && decide (ds.length ≤ 1000000)
  | _, _ => false
theorem sok_tup {k : Nat} {ds : List D} : sok (k + 1) (.tup ds) = true ↔ (∀ d ∈ ds, sok k d = true) ∧ ds.length ≤ 1000000 := by
  show (ds.all (sok k) && decide (ds.length ≤ 1000000)) = true ↔ _
  rw [Bool.and_eq_true, List.all_eq_true, decide_eq_true_eq]
theorem sok_lst {k : Nat} {ds : List D} : sok (k + 1) (.lst ds) = true ↔ (∀ d ∈ ds, sok k d = true) ∧ ds.length ≤ 1000000 := by
  show (ds.all (sok k) && decide (ds.length ≤ 1000000)) = true ↔ _
  rw [Bool.and_eq_true, List.all_eq_true, decide_eq_true_eq]
theorem sok_str {k : Nat} {l : List Nat} : sok k (dS l) = true ↔ l.length ≤ 100000 ∧ asc l := by
  have e : sok k (dS l) = (decide (l.length ≤ 100000) && PyData.strOk (S l)) := by cases k <;> rfl
  rw [e, Bool.and_eq_true, decide_eq_true_eq]
  constructor
  · rintro ⟨h1, h2⟩
    refine ⟨h1, fun c hc => ?_⟩
    unfold PyData.strOk at h2
    rw [← Array.all_toList, List.all_eq_true] at h2
    exact of_decide_eq_true (h2 c hc)
  · rintro ⟨h1, h2⟩
    exact ⟨h1, strOk_S h2⟩
theorem sok_okD {k : Nat} {d : D} (h : sok k d = true) : okD d := by
  cases d with
  | str s =>
    have := (sok_str (k := k) (l := s.cps.toList)).mp h
    exact ⟨show _ ≤ 16777216 by have := this.1; omega, this.2⟩
  | _ => trivial
theorem sok_mono : ∀ (k : Nat) (d : D), sok k d = true → ∀ m, k ≤ m → sok m d = true
  | k, .str x, h, m, hm => (sok_str (k := m) (l := x.cps.toList)).mpr ((sok_str (k := k) (l := x.cps.toList)).mp h)
  | k, .int x, h, m, hm => by cases m <;> rfl
  | k, .bl x, h, m, hm => by cases m <;> rfl
  | k, .non, h, m, hm => by cases m <;> rfl
  | k + 1, .tup ds, h, m + 1, hm => by
    rw [sok_tup] at h ⊢
    exact ⟨fun d hd => sok_mono k d (h.1 d hd) m (by omega), h.2⟩
  | k + 1, .lst ds, h, m + 1, hm => by
    rw [sok_lst] at h ⊢
    exact ⟨fun d hd => sok_mono k d (h.1 d hd) m (by omega), h.2⟩
  | k + 1, .tup ds, h, 0, hm => by omega
  | k + 1, .lst ds, h, 0, hm => by omega
  | 0, .tup ds, h, m, hm => by cases h
  | 0, .lst ds, h, m, hm => by cases h
/-! ### numbers, tuples, states -/
def numB (m : Int) : D → Bool
  | .int i => decide (0 ≤ i) && decide (i < m)
  | _ => false
theorem isint_spec {d : D} (q : Q (.val (.bl (isa "int" d && !isa "bool" d))) J) : Ex X (F_is_integer [.val d] J) Q := by
  unfold F_is_integer B_is_integer
  rw [Ex_mkF]
  cases h1 : isa "int" d <;> cases h2 : isa "bool" d <;> (rw [h1, h2] at q; simp [startE, dIsa, h1, h2]; exact q)
theorem num_spec {d : D} {m : Int} (q : Q (.val (.bl (numB m d))) J) : Ex X (F_is_number [.val d, .val (.int m)] J) Q := by
  unfold F_is_number B_is_number
  rw [Ex_mkF]
  simp [startE]
  unfold F_integer_within B_integer_within
  rw [Ex_mkF]
  simp [startE, eChain]
  refine isint_spec ?_
  cases d with
  | int i =>
    have e : (isa "int" (.int i) && !isa "bool" (.int i)) = true := rfl
    rw [e]
    by_cases h1 : 0 ≤ i
    · by_cases h2 : i < m
      · have h3 : i ≤ m - 1 := by omega
        simp [h1, h3]
        simpa [numB, h1, h2] using q
      · have h3 : ¬ i ≤ m - 1 := by omega
        simp [h1, h3]
        simpa [numB, h1, h2] using q
    · simp [h1]
      simpa [numB, h1] using q
  | non => simpa [numB, isa, isaS, tyName] using q
  | bl x => simpa [numB, isa, isaS, tyName] using q
  | str x => simpa [numB, isa, isaS, tyName] using q
  | tup x => simpa [numB, isa, isaS, tyName] using q
  | lst x => simpa [numB, isa, isaS, tyName] using q
def tupB (n : Int) : D → Bool
  | .tup ds => decide ((ds.length : Int) = n)
  | _ => false
theorem tupof_spec {d : D} {n : Int} (q : Q (.val (.bl (tupB n d))) J) : Ex X (F_tuple_of [.val d, .val (.int n)] J) Q := by
  unfold F_tuple_of B_tuple_of
  rw [Ex_mkF]
  cases d with
  | tup ds =>
    simp [startE, dIsa, isa, isaS, tyName]
    have e : tupB n (.tup ds) = ((ds.length : Int) == n) := by
      show decide ((ds.length : Int) = n) = _
      rw [Bool.beq_eq_decide_eq]
    rw [e] at q
    exact q
  | _ => simp [startE, dIsa, isa, isaS, tyName]; exact q
def stateB (sg m : Int) : D → Bool
  | .tup [w, .tup ns] => nameB w && (decide ((ns.length : Int) = sg) && ns.all (numB m))
  | _ => false
theorem allnum_spec {ns : List D} {sg m : Int} {d0 : D} {e3 : Option HV} (hl : ns.length ≤ 1000000) (h1 : dIx d0 (.int 1) = some (.val (.tup ns))) (q : Q (.new (ns.map fun d => .bl (numB m d))) J) :
    Ex X (eLc (iAny (eBin dIx (eName 2) (eC (.int 1)))) (tgName 3) bYes (eCall F_is_number [eName 3, eName 1]) [3] [some (.val (.int sg)), some (.val (.int m)), some (.val d0), e3] J) Q := by
  refine Ex_lcX ?_
  simp [h1]
  refine Ex_lcLoop (fun i acc J' => acc = (ns.map fun d => D.bl (numB m d)).take i ∧ J' = J) ⟨rfl, rfl⟩ ?_ ?_
  · rintro i d acc J' hd ⟨rfl, rfl⟩
    have hi : i < ns.length := (List.getElem?_eq_some_iff.mp hd).1
    simp [tgName, wipeE]
    refine num_spec ?_
    simp
    refine ⟨show _ < 16777216 by omega, ?_⟩
    rw [List.take_add_one, List.getElem?_map, hd]
    rfl
  · rintro acc J' ⟨rfl, rfl⟩
    rw [← List.length_map (f := fun d => D.bl (numB m d)), List.take_length]
    exact q
theorem asBls_map {f : D → Bool} : ∀ {ns : List D}, asBls (ns.map fun d => .bl (f d)) = some (ns.map f)
  | [] => rfl
  | d :: ns => by
    show (asBls (ns.map fun d => .bl (f d))).map (f d :: ·) = _
    rw [asBls_map]
    rfl
theorem dAll_map {f : D → Bool} {ns : List D} : dAll (.lst (ns.map fun d => .bl (f d))) = some (.val (.bl (ns.all f))) := by
  show (match asBls (ns.map fun d => D.bl (f d)) with
    | some bs => some (HV.val (.bl (bs.all id)))
    | none => none) = _
  rw [asBls_map]
  simp [List.all_map, Function.comp_def]
/-- the shape (w, (..)) -/
theorem state_cases (d : D) : (∃ w ns, d = .tup [w, .tup ns]) ∨ (tupB 2 d = true ∧ ∃ w x, d = .tup [w, x] ∧ (∀ ns, x ≠ .tup ns)) ∨ (tupB 2 d = false ∧ ∀ w x, d ≠ .tup [w, x]) := by
  cases d with
  | tup ds =>
    match ds with
    | [] => exact .inr (.inr ⟨rfl, fun w x => by simp⟩)
    | [a] => exact .inr (.inr ⟨rfl, fun w x => by simp⟩)
    | [a, x] =>
      cases x with
      | tup ns => exact .inl ⟨a, ns, rfl⟩
      | _ => exact .inr (.inl ⟨rfl, a, _, rfl, fun ns => by simp⟩)
    | a :: x :: y :: r => 
      have e : tupB 2 (.tup (a :: x :: y :: r)) = false := by
        show decide ((((a :: x :: y :: r).length : Nat) : Int) = 2) = false
        rw [decide_eq_false_iff_not, List.length_cons, List.length_cons, List.length_cons]
        omega
      exact .inr (.inr ⟨e, fun w x => by simp⟩)
  | _ => exact .inr (.inr ⟨rfl, fun w x => by simp⟩)
theorem stateB_no {sg m : Int} {d : D} (h : ∀ w ns, d ≠ .tup [w, .tup ns]) : stateB sg m d = false := by
  unfold stateB
  split
  · rename_i w ns
    exact absurd rfl (h w ns)
  · rfl
theorem isstate_spec {k : Nat} {d : D} {sg m : Int} (ok : sok (k + 2) d = true) (q : Q (.val (.bl (stateB sg m d))) J) : Ex X (F_is_state [.val (.int sg), .val (.int m), .val d] J) Q := by
  unfold F_is_state B_is_state
  rw [Ex_mkF]
  simp [startE]
  refine tupof_spec ?_
  rcases state_cases d with ⟨w, ns, rfl⟩ | ⟨h2, w, x, rfl, hx⟩ | ⟨h2, hx⟩
  · have hs := sok_tup.mp ok
    have hw := hs.1 w (by simp)
    have hn := sok_tup.mp (hs.1 (.tup ns) (by simp))
    have t2 : tupB 2 (.tup [w, .tup ns]) = true := rfl
    have i0 : dIx (.tup [w, .tup ns]) (.int 0) = some (.val w) := rfl
    have i1 : dIx (.tup [w, .tup ns]) (.int 1) = some (.val (.tup ns)) := rfl
    simp [t2, i0, i1]
    refine isname_spec (sok_okD hw) ?_
    by_cases hnm : nameB w = true
    · simp [hnm]
      refine tupof_spec ?_
      by_cases hl : (ns.length : Int) = sg
      · have t3 : tupB sg (.tup ns) = true := decide_eq_true hl
        simp [t3]
        refine allnum_spec hn.2 i1 ?_
        simp [dAll_map]
        have e : stateB sg m (.tup [w, .tup ns]) = ns.all (numB m) := by
          show (nameB w && (decide ((ns.length : Int) = sg) && ns.all (numB m))) = _
          rw [hnm, decide_eq_true hl]
          rfl
        rw [e] at q
        exact q
      · have t3 : tupB sg (.tup ns) = false := decide_eq_false hl
        simp [t3]
        have e : stateB sg m (.tup [w, .tup ns]) = false := by
          show (nameB w && (decide ((ns.length : Int) = sg) && ns.all (numB m))) = _
          rw [decide_eq_false hl]
          simp
        rw [e] at q
        exact q
    · have hnm : nameB w = false := by simpa using hnm
      simp [hnm]
      have e : stateB sg m (.tup [w, .tup ns]) = false := by
        show (nameB w && (decide ((ns.length : Int) = sg) && ns.all (numB m))) = _
        rw [hnm]
        rfl
      rw [e] at q
      exact q
  · have hs := sok_tup.mp ok
    have hw := hs.1 w (by simp)
    have i0 : dIx (.tup [w, x]) (.int 0) = some (.val w) := rfl
    have i1 : dIx (.tup [w, x]) (.int 1) = some (.val x) := rfl
    have e : stateB sg m (.tup [w, x]) = false := stateB_no fun w' ns h => by
      injection h with h
      injection h with _ h
      injection h with h
      exact hx ns h
    rw [e] at q
    simp [h2, i0, i1]
    refine isname_spec (sok_okD hw) ?_
    by_cases hnm : nameB w = true
    · simp [hnm]
      refine tupof_spec ?_
      have t3 : tupB sg x = false := by
        cases x with
        | tup ns => exact absurd rfl (hx ns)
        | _ => rfl
      simp [t3]
      exact q
    · have hnm : nameB w = false := by simpa using hnm
      simp [hnm]
      exact q
  · have e : stateB sg m d = false := stateB_no fun w ns => hx w _
    rw [e] at q
    simp [h2]
    exact q
theorem lname_any {k : Nat} {d : D} (ok : sok k d = true) (q : Q (.val (.bl (nameB d))) J) : Ex X (F_l_is_name [.val d] J) Q := by
  cases d with
  | str s =>
    have h := (sok_str (k := k) (l := s.cps.toList)).mp ok
    exact lname_spec (l := s.cps.toList) (show _ ≤ 16777216 by have := h.1; omega) h.2 q
  | _ =>
    unfold F_l_is_name B_l_is_name
    rw [Ex_mkF]
    simp [startE, dIsa, isa, isaS, tyName]
    exact q
theorem stands_spec {k : Nat} {d : D} {sg m : Int} (ok : sok (k + 2) d = true) (q : Q (.val (.bl (stateB sg m d))) J) : Ex X (F_l_stands [.val d, .val (.int sg), .val (.int m)] J) Q := by
  unfold F_l_stands B_l_stands
  rw [Ex_mkF]
  cases d with
  | tup ds =>
    have hs := sok_tup.mp ok
    have it : isa "tuple" (.tup ds) = true := rfl
    simp [startE, dIsa, it, Sx_for]
    by_cases h2 : ds.length = 2
    · obtain ⟨w, x, rfl⟩ : ∃ w x, ds = [w, x] := by
        match ds, h2 with
        | [w, x], _ => exact ⟨w, x, rfl⟩
      have hw := hs.1 w (by simp)
      have hx := hs.1 x (by simp)
      have i0 : dIx (.tup [w, x]) (.int 0) = some (.val w) := rfl
      have i1 : dIx (.tup [w, x]) (.int 1) = some (.val x) := rfl
      simp [i0, i1]
      refine lname_any hw ?_
      by_cases hnm : nameB w = true
      · simp [hnm]
        cases x with
        | tup ns =>
          have it : isa "tuple" (.tup ns) = true := rfl
          have hn := sok_tup.mp hx
          simp [it]
          by_cases hl : (ns.length : Int) = sg
          · simp [hl]
            have es : stateB sg m (.tup [w, .tup ns]) = ns.all (numB m) := by
              show (nameB w && (decide ((ns.length : Int) = sg) && ns.all (numB m))) = _
              rw [hnm, decide_eq_true hl]
              rfl
            rw [es] at q
            refine Sx_loop (fun i env J' => ∃ z, env = [some (.val (.tup [w, .tup ns])), some (.val (.int sg)), some (.val (.int m)), z] ∧ J' = J ∧ ∀ j, j < i → ∀ x, ns[j]? = some x → numB m x = true) ⟨_, rfl, rfl, fun j hj => by omega⟩ ?_ ?_
            · rintro i d env J' hd ⟨z, rfl, rfl, hk⟩
              have step : numB m d = true → ∀ j, j < i + 1 → ∀ x, ns[j]? = some x → numB m x = true := fun h j hj x hx => by
                by_cases e : j = i
                · subst e; rw [hd] at hx; cases hx; exact h
                · exact hk j (by omega) x hx
              have bad : numB m d = false → Q (.val (.bl false)) J' := fun h => by
                have e : ns.all (numB m) = false := by
                  rw [List.all_eq_false]
                  exact ⟨d, List.mem_of_getElem? hd, by simp [h]⟩
                rw [e] at q
                exact q
              cases d with
              | int v =>
                have j1 : isa "int" (.int v) = true := rfl
                have j2 : isa "bool" (.int v) = false := rfl
                simp [tgName, j1, j2]
                by_cases v0 : v < 0
                · simp [v0]
                  exact bad (by simp [numB]; omega)
                · by_cases v1 : m ≤ v
                  · simp [v0, v1]
                    exact bad (by simp [numB]; omega)
                  · simp [v0, v1]
                    exact step (by simp [numB]; omega)
              | bl v =>
                have j1 : isa "int" (.bl v) = true := rfl
                have j2 : isa "bool" (.bl v) = true := rfl
                simp [tgName, j1, j2]
                exact bad rfl
              | non =>
                have j1 : isa "int" .non = false := rfl
                simp [tgName, j1]
                exact bad rfl
              | str v =>
                have j1 : isa "int" (.str v) = false := rfl
                simp [tgName, j1]
                exact bad rfl
              | tup v =>
                have j1 : isa "int" (.tup v) = false := rfl
                simp [tgName, j1]
                exact bad rfl
              | lst v =>
                have j1 : isa "int" (.lst v) = false := rfl
                simp [tgName, j1]
                exact bad rfl
            · rintro env J' ⟨z, rfl, rfl, hk⟩
              have e : ns.all (numB m) = true := by
                rw [List.all_eq_true]
                intro x hx
                obtain ⟨j, hj1, hj2⟩ := List.getElem_of_mem hx
                exact hk j hj1 x (by rw [List.getElem?_eq_getElem hj1, hj2])
              rw [e] at q
              simp
              exact q
          · have es : stateB sg m (.tup [w, .tup ns]) = false := by
              show (nameB w && (decide ((ns.length : Int) = sg) && ns.all (numB m))) = _
              rw [decide_eq_false hl]
              simp
            rw [es] at q
            simp [hl]
            exact q
        | _ =>
          first
          | (have it : isa "tuple" .non = false := rfl
             simp [it]; exact q)
          | (simp [isa, isaS, tyName]; exact q)
      · have hnm : nameB w = false := by simpa using hnm
        have es : stateB sg m (.tup [w, x]) = false := by
          cases x with
          | tup ns =>
            show (nameB w && (decide ((ns.length : Int) = sg) && ns.all (numB m))) = _
            rw [hnm]
            rfl
          | _ => rfl
        rw [es] at q
        simp [hnm]
        exact q
    · have hd2 : ¬ (ds.length : Int) = 2 := by omega
      have e : stateB sg m (.tup ds) = false := stateB_no fun w ns h => by
        injection h with h
        rw [h] at h2
        exact h2 rfl
      rw [e] at q
      simp [hd2]
      exact q
  | _ => simp [startE, dIsa, isa, isaS, tyName]; exact q
end K12
set_option Elab.async false
set_option linter.all false
set_option maxRecDepth 100000
set_option maxHeartbeats 4000000
set_option autoImplicit false
namespace K12
open PySem L2 L2.Pz
variable {X : XP} {Q : HV → Jr → Prop} {T J : Jr} {jc : List D} {env : En} {b : Nat}
/-! ### machines -/
/-- the first that is no state -/
def fb (sg : Int) (n : Nat) : Nat → List D → Option Nat
  | _, [] => none
  | i, d :: ds => if stateB sg n d = true then fb sg n (i + 1) ds else some i
theorem fb_ge {sg : Int} {n : Nat} : ∀ (ds : List D) (i k : Nat), fb sg n i ds = some k → i ≤ k ∧ k < i + ds.length
  | [], i, k, h => by cases h
  | d :: ds, i, k, h => by
    unfold fb at h
    split at h
    · have := fb_ge ds (i + 1) k h
      rw [List.length_cons]; omega
    · cases h
      rw [List.length_cons]; omega
theorem fb_all {sg : Int} {n : Nat} : ∀ (ds : List D) (i : Nat), (ds.all (stateB sg n) = true ↔ fb sg n i ds = none)
  | [], i => by simp [fb]
  | d :: ds, i => by
    unfold fb
    rw [List.all_cons]
    have ih := fb_all (sg := sg) (n := n) ds (i + 1)
    by_cases h : stateB sg n d = true
    · rw [if_pos h, h, Bool.true_and]
      exact ih
    · rw [if_neg h]
      simp [h]
/-- what a thing's check tells -/
def tri (sg : Int) : D → Str × Int × Str
  | .tup ds => if ds.length < 1 ∨ 200 < ds.length then ("raised", -1, "states") else match fb sg ds.length 0 ds with
    | some i => ("raised", i, "state")
    | none => ("told", ds.length, "")
  | _ => ("raised", -1, "shape")
def macB (sg : Int) : D → Bool
  | .tup ds => decide (1 ≤ ds.length) && ds.all (stateB sg ds.length)
  | _ => false
abbrev triD (t : Str × Int × Str) : List D := [.str t.1, .int t.2.1, .str t.2.2]
/-- a setting of sg signs -/
def stg (sg : Nat) (d : D) : Prop := ∃ ns x, d = .tup [.tup ns, x] ∧ ns.length = sg
theorem stg0 {sg : Nat} {s : D} (h : stg sg s) : ∃ y, dIx s (.int 0) = some (.val y) ∧ dLen y = some (.val (.int sg)) := by
  obtain ⟨ns, x, rfl, h⟩ := h
  exact ⟨.tup ns, rfl, by rw [← h]; rfl⟩
theorem firstbad_spec {k : Nat} {ds : List D} {sg : Int} (ok : ∀ d ∈ ds, sok (k + 2) d = true) (hl : ds.length ≤ 1000000) (q : Q (.val (.int (match fb sg ds.length 0 ds with | some i => (i : Int) | none => -1))) J) : Ex X (F_l_first_bad [.val (.int sg), .val (.tup ds)] J) Q := by
  unfold F_l_first_bad B_l_first_bad
  rw [Ex_mkF]
  have e0 : rgOk ds.length = true := by unfold rgOk; simp; omega
  simp [startE, Sx_for, e0]
  have h0 : fb sg ds.length 0 ds = fb sg ds.length 0 (ds.drop 0) := rfl
  generalize fb sg ds.length 0 ds = B at h0 q
  refine Sx_loop (fun i env J' => ∃ z, env = [some (.val (.int sg)), some (.val (.tup ds)), z] ∧ J' = J ∧ B = fb sg ds.length i (ds.drop i)) ⟨_, rfl, rfl, h0⟩ ?_ ?_
  · rintro i d env J' hd ⟨z, rfl, rfl, hB⟩
    obtain ⟨rfl, hi⟩ := rgD_get hd
    have hi : i < ds.length := by simpa using hi
    rw [List.drop_eq_getElem_cons hi] at hB
    unfold fb at hB
    have hat : dIx (.tup ds) (.int (i : Int)) = some (.val ds[i]) := by
      show (atI ds (i : Int)).map HV.val = _
      rw [atI_in (by omega) (by omega)]
      rfl
    simp [tgName, hat]
    refine stands_spec (ok _ (List.getElem_mem hi)) ?_
    by_cases hs : stateB sg ds.length ds[i] = true
    · rw [if_pos hs] at hB
      simp [hs]
      exact hB
    · rw [if_neg hs] at hB
      rw [hB] at q
      simp [hs]
      exact q
  · rintro env J' ⟨z, rfl, rfl, hB⟩
    rw [rgD_len] at hB
    have hB : B = fb sg ds.length ds.length (ds.drop ds.length) := by simpa using hB
    rw [List.drop_length] at hB
    unfold fb at hB
    rw [hB] at q
    simp
    exact q
theorem tri_states {sg : Int} {ds : List D} (h : ds.length < 1 ∨ 200 < ds.length) : tri sg (.tup ds) = (("raised" : Str), (-1 : Int), ("states" : Str)) := by simp only [tri]; rw [if_pos h]
theorem tri_state {sg : Int} {ds : List D} {i : Nat} (h : ¬ (ds.length < 1 ∨ 200 < ds.length)) (e : fb sg ds.length 0 ds = some i) : tri sg (.tup ds) = (("raised" : Str), (i : Int), ("state" : Str)) := by simp only [tri]; rw [if_neg h, e]
theorem tri_told {sg : Int} {ds : List D} (h : ¬ (ds.length < 1 ∨ 200 < ds.length)) (e : fb sg ds.length 0 ds = none) : tri sg (.tup ds) = (("told" : Str), (ds.length : Int), ("" : Str)) := by simp only [tri]; rw [if_neg h, e]
theorem due_spec {k : Nat} {d : D} {sg : Int} (ok : sok (k + 3) d = true) (q : Q (.new (triD (tri sg d))) J) : Ex X (F_l_due [.val (.int sg), .val d] J) Q := by
  unfold F_l_due B_l_due
  rw [Ex_mkF]
  cases d with
  | tup ds =>
    have hs := sok_tup.mp ok
    have it : isa "tuple" (.tup ds) = true := rfl
    simp [startE, dIsa, it]
    by_cases h1 : ds.length < 1 ∨ 200 < ds.length
    · rw [tri_states h1] at q
      by_cases h2 : (ds.length : Int) < 1
      · simp [h2]
        exact ⟨by decide, q⟩
      · have h3 : (200 : Int) < ds.length := by omega
        simp [h2, h3]
        exact ⟨by decide, q⟩
    · have h2 : ¬ (ds.length : Int) < 1 := by omega
      have h3 : ¬ (200 : Int) < ds.length := by omega
      simp [h2, h3]
      refine firstbad_spec (k := k) hs.1 hs.2 ?_
      cases e : fb sg ds.length 0 ds with
      | some i =>
        rw [tri_state h1 e] at q
        have h4 : (0 : Int) ≤ (i : Int) := by omega
        simp [h4]
        exact ⟨by decide, q⟩
      | none =>
        rw [tri_told h1 e] at q
        simp
        exact ⟨by decide, q⟩
  | _ => simp [startE, dIsa, isa, isaS, tyName]; exact ⟨by decide, q⟩
theorem isdue_spec {k : Nat} {d : D} {sg : Int} (ok : sok (k + 3) d = true) (q : Q (.val (.bl (macB sg d))) J) : Ex X (F_l_is_due [.val (.int sg), .val d] J) Q := by
  unfold F_l_is_due B_l_is_due
  rw [Ex_mkF]
  cases d with
  | tup ds =>
    have hs := sok_tup.mp ok
    have it : isa "tuple" (.tup ds) = true := rfl
    simp [startE, dIsa, it]
    by_cases h1 : 1 ≤ ds.length
    · have h1' : (1 : Int) ≤ ds.length := by omega
      simp [h1']
      refine firstbad_spec (k := k) hs.1 hs.2 ?_
      have e0 : macB sg (.tup ds) = ds.all (stateB sg ds.length) := by
        show (decide (1 ≤ ds.length) && ds.all (stateB sg ds.length)) = _
        rw [decide_eq_true h1, Bool.true_and]
      rw [e0] at q
      cases e : fb sg ds.length 0 ds with
      | some i =>
        have e1 : ds.all (stateB sg ds.length) = false := by
          rw [Bool.eq_false_iff]
          intro h
          rw [(fb_all ds 0).mp h] at e
          cases e
        rw [e1] at q
        have h4 : ¬ (i : Int) < 0 := by omega
        simp [h4]
        exact q
      | none =>
        rw [(fb_all ds 0).mpr e] at q
        simp
        exact q
    · have h1' : ¬ (1 : Int) ≤ ds.length := by omega
      have e0 : macB sg (.tup ds) = false := by
        show (decide (1 ≤ ds.length) && ds.all (stateB sg ds.length)) = _
        rw [decide_eq_false h1, Bool.false_and]
      rw [e0] at q
      simp [h1']
      exact q
  | _ => simp [startE, dIsa, isa, isaS, tyName]; exact q
theorem check_spec {k sg : Nat} {s d : D} (hs : stg sg s) (ok : sok (k + 3) d = true) (h1 : ∀ n, tri sg d = (("told" : Str), n, ("" : Str)) → Q (.val (.int n)) J) (h2 : ∀ i w, tri sg d = (("raised" : Str), i, w) → X "BadMachine" [("at", .int i), ("word", .str w)] J) : Ex X (F_check_machine [.val s, .val d] J) Q := by
  obtain ⟨y, y1, y2⟩ := stg0 hs
  unfold F_check_machine B_check_machine
  rw [Ex_mkF]
  cases d with
  | tup ds =>
    have ho := sok_tup.mp ok
    have it : isa "tuple" (.tup ds) = true := rfl
    simp [startE, dIsa, it, Sx_for, Ex_bChain, gc_STATES_MOST]
    by_cases c : ds.length < 1 ∨ 200 < ds.length
    · have h2 := h2 _ _ (tri_states c)
      by_cases c1 : 1 ≤ ds.length
      · have c1' : (1 : Int) ≤ ds.length := by omega
        have c2 : ¬ (ds.length : Int) ≤ 200 := by omega
        simp [c1', c2]
        exact h2
      · have c1' : ¬ (1 : Int) ≤ ds.length := by omega
        simp [c1']
        exact h2
    · have c1 : (1 : Int) ≤ ds.length := by omega
      have c2 : (ds.length : Int) ≤ 200 := by omega
      simp [c1, c2]
      have h0 : fb sg ds.length 0 ds = fb sg ds.length 0 (ds.drop 0) := rfl
      have h1 : fb sg ds.length 0 ds = none → _ := fun e => h1 _ (tri_told c e)
      have h2 : ∀ i : Nat, fb sg ds.length 0 ds = some i → _ := fun i e => h2 _ _ (tri_state c e)
      generalize fb sg ds.length 0 ds = B at h0 h1 h2
      refine Sx_loop (fun i env J' => ∃ z z2, env = [some (.val s), some (.val (.tup ds)), z, z2] ∧ J' = J ∧ B = fb sg ds.length i (ds.drop i)) ⟨_, _, rfl, rfl, h0⟩ ?_ ?_
      · rintro i d env J' hd ⟨z, z2, rfl, rfl, hB⟩
        obtain ⟨e, he, rfl⟩ := pair_get hd
        have hi : i < ds.length := (List.getElem?_eq_some_iff.mp he).1
        have hei : ds[i] = e := (List.getElem?_eq_some_iff.mp he).2
        rw [List.drop_eq_getElem_cons hi, hei] at hB
        unfold fb at hB
        simp [tgSeq, tgs, y1, y2]
        refine isstate_spec (ho.1 e (List.mem_of_getElem? he)) ?_
        by_cases hst : stateB sg ds.length e = true
        · rw [if_pos hst] at hB
          simp [hst]
          exact hB
        · rw [if_neg hst] at hB
          simp [hst]
          exact h2 i hB
      · rintro env J' ⟨z, z2, rfl, rfl, hB⟩
        rw [pairUp_len, List.drop_length] at hB
        unfold fb at hB
        simp
        exact h1 hB
  | _ => simp [startE, dIsa, isa, isaS, tyName]; exact h2 _ _ rfl
theorem tri_cases (sg : Nat) (d : D) : (∃ n, tri sg d = (("told" : Str), n, ("" : Str))) ∨ ∃ i w, tri sg d = (("raised" : Str), i, w) := by
  cases d with
  | tup ds =>
    by_cases c : ds.length < 1 ∨ 200 < ds.length
    · exact .inr ⟨_, _, tri_states c⟩
    · cases e : fb sg ds.length 0 ds with
      | some i => exact .inr ⟨_, _, tri_state c e⟩
      | none => exact .inl ⟨_, tri_told c e⟩
  | _ => exact .inr ⟨_, _, rfl⟩
theorem isM_t : isM "BadMachine" "BadMachine" = some true := by with_unfolding_all rfl
theorem isM_p : isM "BadMachine" "BadProgram" = some false := by with_unfolding_all rfl
theorem isM_r : isM "BadMachine" "BadRow" = some false := by with_unfolding_all rfl
theorem isM_s : isM "BadMachine" "BadSetting" = some false := by with_unfolding_all rfl
theorem isM_x : isM "BadMachine" "BadText" = some false := by with_unfolding_all rfl
theorem ask_spec {k sg : Nat} {s d : D} {nb : Bool} (hs : stg sg s) (ok : sok (k + 3) d = true) (q : Q (.new (triD (tri sg d))) J) : Ex X (F_l_ask [.val s, .val d, .val (.bl nb)] J) Q := by
  unfold F_l_ask B_l_ask
  rw [Ex_mkF]
  cases nb
  · simp [startE]
    refine check_spec hs ok (fun n e => ?_) (fun i w e => ?_)
    · rw [e] at q
      simp
      exact ⟨by decide, q⟩
    · rw [e] at q
      rw [Sx_hit (show excM "BadMachine" "HeardError" = some true by with_unfolding_all rfl)]
      simp [sFor1, sufP, onE, isM_t, isM_p, isM_r, isM_s, isM_x, List.lookup, isExc]
      rw [show (("word" : Str) == ("at" : Str)) = false by decide +kernel]
      exact ⟨by decide, q⟩
  · simp [startE, permute]
    refine check_spec hs ok (fun n e => ?_) (fun i w e => ?_)
    · rw [e] at q
      simp
      exact ⟨by decide, q⟩
    · rw [e] at q
      rw [Sx_hit (show excM "BadMachine" "HeardError" = some true by with_unfolding_all rfl)]
      simp [sFor1, sufP, onE, isM_t, isM_p, isM_r, isM_s, isM_x, List.lookup, isExc]
      rw [show (("word" : Str) == ("at" : Str)) = false by decide +kernel]
      exact ⟨by decide, q⟩
theorem dNe_str {x y : Str} (hx : PyData.strOk x = true) (hy : PyData.strOk y = true) : dNe (.str x) (.str y) = some (.val (.bl (!(x == y)))) := by
  unfold dNe
  rw [shp_str, shp_str, hx, hy]
  rfl
theorem tri_ok (sg : Nat) (d : D) : PyData.strOk (tri sg d).1 = true ∧ PyData.strOk (tri sg d).2.2 = true := by
  have o1 : PyData.strOk ("raised" : Str) = true := by decide +kernel
  have o2 : PyData.strOk ("told" : Str) = true := by decide +kernel
  have o3 : PyData.strOk ("shape" : Str) = true := by decide +kernel
  have o4 : PyData.strOk ("states" : Str) = true := by decide +kernel
  have o5 : PyData.strOk ("state" : Str) = true := by decide +kernel
  have o6 : PyData.strOk ("" : Str) = true := by decide +kernel
  cases d with
  | tup ds =>
    by_cases c : ds.length < 1 ∨ 200 < ds.length
    · rw [tri_states c]; exact ⟨o1, o4⟩
    · cases e : fb sg ds.length 0 ds with
      | some i => rw [tri_state c e]; exact ⟨o1, o5⟩
      | none => rw [tri_told c e]; exact ⟨o2, o6⟩
  | _ => exact ⟨o1, o3⟩
theorem fits_spec {t : Str × Int × Str} (h1 : PyData.strOk t.1 = true) (h2 : PyData.strOk t.2.2 = true) (q : Q (.val (.bl true)) J) : Ex X (F_l_fits [.val (.lst (triD t)), .val (.lst (triD t))] J) Q := by
  obtain ⟨a, i, w⟩ := t
  unfold F_l_fits B_l_fits
  rw [Ex_mkF]
  have i0 : dIx (.lst (triD (a, i, w))) (.int 0) = some (.val (.str a)) := rfl
  have i1 : dIx (.lst (triD (a, i, w))) (.int 1) = some (.val (.int i)) := rfl
  have i2 : dIx (.lst (triD (a, i, w))) (.int 2) = some (.val (.str w)) := rfl
  have j1 : isa "int" (.int i) = true := rfl
  have j2 : isa "bool" (.int i) = false := rfl
  have j3 : isa "str" (.str w) = true := rfl
  simp [startE, i0, i1, i2, dIsa, j1, j2, j3, dNe_str h1 h1, dEq_str h2 h2]
  exact q
theorem allst_spec {k sg : Nat} {s d0 : D} {ds : List D} {e2 : Option HV} {y : D} (y1 : dIx s (.int 0) = some (.val y)) (y2 : dLen y = some (.val (.int sg))) (hd0 : d0 = .tup ds) (ok : ∀ d ∈ ds, sok (k + 2) d = true) (hl : ds.length ≤ 1000000) (q : Q (.new (ds.map fun d => .bl (stateB sg ds.length d))) J) :
    Ex X (eLc (iAny (eName 1)) (tgName 2) bYes (eCall F_is_state [eUn dLen (eBin dIx (eName 0) (eC (.int 0))), eUn dLen (eName 1), eName 2]) [2] [some (.val s), some (.val d0), e2] J) Q := by
  subst hd0
  refine Ex_lcX ?_
  simp
  refine Ex_lcLoop (fun i acc J' => acc = (ds.map fun d => D.bl (stateB sg ds.length d)).take i ∧ J' = J) ⟨rfl, rfl⟩ ?_ ?_
  · rintro i d acc J' hd ⟨rfl, rfl⟩
    have hi : i < ds.length := (List.getElem?_eq_some_iff.mp hd).1
    simp [tgName, wipeE, y1, y2]
    refine isstate_spec (ok d (List.mem_of_getElem? hd)) ?_
    simp
    refine ⟨show _ < 16777216 by omega, ?_⟩
    rw [List.take_add_one, List.getElem?_map, hd]
    rfl
  · rintro acc J' ⟨rfl, rfl⟩
    have e : (ds.map fun d => D.bl (stateB sg ds.length d)).take ds.length = ds.map fun d => D.bl (stateB sg ds.length d) := List.take_of_length_le (by rw [List.length_map]; exact Nat.le_refl _)
    rw [e]
    exact q
theorem ismach_spec {k sg : Nat} {s d : D} (hs : stg sg s) (ok : sok (k + 3) d = true) (q : Q (.val (.bl (macB sg d))) J) : Ex X (F_is_machine [.val s, .val d] J) Q := by
  obtain ⟨y, y1, y2⟩ := stg0 hs
  unfold F_is_machine B_is_machine
  rw [Ex_mkF]
  cases d with
  | tup ds =>
    have ho := sok_tup.mp ok
    have it : isa "tuple" (.tup ds) = true := rfl
    cases ds with
    | nil =>
      have e : macB sg (.tup []) = false := rfl
      rw [e] at q
      simp [startE, dIsa, it, truth]
      exact q
    | cons a r =>
      simp [startE, dIsa, it, truth]
      refine allst_spec y1 y2 rfl ho.1 ho.2 ?_
      have e : macB sg (.tup (a :: r)) = (a :: r).all (stateB sg (a :: r).length) := by
        show (decide (1 ≤ (a :: r).length) && _) = _
        rw [decide_eq_true (by simp)]
        rfl
      rw [e] at q
      simp only [norm_new, deref_val, deref_new, OpQ_some, dAll_map]
      simpa using q
  | _ => simp [startE, dIsa, isa, isaS, tyName]; exact q
theorem whether_spec {k sg : Nat} {s d : D} {due nb : Bool} (hs : stg sg s) (ok : sok (k + 3) d = true) (e : macB sg d = due) (q : Q (.val (.bl true)) J) : Ex X (F_l_whether [.val s, .val d, .val (.bl due), .val (.bl nb)] J) Q := by
  subst e
  unfold F_l_whether B_l_whether
  rw [Ex_mkF]
  have jb : ∀ c, isa "bool" (.bl c) = true := fun c => rfl
  cases nb
  · simp [startE]
    refine ismach_spec hs ok ?_
    simp [dIsa, jb]
    exact q
  · simp [startE, permute]
    refine ismach_spec hs ok ?_
    simp [dIsa, jb]
    exact q
theorem holds_spec {k sg : Nat} {s d : D} {nb : Bool} (hs : stg sg s) (ok : sok (k + 3) d = true) (q : Q (.val (.bl true)) J) : Ex X (F_l_holds [.val s, .val d, .val (.bl nb)] J) Q := by
  obtain ⟨y, y1, y2⟩ := stg0 hs
  unfold F_l_holds B_l_holds
  rw [Ex_mkF]
  simp [startE, y1, y2]
  refine due_spec ok ?_
  simp
  refine isdue_spec ok ?_
  simp
  refine ask_spec hs ok ?_
  simp
  refine fits_spec (tri_ok sg d).1 (tri_ok sg d).2 ?_
  simp
  refine whether_spec hs ok rfl ?_
  simp
  exact q
end K12
set_option Elab.async false
set_option linter.all false
set_option maxRecDepth 100000
set_option maxHeartbeats 4000000
set_option autoImplicit false
namespace K12
open PySem L2 L2.Pz
variable {X : XP} {Q : HV → Jr → Prop} {T J : Jr} {jc : List D} {env : En} {b : Nat}
/-! ### what is drawn -/
abbrev gN (l : List Nat) : Prop := gW l ∧ l ∉ barred ∧ l.length ≤ 8
theorem gN7 {l : List Nat} (h : gN l) : sm 8 l := ⟨gW7 h.1, h.2.2⟩
theorem gN_pos {l : List Nat} (h : gN l) : 0 < l.length := by
  obtain ⟨c, r, rfl, _⟩ := h.1
  simp
theorem sok_sm {k n : Nat} {l : List Nat} (h : sm n l) (hn : n ≤ 100000) : sok k (dS l) = true := sok_str.mpr ⟨by have := h.2; omega, h.1.asc⟩
theorem an_lit : D.str (Str.ofString "abcdefghijklmnopqrstuvwxyz0123456789") = dS (abc ++ figs) := by with_unfolding_all rfl
theorem x_lit : D.str (Str.ofString "x") = dS [120] := by with_unfolding_all rfl
theorem barred_x : ∀ w ∈ barred, ∀ c, w.getLast? = some c → c ≠ 120 ∧ c ≠ 55 := by decide +kernel
theorem not_b {l : List Nat} {c : Nat} (h : c = 120 ∨ c = 55) : l ++ [c] ∉ barred := fun hm => by
  have := barred_x _ hm c (by simp)
  omega
theorem name_spec (hj : Jb b jc) (hb : b + 20 ≤ LIM) (h : ∀ l jc', Jb (b + 20) jc' → gN l → Q (.val (dS l)) (jc' :: T)) : Ex X (F_l_name [.jar 0] (jc :: T)) Q := by
  have hL : (LIM : Nat) = 1000000000 := rfl
  unfold F_l_name B_l_name
  rw [Ex_mkF]
  simp [startE, Sx_for, an_lit]
  refine draw_spec hj (by omega) (by decide) (by decide) fun r jc1 r0 r1 hj1 => ?_
  have ew : ∃ c, isL c = true ∧ dIx (dS (abc ++ figs)) (.int r) = some (.val (dS [c])) := by
    refine ⟨_, ?_, dIx_S (l := abc ++ figs) (by decide) r0 (show r < 36 by omega)⟩
    have hr : r.toNat < 26 := by omega
    have e : (abc ++ figs)[r.toNat]'(by show _ < 36; omega) = abc[r.toNat]'hr := List.getElem_append_left hr
    rw [e]
    exact decide_eq_true (List.getElem_mem _)
  obtain ⟨c, hc, e⟩ := ew
  simp [e]
  refine draw_spec hj1 (by omega) (by decide) (by decide) fun n jc2 n0 n1 hj2 => ?_
  have e0 : rgOk n = true := by unfold rgOk; simp; omega
  simp [e0]
  refine Sx_loop (fun i env J => ∃ z l jc', env = [some (.jar 0), some (.val (dS (abc ++ figs))), some (.val (dS l)), z] ∧ J = jc' :: T ∧ Jb (b + 2 + i) jc' ∧ gW l ∧ l.length = i + 1) ⟨_, [c], _, rfl, rfl, hj2.mono (by omega), ⟨c, [], rfl, hc, fun x hx => by cases hx⟩, rfl⟩ ?_ ?_
  · rintro i d env J hd ⟨z, l, jc', rfl, rfl, hj', hg, hl⟩
    obtain ⟨rfl, hi⟩ := rgD_get hd
    simp [tgName]
    refine draw_spec hj' (by omega) (by decide) (by decide) fun r3 jc3 k0 k1 hj3 => ?_
    obtain ⟨c, hc, e⟩ := dIx_any (z := S (abc ++ figs)) (i := r3) gC ctail (by decide) k0 k1
    have f1 : dAdd (dS l) (dS [c]) = some (.val (dS (l ++ [c]))) := dAdd_S (show _ ≤ 16777216 by simp; omega)
    simp [e, f1]
    exact ⟨_, _, ⟨rfl, rfl⟩, hj3.mono (by omega), gW_app hg fun x hx => by rw [List.mem_singleton.mp hx]; exact hc, by simp [hl]⟩
  · rintro env J ⟨z, l, jc', rfl, rfl, hj', hg, hl⟩
    rw [rgD_len] at hl hj'
    have hl8 : l.length ≤ 8 := by omega
    simp
    refine lname_spec (show _ ≤ 16777216 by omega) (gW7 hg).asc ?_
    by_cases hn : nameB (dS l) = true
    · simp [hn]
      exact h _ _ (hj'.mono (by omega)) (nameB_iff.mp hn)
    · have hn' : nameB (dS l) = false := by simpa using hn
      have hbr : l ∈ barred := Classical.byContradiction fun hb => hn (nameB_iff.mpr ⟨hg, hb, hl8⟩)
      have hl7 : l.length ≤ 7 := by
        have : ∀ w ∈ barred, w.length ≤ 7 := by decide +kernel
        exact this l hbr
      simp [hn', x_lit]
      rw [dAdd_S (show _ ≤ 16777216 by simp; omega)]
      simp
      exact h _ _ (hj'.mono (by omega)) ⟨gW_app hg fun x hx => by rw [List.mem_singleton.mp hx]; exact .inl (by decide +kernel), not_b (.inl rfl), by simp; omega⟩
/-! ### bent ones -/
def ah : List Nat := cp "abcdefgh"
theorem ah_lit : D.str (Str.ofString "abcdefgh") = dS ah := by with_unfolding_all rfl
def oddS : List Nat := cp " !#$&'()*+,-./:;<=>?\x40ABCDEFGHIJKLMNOPQRSTUVWXYZ[]^_|~"
theorem odd_lit : D.str (Str.ofString " !#$&'()*+,-./:;<=>?\x40ABCDEFGHIJKLMNOPQRSTUVWXYZ[]^_|~") = dS oddS := by with_unfolding_all rfl
theorem odd7 : ∀ c ∈ oddS, c < 128 := by decide +kernel
theorem odd_len : oddS.length ≤ 100 ∧ 0 < oddS.length := by decide +kernel
theorem sm_ah : sm 8 ah := by decide +kernel
theorem reserved_sm : ∀ w ∈ barred, sm 8 w := by decide +kernel
theorem upper_S (l : List Nat) : (Txt.upper (S l)).cps.toList = (l.map Unicode.upperOf).flatten := by
  unfold Txt.upper placed
  simp
  have e : List.mapIdx (fun (i : Nat) c => (Unicode.upperOf c).toArray) l = l.map fun c => (Unicode.upperOf c).toArray := by
    apply List.ext_getElem?
    intro i
    simp
  rw [e, List.map_map]
  rfl
theorem up_gC : ∀ c ∈ abc ++ figs, (Unicode.upperOf c).length ≤ 1 ∧ ∀ x ∈ Unicode.upperOf c, x < 128 := by decide +kernel
theorem gC_mem {c : Nat} (h : gC c) : c ∈ abc ++ figs := by
  rcases h with h | h
  · exact List.mem_append_left _ (of_decide_eq_true h)
  · exact List.mem_append_right _ (of_decide_eq_true h)
theorem upper_sm : ∀ {l : List Nat}, (∀ c ∈ l, gC c) → sm l.length (l.map Unicode.upperOf).flatten
  | [], h => ⟨(fun c hc => by cases hc), by simp⟩
  | c :: l, h => by
    have h1 := up_gC c (gC_mem (h c List.mem_cons_self))
    have h2 := upper_sm (l := l) fun x hx => h x (List.mem_cons_of_mem _ hx)
    refine ⟨fun x hx => ?_, ?_⟩
    · rw [List.map_cons, List.flatten_cons] at hx
      rcases List.mem_append.mp hx with hx | hx
      · exact h1.2 x hx
      · exact h2.1 x hx
    · rw [List.map_cons, List.flatten_cons, List.length_append, List.length_cons]
      have := h2.2
      have := h1.1
      omega
theorem upper_sok {l : List Nat} {k : Nat} (h : ∀ c ∈ l, gC c) (hl : l.length ≤ 100000) : sok k (.str (Txt.upper (S l))) = true := by
  have e : D.str (Txt.upper (S l)) = dS (l.map Unicode.upperOf).flatten := by
    rw [S_eta (Txt.upper (S l)), upper_S]
  rw [e]
  exact sok_sm (upper_sm h) hl
theorem bword_spec {l : List Nat} {way : Int} (hl : gN l) (hj : Jb b jc) (hb : b + 2 ≤ LIM) (h : ∀ hv d jc', toVal hv = some d → sok 3 d = true → Jb (b + 2) jc' → Q hv (jc' :: T)) : Ex X (F_l_bent_word [.jar 0, .val (dS l), .val (.int way)] (jc :: T)) Q := by
  have hL : (LIM : Nat) = 1000000000 := rfl
  have sl := gN7 hl
  have hlp := gN_pos hl
  have hl8 := sl.2
  have hlb : l.length ≤ big := show _ ≤ 16777216 by omega
  unfold F_l_bent_word B_l_bent_word
  rw [Ex_mkF]
  simp [startE]
  by_cases w0 : way = 0
  · simp [w0]
    exact h _ _ _ rfl (by decide +kernel) (hj.mono (by omega))
  · by_cases w1 : way = 1
    · simp [w1]
      rw [ah_lit, dAdd_S (show _ ≤ 16777216 by have := sm_ah.2; omega)]
      simp
      have s2 : sm 16 (l ++ ah) := sm_app sl sm_ah
      rw [dSl_to (show _ ≤ 16777216 by have := s2.2; omega) (by decide)]
      simp only [OpQ_some, outH_val, Ex_ok, List.take_succ_cons, List.take_length]
      exact h _ _ _ rfl (sok_sm (sm_take s2) (by decide)) (hj.mono (by omega))
    · by_cases w2 : way = 2
      · simp [w2]
        refine reserved_spec ?_
        simp
        refine draw_spec hj (by omega) (by decide) (by decide) fun r jc2 r0 r1 hj2 => ?_
        have hbm : (barred.map dS).length = 24 := rfl
        have hbl : barred.length = 24 := rfl
        have er : dIx (.lst (barred.map dS)) (.int r) = some (.val (dS (barred[r.toNat]'(by rw [hbl]; omega)))) := by
          show (atI (barred.map dS) r).map HV.val = _
          rw [atI_in r0 (by rw [hbm]; omega), List.getElem_map]
          rfl
        simp [er]
        exact h _ _ _ rfl (sok_sm (reserved_sm _ (List.getElem_mem _)) (by decide)) (hj2.mono (by omega))
      · by_cases w3 : way = 3
        · simp [w3, dLen_S hlb]
          refine draw_spec hj (by omega) (by omega) (by omega) fun r jc2 r0 r1 hj2 => ?_
          have hol := odd_len
          have hob : oddS.length ≤ big := show _ ≤ 16777216 by omega
          simp
          rw [dSl_to hlb r0]
          simp [odd_lit, dLen_S hob]
          refine draw_spec hj2 (by omega) (by omega) (by omega) fun r2 jc3 r20 r21 hj3 => ?_
          obtain ⟨c, hc, e⟩ := dIx_any (z := S oddS) (i := r2) (· < 128) odd7 hob r20 r21
          simp [e]
          rw [dAdd_S (show _ ≤ 16777216 by simp; omega)]
          simp
          rw [dSl_from hlb (by omega)]
          simp
          have s3 : sm 17 (l.take r.toNat ++ [c] ++ l.drop (r + 1).toNat) := sm_app (sm_app (sm_take sl) (sm1 hc)) (sm_drop sl)
          rw [dAdd_S (show _ ≤ 16777216 by simp; omega)]
          simp
          refine h _ (dS (l.take r.toNat ++ [c] ++ l.drop (r + 1).toNat)) _ (by simp) (sok_sm s3 (by decide)) (hj3.mono (by omega))
        · by_cases w4 : way = 4
          · simp [w4]
            refine draw_spec hj (by omega) (by decide) (by decide) fun r2 jc3 r20 r21 hj3 => ?_
            obtain ⟨c, hc, e⟩ := dIx_any (z := ("0123456789" : Str)) (i := r2) (· < 128) figs7 (by decide) r20 r21
            simp [e]
            rw [dSl_from hlb (by decide)]
            simp
            rw [dAdd_S (show _ ≤ 16777216 by simp; omega)]
            simp
            have s3 : sm 9 ([c] ++ l.drop 1) := sm_app (sm1 hc) (sm_drop sl)
            refine h _ (dS ([c] ++ l.drop 1)) _ (by simp) (sok_sm s3 (by decide)) (hj3.mono (by omega))
          · by_cases w5 : way = 5
            · simp [w5]
              exact h _ _ _ rfl rfl (hj.mono (by omega))
            · by_cases w6 : way = 6
              · simp [w6]
                refine draw_spec hj (by omega) (by decide) (by decide) fun r2 jc3 r20 r21 hj3 => ?_
                simp
                exact h _ _ _ rfl rfl (hj3.mono (by omega))
              · by_cases w7 : way = 7
                · simp [w7]
                  exact ⟨by decide, h _ _ _ rfl (sok_tup.mpr ⟨fun d hd => by rw [List.mem_singleton.mp hd]; exact sok_sm sl (by decide), by simp⟩) (hj.mono (by omega))⟩
                · by_cases w8 : way = 8
                  · simp [w8]
                    exact ⟨by decide, h _ (.lst [dS l]) _ rfl (sok_lst.mpr ⟨fun d hd => by rw [List.mem_singleton.mp hd]; exact sok_sm sl (by decide), by simp⟩) (hj.mono (by omega))⟩
                  · simp [w0, w1, w2, w3, w4, w5, w6, w7, w8, dUpper_S (show l.length ≤ 1000 by omega)]
                    exact h _ _ _ rfl (upper_sok (gW_all hl.1) (by omega)) (hj.mono (by omega))
theorem zero_lit : D.str (Str.ofString "0") = dS [48] := by with_unfolding_all rfl
theorem bnum_spec {m way : Int} (hm : 0 < m) (hm2 : m < 2 ^ 62) (hj : Jb b jc) (hb : b + 2 ≤ LIM) (h : ∀ hv d jc', toVal hv = some d → sok 2 d = true → Jb (b + 2) jc' → Q hv (jc' :: T)) : Ex X (F_l_bent_number [.jar 0, .val (.int m), .val (.int way)] (jc :: T)) Q := by
  have hL : (LIM : Nat) = 1000000000 := rfl
  unfold F_l_bent_number B_l_bent_number
  rw [Ex_mkF]
  simp [startE]
  by_cases w0 : way = 0
  · simp [w0]
    exact h _ _ _ rfl rfl (hj.mono (by omega))
  · by_cases w1 : way = 1
    · simp [w1]
      refine draw_spec hj (by omega) hm (by omega) fun r jc2 r0 r1 hj2 => ?_
      simp
      exact h _ _ _ rfl rfl (hj2.mono (by omega))
    · by_cases w2 : way = 2
      · simp [w2]
        exact h _ _ _ rfl rfl (hj.mono (by omega))
      · by_cases w3 : way = 3
        · simp [w3]
          exact h _ _ _ rfl rfl (hj.mono (by omega))
        · by_cases w4 : way = 4
          · simp [w4]
            exact h _ _ _ rfl rfl (hj.mono (by omega))
          · by_cases w5 : way = 5
            · simp [w5, zero_lit]
              exact h _ _ _ rfl (sok_sm (sm1 (c := 48) (by decide)) (by decide)) (hj.mono (by omega))
            · by_cases w6 : way = 6
              · simp [w6]
                exact ⟨by decide, h _ _ _ rfl rfl (hj.mono (by omega))⟩
              · by_cases w7 : way = 7
                · simp [w7, dPow, dInt2]
                  refine draw_spec hj (by omega) (by decide) (by decide) fun r jc2 r0 r1 hj2 => ?_
                  simp
                  exact h _ _ _ rfl rfl (hj2.mono (by omega))
                · by_cases w8 : way = 8
                  · simp [w8]
                    exact ⟨by decide, h _ (.lst [.int 0]) _ rfl rfl (hj.mono (by omega))⟩
                  · simp [w0, w1, w2, w3, w4, w5, w6, w7, w8]
                    refine draw_spec hj (by omega) (by decide) (by decide) fun r jc2 r0 r1 hj2 => ?_
                    simp
                    exact h _ _ _ rfl rfl (hj2.mono (by omega))
/-- a good state -/
structure gS (sg : Nat) (m : Int) (d : D) : Prop where
  ex : ∃ (l : List Nat) (ns : List Int), d = .tup [dS l, .tup (ns.map D.int)] ∧ gN l ∧ ns.length = sg ∧ ∀ i ∈ ns, 0 ≤ i ∧ i < m
theorem gS.state {sg : Nat} {m : Int} {d : D} (h : gS sg m d) : stateB sg m d = true := by
  obtain ⟨l, ns, rfl, h1, h2, h3⟩ := h.ex
  show (nameB (dS l) && (decide (((ns.map D.int).length : Int) = sg) && (ns.map D.int).all (numB m))) = true
  rw [nameB_iff.mpr h1, List.length_map, h2]
  simp [numB]
  exact h3
theorem sok_ints {k : Nat} {ns : List Int} (h : ns.length ≤ 1000000) : sok (k + 1) (.tup (ns.map D.int)) = true := sok_tup.mpr ⟨fun d hd => by
  obtain ⟨i, _, rfl⟩ := List.mem_map.mp hd
  cases k <;> rfl, by rw [List.length_map]; exact h⟩
theorem gS.sok {sg : Nat} {m : Int} {d : D} {k : Nat} (h : gS sg m d) (hs : sg ≤ 1000) : sok (k + 2) d = true := by
  obtain ⟨l, ns, rfl, h1, h2, h3⟩ := h.ex
  refine sok_tup.mpr ⟨fun d hd => ?_, by simp⟩
  simp at hd
  rcases hd with rfl | rfl
  · exact sok_sm (gN7 h1) (by decide)
  · exact sok_ints (by omega)
theorem sok2 {k : Nat} {a c : D} (ha : sok k a = true) (hc : sok k c = true) : sok (k + 1) (.tup [a, c]) = true := sok_tup.mpr ⟨fun d hd => by
  simp at hd
  rcases hd with rfl | rfl
  · exact ha
  · exact hc, by simp⟩
def zz : List Nat := cp "0000000"
theorem zz_lit : D.str (Str.ofString "0000000") = dS zz := by with_unfolding_all rfl
theorem sm_zz : sm 7 zz := by decide +kernel
theorem dAdd_tt {xs ys : List D} (h : xs.length + ys.length ≤ 16777216) : dAdd (.tup xs) (.tup ys) = some (.val (.tup (xs ++ ys))) := by
  show (if xs.length + ys.length ≤ big then some (HV.val (.tup (xs ++ ys))) else none) = _
  rw [if_pos h]
theorem dSlt_to {ds : List D} {i : Int} (h0 : 0 ≤ i) : dSl (.tup ds) none (some i) = some (.val (.tup (ds.take i.toNat))) := by
  show some (HV.val (.tup (cutD _ _ _))) = _
  rw [cutD_to h0]
theorem dSlt_from {ds : List D} {i : Int} (h0 : 0 ≤ i) : dSl (.tup ds) (some i) none = some (.val (.tup (ds.drop i.toNat))) := by
  show some (HV.val (.tup (cutD _ _ _))) = _
  rw [cutD_from h0]
theorem sok_cat {k : Nat} {xs ys zs : List D} (h1 : ∀ d ∈ xs, sok k d = true) (h2 : ∀ d ∈ ys, sok k d = true) (h3 : ∀ d ∈ zs, sok k d = true) (hl : (xs ++ ys ++ zs).length ≤ 1000000) : sok (k + 1) (.tup (xs ++ ys ++ zs)) = true := sok_tup.mpr ⟨fun d hd => by
  rcases List.mem_append.mp hd with hd | hd
  · rcases List.mem_append.mp hd with hd | hd
    · exact h1 d hd
    · exact h2 d hd
  · exact h3 d hd, hl⟩
theorem bstate_spec {sg : Nat} {st : D} {m m' way : Int} (hs : gS sg m' st) (hsg : 1 ≤ sg ∧ sg ≤ 5) (hm : 0 < m) (hm2 : m < 2 ^ 62) (hj : Jb b jc) (hb : b + 4 ≤ LIM) (h : ∀ hv d jc', toVal hv = some d → sok 4 d = true → Jb (b + 4) jc' → Q hv (jc' :: T)) : Ex X (F_l_bent_state [.jar 0, .val st, .val (.int m), .val (.int way)] (jc :: T)) Q := by
  have hL : (LIM : Nat) = 1000000000 := rfl
  obtain ⟨l, ns, rfl, h1, h2, h3⟩ := hs.ex
  have i0 : dIx (.tup [dS l, .tup (ns.map D.int)]) (.int 0) = some (.val (dS l)) := rfl
  have i1 : dIx (.tup [dS l, .tup (ns.map D.int)]) (.int 1) = some (.val (.tup (ns.map D.int))) := rfl
  have sl : ∀ k, sok k (dS l) = true := fun k => sok_sm (gN7 h1) (by decide)
  have sn : ∀ k, sok (k + 1) (.tup (ns.map D.int)) = true := fun k => sok_ints (by omega)
  unfold F_l_bent_state B_l_bent_state
  rw [Ex_mkF]
  simp [startE, i0, i1]
  by_cases w0 : way < 10
  · simp [w0]
    refine bword_spec h1 hj (by omega) fun hv d jc2 hd hk hj2 => ?_
    simp [hd]
    exact ⟨by decide, h _ _ _ rfl (sok2 hk (sn 2)) (hj2.mono (by omega))⟩
  · by_cases w1 : way < 20
    · simp [w0, w1]
      refine draw_spec hj (by omega) (by omega) (by omega) fun r jc2 r0 r1 hj2 => ?_
      have snm := (sok_tup.mp (sn 1)).1
      have hnl : (ns.map D.int).length ≤ 5 := by rw [List.length_map]; omega
      generalize ns.map D.int = nd at snm hnl
      simp
      rw [dSlt_to r0]
      simp
      refine bnum_spec hm hm2 hj2 (by omega) fun hv d jc3 hd hk hj3 => ?_
      simp [hd]
      refine ⟨by decide, ?_⟩
      rw [dAdd_tt (by simp; omega)]
      simp
      rw [dSlt_from (by omega)]
      simp
      rw [dAdd_tt (by simp; omega)]
      simp
      refine ⟨by decide, h _ (.tup [dS l, .tup (nd.take r.toNat ++ [d] ++ nd.drop (r + 1).toNat)]) _ (by simp) (sok2 (sl 3) ?_) (hj3.mono (by omega))⟩
      refine sok_cat (fun d hd => sok_mono 1 d (snm d (List.mem_of_mem_take hd)) 2 (by decide)) (fun d' hd => ?_) (fun d hd => sok_mono 1 d (snm d (List.mem_of_mem_drop hd)) 2 (by decide)) (by simp; omega)
      rw [List.mem_singleton.mp hd]
      exact hk
    · by_cases w2 : way = 20
      · simp [w2]
        exact ⟨by decide, h _ (.lst [dS l, .tup (ns.map D.int)]) _ rfl (sok_lst.mpr ⟨fun d hd => by
          simp at hd
          rcases hd with rfl | rfl
          · exact sl 3
          · exact sn 2, by simp⟩) (hj.mono (by omega))⟩
      · by_cases w3 : way = 21
        · simp [w3]
          exact ⟨by decide, h _ _ _ rfl (sok_tup.mpr ⟨fun d hd => by rw [List.mem_singleton.mp hd]; exact sl 3, by simp⟩) (hj.mono (by omega))⟩
        · by_cases w4 : way = 22
          · simp [w4]
            exact ⟨by decide, h _ _ _ rfl (sok_tup.mpr ⟨fun d hd => by
              simp at hd
              rcases hd with rfl | rfl | rfl
              · exact sl 3
              · exact sn 2
              · rfl, by simp⟩) (hj.mono (by omega))⟩
          · by_cases w5 : way = 23
            · simp [w5, dList]
              exact ⟨by decide, h _ _ _ rfl (sok2 (sl 3) (sok_lst.mpr ⟨(sok_tup.mp (sn 2)).1, by rw [List.length_map]; omega⟩)) (hj.mono (by omega))⟩
            · by_cases w6 : way = 24
              · simp [w6]
                rw [dSlt_to (by omega)]
                simp only [OpQ_some, toVal_val, Ex_items0, outH_val, Ex_ok, List.take_succ_cons, List.take_length]
                exact ⟨by decide, h _ _ _ rfl (sok2 (sl 3) (sok_tup.mpr ⟨fun d hd => (sok_tup.mp (sn 2)).1 d (List.mem_of_mem_take hd), by rw [List.length_take]; simp; omega⟩)) (hj.mono (by omega))⟩
              · by_cases w7 : way = 25
                · simp [w7]
                  cases ns with
                  | nil => simp at h2; omega
                  | cons n0 nr =>
                    have e0 : dIx (.tup ((n0 :: nr).map D.int)) (.int 0) = some (.val (.int n0)) := by
                      show (atI (D.int n0 :: nr.map D.int) 0).map HV.val = _
                      rw [atI_in (by decide) (show (0 : Int) < ((D.int n0 :: nr.map D.int).length : Int) by rw [List.length_cons]; omega)]
                      rfl
                    simp only [e0, OpQ_some, toVal_val]
                    rw [dAdd_tt (by simp at h2; simp; omega)]
                    simp only [OpQ_some, toVal_val]
                    have hnr : nr.length ≤ 10 := by simp at h2; omega
                    refine ⟨by decide, by decide, h _ _ _ rfl (sok2 (sl 3) (sok_tup.mpr ⟨fun d hd => ?_, by simp; omega⟩)) (hj.mono (by omega))⟩
                    rcases List.mem_append.mp hd with hd | hd
                    · exact (sok_tup.mp (sn 2)).1 d hd
                    · rw [List.mem_singleton.mp hd]; rfl
                · by_cases w8 : way = 26
                  · simp [w8]
                    exact ⟨by decide, h _ _ _ rfl (sok2 (sn 2) (sl 3)) (hj.mono (by omega))⟩
                  · simp [w0, w1, w2, w3, w4, w5, w6, w7, w8]
                    rw [zz_lit, dSl_to (by decide) (by omega)]
                    simp only [OpQ_some, toVal_val]
                    exact ⟨by decide, h _ _ _ rfl (sok2 (sl 3) (sok_sm (sm_take sm_zz) (by decide))) (hj.mono (by omega))⟩
end K12
set_option Elab.async false
set_option linter.all false
set_option maxRecDepth 100000
set_option maxHeartbeats 4000000
set_option autoImplicit false
namespace K12
open PySem L2 L2.Pz
variable {X : XP} {Q : HV → Jr → Prop} {T J : Jr} {jc : List D} {env : En} {b : Nat}
/-! ### copies -/
abbrev Same (h : HV) (d : D) : Prop := norm h = .val d ∧ toVal h = some d ∧ isExc h = false
theorem copies_spec {f : Nat} {ds : List D} (ih : ∀ d ∈ ds, ∀ (X : XP) (Q : HV → Jr → Prop) (J : Jr), (∀ h, Same h d → Q h J) → Ex X (R_l_plain_copy f [.val d] J) Q) {d0 : D} {e1 : Option HV} (hl : ds.length ≤ 1000000)
    (hg : itemsOf (.val d0) = some ds) {X : XP} {Q : HV → Jr → Prop} {J : Jr} (q : Q (.new ds) J) :
    Ex X (eLc (iAny (eName 0)) (tgName 1) bYes (eCall (R_l_plain_copy f) [eName 1]) [1] [some (.val d0), e1] J) Q := by
  refine Ex_lcX ?_
  simp [hg]
  refine Ex_lcLoop (fun i acc J' => acc = ds.take i ∧ J' = J) ⟨rfl, rfl⟩ ?_ ?_
  · rintro i d acc J' hd ⟨rfl, rfl⟩
    have hi : i < ds.length := (List.getElem?_eq_some_iff.mp hd).1
    simp [tgName, wipeE]
    refine ih d (List.mem_of_getElem? hd) _ _ _ fun h hs => ?_
    rw [hs.2.1]
    simp
    refine ⟨show _ < 16777216 by omega, ?_⟩
    rw [List.take_add_one, hd]
    rfl
  · rintro acc J' ⟨rfl, rfl⟩
    rw [List.take_length]
    exact q
theorem copy_leaf {f : Nat} {d : D} (h1 : isa "list" d = false) (h2 : isa "tuple" d = false) (q : Q (.val d) J) : Ex X (R_l_plain_copy (f + 1) [.val d] J) Q := by
  show Ex X (mkF 2 (B_l_plain_copy (R_l_plain_copy f)) _ _) _
  unfold B_l_plain_copy
  rw [Ex_mkF]
  simp [startE, dIsa, h1, h2]
  exact q
theorem copy_spec : ∀ (f k : Nat) (d : D) (X : XP) (Q : HV → Jr → Prop) (J : Jr), k ≤ f → sok k d = true → (∀ h, Same h d → Q h J) → Ex X (R_l_plain_copy (f + 1) [.val d] J) Q
  | f, k, .str x, X, Q, J, hk, h, q => copy_leaf rfl rfl (q _ ⟨rfl, rfl, rfl⟩)
  | f, k, .int x, X, Q, J, hk, h, q => copy_leaf rfl rfl (q _ ⟨rfl, rfl, rfl⟩)
  | f, k, .bl x, X, Q, J, hk, h, q => copy_leaf rfl rfl (q _ ⟨rfl, rfl, rfl⟩)
  | f, k, .non, X, Q, J, hk, h, q => copy_leaf rfl rfl (q _ ⟨rfl, rfl, rfl⟩)
  | f, 0, .tup ds, X, Q, J, hk, h, q => by cases h
  | f, 0, .lst ds, X, Q, J, hk, h, q => by cases h
  | 0, k + 1, .tup ds, X, Q, J, hk, h, q => by omega
  | 0, k + 1, .lst ds, X, Q, J, hk, h, q => by omega
  | f + 1, k + 1, .tup ds, X, Q, J, hk, h, q => by
    have h := sok_tup.mp h
    show Ex X (mkF 2 (B_l_plain_copy (R_l_plain_copy (f + 1))) _ _) _
    unfold B_l_plain_copy
    rw [Ex_mkF]
    have i2 : isa "tuple" (.tup ds) = true := rfl
    simp [startE, dIsa, i2]
    refine copies_spec (fun d hd X Q J q => copy_spec f k d X Q J (by omega) (h.1 d hd) q) h.2 rfl ?_
    simp [dTuple]
    exact q _ ⟨rfl, rfl, rfl⟩
  | f + 1, k + 1, .lst ds, X, Q, J, hk, h, q => by
    have h := sok_lst.mp h
    show Ex X (mkF 2 (B_l_plain_copy (R_l_plain_copy (f + 1))) _ _) _
    unfold B_l_plain_copy
    rw [Ex_mkF]
    have i1 : isa "list" (.lst ds) = true := rfl
    have i2 : isa "tuple" (.lst ds) = false := rfl
    simp [startE, dIsa, i1, i2]
    refine copies_spec (fun d hd X Q J q => copy_spec f k d X Q J (by omega) (h.1 d hd) q) h.2 rfl ?_
    simp
    exact q _ ⟨rfl, rfl, rfl⟩
theorem dEq_non : dEq .non .non = some (.val (.bl true)) := by with_unfolding_all rfl
theorem same_leaf {f : Nat} {d : D} (h1 : isa "list" d = false) (h2 : isa "tuple" d = false) (e : dEq d d = some (.val (.bl true))) (q : Q (.val (.bl true)) J) : Ex X (R_l_plain_same (f + 1) [.val d, .val d] J) Q := by
  show Ex X (mkF 3 (B_l_plain_same (R_l_plain_same f)) _ _) _
  unfold B_l_plain_same
  rw [Ex_mkF]
  simp [startE, dIsa2, dIsa, h1, h2, e]
  exact q
theorem same_spec : ∀ (f k : Nat) (d : D) (X : XP) (Q : HV → Jr → Prop) (J : Jr), k ≤ f → sok k d = true → Q (.val (.bl true)) J → Ex X (R_l_plain_same (f + 1) [.val d, .val d] J) Q
  | f, k, .str x, X, Q, J, hk, h, q => same_leaf rfl rfl (by
      have := (sok_str (k := k) (l := x.cps.toList)).mp h
      have e := dEq_S this.2 this.2
      simpa using e) q
  | f, k, .int x, X, Q, J, hk, h, q => same_leaf rfl rfl (by simp) q
  | f, k, .bl x, X, Q, J, hk, h, q => same_leaf rfl rfl (by simp) q
  | f, k, .non, X, Q, J, hk, h, q => same_leaf rfl rfl dEq_non q
  | f, 0, .tup ds, X, Q, J, hk, h, q => by cases h
  | f, 0, .lst ds, X, Q, J, hk, h, q => by cases h
  | 0, k + 1, .tup ds, X, Q, J, hk, h, q => by omega
  | 0, k + 1, .lst ds, X, Q, J, hk, h, q => by omega
  | f + 1, k + 1, .tup ds, X, Q, J, hk, h, q => by
    have h := sok_tup.mp h
    have e0 : rgOk ds.length = true := by unfold rgOk; simp; have := h.2; omega
    show Ex X (mkF 3 (B_l_plain_same (R_l_plain_same (f + 1))) _ _) _
    unfold B_l_plain_same
    rw [Ex_mkF]
    simp [startE, dIsa2, dIsa, isa, isaS, tyName, Sx_for, e0]
    refine Sx_loop (fun i env J' => ∃ z, env = [some (.val (.tup ds)), some (.val (.tup ds)), z] ∧ J' = J) ⟨_, rfl, rfl⟩ ?_ ?_
    · rintro i d env J' hd ⟨z, rfl, rfl⟩
      obtain ⟨rfl, hi⟩ := rgD_get hd
      have hat := atI_nat (xs := ds) (j := i) (v := ds[i]) (by simp [hi])
      simp [tgName, dIx, hat]
      refine same_spec f k _ _ _ _ (by omega) (h.1 _ (List.getElem_mem hi)) ?_
      simp
    · rintro env J' ⟨z, rfl, rfl⟩
      simp
      exact q
  | f + 1, k + 1, .lst ds, X, Q, J, hk, h, q => by
    have h := sok_lst.mp h
    have e0 : rgOk ds.length = true := by unfold rgOk; simp; have := h.2; omega
    show Ex X (mkF 3 (B_l_plain_same (R_l_plain_same (f + 1))) _ _) _
    unfold B_l_plain_same
    rw [Ex_mkF]
    simp [startE, dIsa2, dIsa, isa, isaS, tyName, Sx_for, e0]
    refine Sx_loop (fun i env J' => ∃ z, env = [some (.val (.lst ds)), some (.val (.lst ds)), z] ∧ J' = J) ⟨_, rfl, rfl⟩ ?_ ?_
    · rintro i d env J' hd ⟨z, rfl, rfl⟩
      obtain ⟨rfl, hi⟩ := rgD_get hd
      have hat := atI_nat (xs := ds) (j := i) (v := ds[i]) (by simp [hi])
      simp [tgName, dIx, hat]
      refine same_spec f k _ _ _ _ (by omega) (h.1 _ (List.getElem_mem hi)) ?_
      simp
    · rintro env J' ⟨z, rfl, rfl⟩
      simp
      exact q
/-! ### machines -/
def gM (sg : Nat) (ds : List D) : Prop := ∀ d ∈ ds, gS sg ds.length d
theorem lcN_spec {m : Int} {sg : Nat} {e3 e4 e5 e6 : Option HV} (hj : Jb b jc) (hb : b + sg ≤ LIM) (hsg : sg ≤ 5) (hm : 0 < m) (hm2 : m < 2 ^ 62) (h : ∀ (ns : List Int) jc', Jb (b + sg) jc' → ns.length = sg → (∀ i ∈ ns, 0 ≤ i ∧ i < m) → Q (.new (ns.map D.int)) (jc' :: T)) :
    Ex X (eLc (iRange1 (eName 1)) (tgName 6) bYes (eCall F_l_draw [eName 0, eName 2]) [6] [some (.jar 0), some (.val (.int sg)), some (.val (.int m)), e3, e4, e5, e6] (jc :: T)) Q := by
  have hL : (LIM : Nat) = 1000000000 := rfl
  refine Ex_lcX ?_
  have e0 : rgOk (sg : Int) = true := by unfold rgOk; simp; omega
  simp [wipeE, e0]
  refine Ex_lcLoop (fun i acc J' => ∃ (ns : List Int) (jc' : List D), acc = ns.map D.int ∧ J' = jc' :: T ∧ Jb (b + i) jc' ∧ ns.length = i ∧ (∀ i ∈ ns, 0 ≤ i ∧ i < m)) ⟨[], jc, rfl, rfl, hj, rfl, (fun c hc => by cases hc)⟩ ?_ ?_
  · rintro i d acc J' hd ⟨ns, jc', rfl, rfl, hj', hl, hr⟩
    obtain ⟨rfl, hi⟩ := rgD_get hd
    simp [tgName]
    refine draw_spec hj' (by omega) hm (by omega) fun r jc2 r0 r1 hj2 => ?_
    simp
    refine ⟨show _ < 16777216 by omega, ns ++ [r], by simp, hj2.mono (by omega), by simp [hl], fun z hz => ?_⟩
    rcases List.mem_append.mp hz with hz | hz
    · exact hr z hz
    · rw [List.mem_singleton.mp hz]; exact ⟨r0, r1⟩
  · rintro acc J' ⟨ns, jc', rfl, rfl, hj', hl, hr⟩
    rw [rgD_len] at hl hj'
    exact h ns jc' hj' hl hr
theorem machine_spec {sg m : Nat} (hj : Jb b jc) (hb : b + 200 ≤ LIM) (hsg : 1 ≤ sg ∧ sg ≤ 5) (hm : 1 ≤ m ∧ m ≤ 4) (h : ∀ ds jc', Jb (b + 200) jc' → ds.length = m → gM sg ds → Q (.val (.tup ds)) (jc' :: T)) : Ex X (F_l_machine [.jar 0, .val (.int sg), .val (.int m)] (jc :: T)) Q := by
  have hL : (LIM : Nat) = 1000000000 := rfl
  unfold F_l_machine B_l_machine
  rw [Ex_mkF]
  have e0 : rgOk (m : Int) = true := by unfold rgOk; simp; omega
  simp [startE, Sx_for, e0]
  refine Sx_loop (fun i env J => ∃ x4 x5 x6 jc' out, env = [some (.jar 0), some (.val (.int sg)), some (.val (.int m)), some (.jar (T.length + 1)), x4, x5, x6] ∧ J = jc' :: (T ++ [out]) ∧ Jb (b + 40 * i) jc' ∧ out.length = i ∧ ∀ d ∈ out, gS sg m d) ⟨_, _, _, jc, [], rfl, by simp, hj, rfl, (fun d hd => by cases hd)⟩ ?_ ?_
  · rintro i d env J hd ⟨x4, x5, x6, jc', out, rfl, rfl, hj', hl, ho⟩
    obtain ⟨rfl, hi⟩ := rgD_get hd
    have hi : i < m := by simpa using hi
    simp [tgName]
    refine lcN_spec (T := T ++ [out]) hj' (by omega) hsg.2 (by omega) (by omega) fun ns jc2 hj2 hn hr => ?_
    simp
    refine name_spec (T := T ++ [out]) hj2 (by omega) fun l jc3 hj3 hg => ?_
    simp [dTuple]
    refine ⟨by decide, show _ < 16777216 by omega, _, _, ⟨rfl, rfl⟩, hj3.mono (by omega), by simp [hl], fun d hd => ?_⟩
    rcases List.mem_append.mp hd with hd | hd
    · exact ho d hd
    · rw [List.mem_singleton.mp hd]; exact ⟨⟨l, ns, rfl, hg, hn, hr⟩⟩
  · rintro env J ⟨x4, x5, x6, jc', out, rfl, rfl, hj', hl, ho⟩
    rw [rgD_len] at hl hj'
    have hl : out.length = m := by simpa using hl
    simp [dTuple]
    refine h _ _ (hj'.mono (by simp; omega)) hl fun d hd => by rw [hl]; exact ho d hd
end K12
set_option Elab.async false
set_option linter.all false
set_option maxRecDepth 100000
set_option maxHeartbeats 4000000
set_option autoImplicit false
namespace K12
open PySem L2 L2.Pz
variable {X : XP} {Q : HV → Jr → Prop} {T J : Jr} {jc : List D} {env : En} {b : Nat}
/-! ### settings -/
structure gSet (sg : Nat) (s : D) : Prop where
  ex : ∃ (ws : List (List Nat)) (x : D), s = .tup [.tup (ws.map dS), x] ∧ ws.length = sg ∧ ∀ l ∈ ws, gN l
theorem gSet.stg {sg : Nat} {s : D} (h : gSet sg s) : stg sg s := by
  obtain ⟨ws, x, rfl, h1, h2⟩ := h.ex
  exact ⟨ws.map dS, x, rfl, by rw [List.length_map]; exact h1⟩
theorem lcP_spec {s : Str} {n : Nat} {e0 e2 e3 e4 e5 e6 e7 e8 e9 e10 : Option HV} (hn : n ≤ 5) (q : ∀ ds : List D, ds.length ≤ 5 → Q (.new ds) J) :
    Ex X (eLc (iRange1 (eName 1)) (tgName 5) bYes (eTup [eC (.str s), eName 5]) [5] [e0, some (.val (.int n)), e2, e3, e4, e5, e6, e7, e8, e9, e10] J) Q := by
  refine Ex_lcX ?_
  have er : rgOk (n : Int) = true := by unfold rgOk; simp; omega
  simp [wipeE, er]
  refine Ex_lcLoop (fun i acc J' => acc.length ≤ i ∧ J' = J) ⟨by simp, rfl⟩ ?_ ?_
  · rintro i d acc J' hd ⟨ha, rfl⟩
    obtain ⟨rfl, hi⟩ := rgD_get hd
    simp [tgName]
    exact ⟨by decide, show _ < 16777216 by omega, by omega⟩
  · rintro acc J' ⟨ha, rfl⟩
    rw [rgD_len] at ha
    exact q acc (by omega)
theorem lcQ_spec {s : Str} {n at' : Nat} {e0 e2 e3 e4 e6 e7 e8 e9 e10 : Option HV} (hn : n ≤ 5) (ha : at' ≤ 5) (q : ∀ ds : List D, ds.length ≤ 5 → Q (.new ds) J) :
    Ex X (eLc (iRange2 (eBin dAdd (eName 5) (eC (.int 1))) (eName 1)) (tgName 10) bYes (eTup [eC (.str s), eName 5, eName 10]) [10] [e0, some (.val (.int n)), e2, e3, e4, some (.val (.int at')), e6, e7, e8, e9, e10] J) Q := by
  refine Ex_lcX ?_
  have er : (rgOk ((at' : Int) + 1) && rgOk (n : Int)) = true := by unfold rgOk; simp; omega
  simp only [Bool.and_eq_true] at er
  simp [wipeE, er]
  refine Ex_lcLoop (fun i acc J' => acc.length ≤ i ∧ J' = J) ⟨by simp, rfl⟩ ?_ ?_
  · rintro i d acc J' hd ⟨ha, rfl⟩
    obtain ⟨rfl, hi⟩ := rgD_get hd
    simp [tgName]
    exact ⟨by decide, show _ < 16777216 by omega, by omega⟩
  · rintro acc J' ⟨ha, rfl⟩
    rw [rgD_len] at ha
    exact q acc (by omega)
section
variable {R : Jr} {x y z out : List D}
theorem g2a : (jc :: (R ++ [x, y]))[R.length + 1]? = some x := by simp
theorem g2b : (jc :: (R ++ [x, y]))[R.length + 2]? = some y := by
  have : R.length + 2 = (R.length + 1) + 1 := rfl
  rw [this, List.getElem?_cons_succ, List.getElem?_append_right (by omega)]
  simp
theorem s2a : (jc :: (R ++ [x, y])).set (R.length + 1) z = jc :: (R ++ [z, y]) := by simp
theorem s2b : (jc :: (R ++ [x, y])).set (R.length + 2) z = jc :: (R ++ [x, z]) := by
  have : R.length + 2 = (R.length + 1) + 1 := rfl
  rw [this, List.set_cons_succ, List.set_append_right _ _ (by omega)]
  simp
end
def heads : List Nat := cp "rbdkmpt"
theorem heads_lit : D.str (Str.ofString "rbdkmpt") = dS heads := by with_unfolding_all rfl
theorem heads_L : ∀ c ∈ heads, isL c = true := by decide +kernel
theorem seven_lit : D.str (Str.ofString "7") = dS [55] := by with_unfolding_all rfl
theorem gW_take {l : List Nat} {n : Nat} (h : gW l) (hn : 0 < n) : gW (l.take n) := by
  obtain ⟨c, r, rfl, h1, h2⟩ := h
  obtain ⟨m, rfl⟩ : ∃ m, n = m + 1 := ⟨n - 1, by omega⟩
  exact ⟨c, r.take m, rfl, h1, fun x hx => h2 x (List.mem_of_mem_take hx)⟩
theorem dPop_in {ds : List D} {i : Int} {k : Nat} {J : Jr} (hJ : J[k]? = some ds) (h0 : 0 ≤ i) (h1 : i < ds.length) (hl : ds.length ≤ 1000) : ∃ d, popEnd J k i = .ok (.val d) (J.set k (ds.eraseIdx i.toNat)) := by
  have hi : i.toNat < ds.length := by omega
  refine ⟨ds[i.toNat], ?_⟩
  unfold popEnd
  rw [hJ]
  dsimp only
  rw [if_pos (by omega), seqIndex_of h0 h1]
  dsimp only
  rw [List.getElem?_eq_getElem hi]
theorem Ex_pop {i : Nat} {f : EF} {Q : HV → Jr → Prop} : Ex X (ePop i f env J) Q ↔ jarQ env[i]? fun k => Ex X (f env J) fun h J => intQ h fun j => Ex X (popEnd J k j) Q := by
  unfold ePop
  cases e : env[i]? with
  | none => simp only [Ex_eq]; exact Iff.rfl
  | some o =>
    cases o with
    | none => simp only [Ex_eq]; exact Iff.rfl
    | some z =>
      cases z with
      | val d => simp only [Ex_eq]; exact Iff.rfl
      | new d => simp only [Ex_eq]; exact Iff.rfl
      | exc k => simp only [Ex_eq]; exact Iff.rfl
      | jar k =>
        show Ex X ((f env J).bind _) Q ↔ _
        rw [Ex_bind]
        refine Ex_iff fun h J => ?_
        cases h with
        | val d => cases d <;> first | exact Iff.rfl | (simp only [Ex_eq]; exact Iff.rfl)
        | jar k => simp only [Ex_eq]; exact Iff.rfl
        | exc k => simp only [Ex_eq]; exact Iff.rfl
        | new k => simp only [Ex_eq]; exact Iff.rfl
theorem setting_spec {sg : Nat} (hsg : 1 ≤ sg ∧ sg ≤ 5) (hj : Jb b jc) (hb : b + 200 ≤ LIM) (h : ∀ s jc', Jb (b + 200) jc' → gSet sg s → Q (.val s) (jc' :: T)) : Ex X (F_l_setting [.jar 0, .val (.int sg)] (jc :: T)) Q := by
  have hL : (LIM : Nat) = 1000000000 := rfl
  unfold F_l_setting B_l_setting
  rw [Ex_mkF]
  have er : rgOk (sg : Int) = true := by unfold rgOk; simp; omega
  simp [startE, Sx_for, heads_lit]
  refine draw_spec hj (by omega) (by decide) (by decide) fun sh jc1 sh0 sh1 hj1 => ?_
  simp [er]
  refine Sx_loop (fun i env J => ∃ x5 x9 jc' ws, env = [some (.jar 0), some (.val (.int sg)), some (.val (dS heads)), some (.val (.int sh)), some (.jar (T.length + 1)), x5, none, none, none, x9, none] ∧ J = jc' :: (T ++ [ws.map dS]) ∧ Jb (b + 1 + 21 * i) jc' ∧ ws.length = i ∧ ∀ l ∈ ws, gN l) ⟨_, _, jc1, [], rfl, by simp, hj1, rfl, (fun d hd => by cases hd)⟩ ?_ ?_
  · rintro i d env J hd ⟨x5, x9, jc', ws, rfl, rfl, hj', hl, hw⟩
    obtain ⟨rfl, hi⟩ := rgD_get hd
    have hi : i < sg := by simpa using hi
    have e9 : ∃ c, isL c = true ∧ dIx (dS heads) (.int ((sh + (i : Int)) % 7)) = some (.val (dS [c])) :=
      dIx_any (z := S heads) (fun c => isL c = true) heads_L (by decide +kernel) (Int.emod_nonneg _ (by decide)) (Int.emod_lt_of_pos _ (by decide))
    obtain ⟨c, hc, e9⟩ := e9
    simp [tgName, dMod, dInt2, e9]
    refine draw_spec (T := T ++ [ws.map dS]) hj' (by omega) (by decide) (by decide) fun r jc2 r0 r1 hj2 => ?_
    have gc : gW [c] := ⟨c, [], rfl, hc, fun x hx => by cases hx⟩
    by_cases hr : 0 < r
    · simp [hr]
      refine name_spec (T := T ++ [ws.map dS]) hj2 (by omega) fun l0 jc3 hj3 hg0 => ?_
      have hl0 := hg0.2.2
      simp
      rw [dAdd_S (show _ ≤ 16777216 by simp; omega)]
      have gw0 : gW ([c] ++ l0) := gW_app gc (gW_all hg0.1)
      have wl0 : ([c] ++ l0).length ≤ 9 := by rw [List.length_append]; simp; omega
      generalize [c] ++ l0 = w0 at gw0 wl0
      simp [dLen_S (l := w0) (show _ ≤ 16777216 by have := wl0; omega)]
      by_cases h8 : (8 : Int) < (w0).length
      · simp [h8]
        rw [dSl_to (show _ ≤ 16777216 by have := wl0; omega) (by decide)]
        simp
        refine lname_spec (show _ ≤ 16777216 by have := (show (List.take 8 (w0)).length ≤ 9 by rw [List.length_take]; omega); omega) (gW7 (gW_take (n := 8) gw0 (by decide))).asc ?_
        by_cases hn : nameB (dS (List.take 8 (w0))) = true
        · simp [hn]
          refine ⟨show _ < 16777216 by omega, _, ws ++ [(List.take 8 (w0))], ⟨rfl, by simp⟩, hj3.mono (by omega), by simp [hl], fun l hl2 => ?_⟩
          rcases List.mem_append.mp hl2 with hl2 | hl2
          · exact hw l hl2
          · rw [List.mem_singleton.mp hl2]; exact nameB_iff.mp hn
        · have hn' : nameB (dS (List.take 8 (w0))) = false := by simpa using hn
          simp [hn']
          rw [dSl_to (show _ ≤ 16777216 by have := (show (List.take 8 (w0)).length ≤ 9 by rw [List.length_take]; omega); omega) (by decide)]
          simp [seven_lit]
          rw [dAdd_S (show _ ≤ 16777216 by have := (show (List.take 8 (w0)).length ≤ 9 by rw [List.length_take]; omega); simp; omega)]
          simp
          refine ⟨show _ < 16777216 by omega, _, ws ++ [((List.take 8 (w0))).take 7 ++ [55]], ⟨rfl, by simp⟩, hj3.mono (by omega), by simp [hl], fun l hl2 => ?_⟩
          rcases List.mem_append.mp hl2 with hl2 | hl2
          · exact hw l hl2
          · rw [List.mem_singleton.mp hl2]
            exact ⟨gW_app (gW_take (gW_take (n := 8) gw0 (by decide)) (by decide)) fun x hx => by rw [List.mem_singleton.mp hx]; exact .inr (by decide +kernel), not_b (.inr rfl), by simp; omega⟩
      · simp [h8]
        refine lname_spec (show _ ≤ 16777216 by have := wl0; omega) (gW7 gw0).asc ?_
        by_cases hn : nameB (dS (w0)) = true
        · simp [hn]
          refine ⟨show _ < 16777216 by omega, _, ws ++ [(w0)], ⟨rfl, by simp⟩, hj3.mono (by omega), by simp [hl], fun l hl2 => ?_⟩
          rcases List.mem_append.mp hl2 with hl2 | hl2
          · exact hw l hl2
          · rw [List.mem_singleton.mp hl2]; exact nameB_iff.mp hn
        · have hn' : nameB (dS (w0)) = false := by simpa using hn
          simp [hn']
          rw [dSl_to (show _ ≤ 16777216 by have := wl0; omega) (by decide)]
          simp [seven_lit]
          rw [dAdd_S (show _ ≤ 16777216 by have := wl0; simp; omega)]
          simp
          refine ⟨show _ < 16777216 by omega, _, ws ++ [((w0)).take 7 ++ [55]], ⟨rfl, by simp⟩, hj3.mono (by omega), by simp [hl], fun l hl2 => ?_⟩
          rcases List.mem_append.mp hl2 with hl2 | hl2
          · exact hw l hl2
          · rw [List.mem_singleton.mp hl2]
            exact ⟨gW_app (gW_take gw0 (by decide)) fun x hx => by rw [List.mem_singleton.mp hx]; exact .inr (by decide +kernel), not_b (.inr rfl), by simp; omega⟩
    · simp [hr]
      have wl0 : ([c] : List Nat).length ≤ 9 := by simp
      generalize [c] = w0 at gc wl0
      simp [dLen_S (l := w0) (show _ ≤ 16777216 by have := wl0; omega)]
      by_cases h8 : (8 : Int) < (w0).length
      · simp [h8]
        rw [dSl_to (show _ ≤ 16777216 by have := wl0; omega) (by decide)]
        simp
        refine lname_spec (show _ ≤ 16777216 by have := (show (List.take 8 (w0)).length ≤ 9 by rw [List.length_take]; omega); omega) (gW7 (gW_take (n := 8) gc (by decide))).asc ?_
        by_cases hn : nameB (dS (List.take 8 (w0))) = true
        · simp [hn]
          refine ⟨show _ < 16777216 by omega, _, ws ++ [(List.take 8 (w0))], ⟨rfl, by simp⟩, hj2.mono (by omega), by simp [hl], fun l hl2 => ?_⟩
          rcases List.mem_append.mp hl2 with hl2 | hl2
          · exact hw l hl2
          · rw [List.mem_singleton.mp hl2]; exact nameB_iff.mp hn
        · have hn' : nameB (dS (List.take 8 (w0))) = false := by simpa using hn
          simp [hn']
          rw [dSl_to (show _ ≤ 16777216 by have := (show (List.take 8 (w0)).length ≤ 9 by rw [List.length_take]; omega); omega) (by decide)]
          simp [seven_lit]
          rw [dAdd_S (show _ ≤ 16777216 by have := (show (List.take 8 (w0)).length ≤ 9 by rw [List.length_take]; omega); simp; omega)]
          simp
          refine ⟨show _ < 16777216 by omega, _, ws ++ [((List.take 8 (w0))).take 7 ++ [55]], ⟨rfl, by simp⟩, hj2.mono (by omega), by simp [hl], fun l hl2 => ?_⟩
          rcases List.mem_append.mp hl2 with hl2 | hl2
          · exact hw l hl2
          · rw [List.mem_singleton.mp hl2]
            exact ⟨gW_app (gW_take (gW_take (n := 8) gc (by decide)) (by decide)) fun x hx => by rw [List.mem_singleton.mp hx]; exact .inr (by decide +kernel), not_b (.inr rfl), by simp; omega⟩
      · simp [h8]
        refine lname_spec (show _ ≤ 16777216 by have := wl0; omega) (gW7 gc).asc ?_
        by_cases hn : nameB (dS (w0)) = true
        · simp [hn]
          refine ⟨show _ < 16777216 by omega, _, ws ++ [(w0)], ⟨rfl, by simp⟩, hj2.mono (by omega), by simp [hl], fun l hl2 => ?_⟩
          rcases List.mem_append.mp hl2 with hl2 | hl2
          · exact hw l hl2
          · rw [List.mem_singleton.mp hl2]; exact nameB_iff.mp hn
        · have hn' : nameB (dS (w0)) = false := by simpa using hn
          simp [hn']
          rw [dSl_to (show _ ≤ 16777216 by have := wl0; omega) (by decide)]
          simp [seven_lit]
          rw [dAdd_S (show _ ≤ 16777216 by have := wl0; simp; omega)]
          simp
          refine ⟨show _ < 16777216 by omega, _, ws ++ [((w0)).take 7 ++ [55]], ⟨rfl, by simp⟩, hj2.mono (by omega), by simp [hl], fun l hl2 => ?_⟩
          rcases List.mem_append.mp hl2 with hl2 | hl2
          · exact hw l hl2
          · rw [List.mem_singleton.mp hl2]
            exact ⟨gW_app (gW_take gc (by decide)) fun x hx => by rw [List.mem_singleton.mp hx]; exact .inr (by decide +kernel), not_b (.inr rfl), by simp; omega⟩
  · rintro env J ⟨x5, x9, jc', ws, rfl, rfl, hj', hl, hw⟩
    rw [rgD_len] at hl hj'
    have hj' : Jb (b + 110) jc' := hj'.mono (by omega)
    refine lcP_spec hsg.2 fun d1 hd1 => ?_
    refine lcP_spec hsg.2 fun d2 hd2 => ?_
    simp only [deref_new, OpQ_some]
    rw [dAdd_ll (by omega)]
    simp [er]
    refine Sx_loop (fun i env J => ∃ (x5 x9 : Option HV) (R : Jr) (C : Jr) (kn : List D), env = [some (.jar 0), some (.val (.int sg)), some (.val (dS heads)), some (.val (.int sh)), some (.jar (T.length + 1)), x5, some (.jar (R.length + 1)), none, none, x9, none] ∧ J = jc' :: (R ++ [kn]) ∧ R = T ++ (ws.map dS :: C) ∧ kn.length ≤ 10 + 10 * i) ⟨x5, x9, T ++ [ws.map dS], [], d1 ++ d2, by simp, by simp, by simp, by simp; omega⟩ ?_ ?_
    · rintro i d env J hd ⟨x5, x9, R, C, kn, rfl, rfl, hR, hk⟩
      obtain ⟨rfl, hi⟩ := rgD_get hd
      have hi : i < sg := by simpa using hi
      have hRl : T.length + 1 ≤ R.length := by rw [hR, List.length_append, List.length_cons]; omega
      simp [tgName]
      refine lcQ_spec hsg.2 (by omega) fun d3 hd3 => ?_
      simp
      rw [dAdd_ll (by omega)]
      simp
      refine ⟨by omega, lcQ_spec hsg.2 (by omega) fun d4 hd4 => ?_⟩
      rw [show R.length + 1 + 1 = R.length + 2 from rfl, g2b]
      simp only [OpQ_some, deref_new]
      rw [dAdd_ll (by rw [List.length_append]; omega)]
      simp only [OpQ_some, newQ_new]
      exact ⟨by simp; omega, _, _, R ++ [kn, kn ++ d3], ⟨rfl, by simp, rfl⟩, C ++ [kn, kn ++ d3], kn ++ d3 ++ d4, by simp, by rw [hR]; simp, by simp; omega⟩
    · rintro env J ⟨x5, x9, R, C, kn, rfl, rfl, hR, hk⟩
      rw [rgD_len] at hk
      have hRl : T.length + 1 ≤ R.length := by rw [hR, List.length_append, List.length_cons]; omega
      simp
      refine ⟨by omega, ?_⟩
      refine draw_spec (T := R ++ [kn, []]) hj' (by omega) (by decide) (by decide) fun n jc2 n0 n1 hj2 => ?_
      have en : rgOk n = true := by unfold rgOk; simp; omega
      simp [en]
      rw [show R.length + 1 + 1 = R.length + 2 from rfl]
      refine Sx_loop (fun i env J => ∃ (x8 : Option HV) (jc' kn ch : List D), env = [some (.jar 0), some (.val (.int sg)), some (.val (dS heads)), some (.val (.int sh)), some (.jar (T.length + 1)), x5, some (.jar (R.length + 1)), some (.jar (R.length + 2)), x8, x9, none] ∧ J = jc' :: (R ++ [kn, ch]) ∧ Jb (b + 111 + i) jc' ∧ kn.length ≤ 60 ∧ ch.length ≤ i) ⟨_, jc2, kn, [], rfl, rfl, hj2.mono (by omega), by omega, by simp⟩ ?_ ?_
      · rintro i d env J hd ⟨x8, jc', kn, ch, rfl, rfl, hj', hk, hc⟩
        obtain ⟨rfl, hi⟩ := rgD_get hd
        simp [tgName]
        by_cases hk0 : 0 < kn.length
        · simp [hk0]
          rw [Ex_pop]
          simp
          refine draw_spec (T := R ++ [kn, ch]) hj' (by omega) (by omega) (by omega) fun r jc3 r0 r1 hj3 => ?_
          obtain ⟨d, e⟩ := dPop_in (J := jc3 :: (R ++ [kn, ch])) (k := R.length + 1) g2a r0 r1 (by omega)
          simp only [intQ_int, e, Ex_ok, s2a, toVal_val, OpQ_some, g2b, s2b]
          exact ⟨show _ < 16777216 by omega, jc3, _, _, rfl, hj3.mono (by omega), by rw [List.length_eraseIdx]; split <;> omega, by simp; omega⟩
        · simp [hk0]
          exact ⟨_, _, _, ⟨rfl, rfl, rfl⟩, hj'.mono (by omega), hk, by omega⟩
      · rintro env J ⟨x8, jc', kn, ch, rfl, rfl, hj', hk, hc⟩
        rw [rgD_len] at hj' hc
        subst hR
        have eT : (jc' :: (T ++ List.map dS ws :: C ++ [kn, ch]))[T.length + 1]? = some (List.map dS ws) := by simp
        have e2 : (jc' :: (T ++ List.map dS ws :: C ++ [kn, ch]))[(T ++ List.map dS ws :: C).length + 2]? = some ch := g2b
        have eK : (jc' :: (T ++ List.map dS ws :: C ++ [kn, ch])).take (T.length + 1) = jc' :: T := by simp
        simp only [nmQ_some, deref_jar, List.getElem?_cons_succ, List.getElem?_cons_zero, eT, e2, Option.map_some, OpQ_some, dTuple, toVal_val, eK]
        exact ⟨by decide, by simp, h _ _ (hj'.mono (by omega)) ⟨⟨ws, .tup ch, rfl, hl, hw⟩⟩⟩
end K12
set_option Elab.async false
set_option linter.all false
set_option maxRecDepth 100000
set_option maxHeartbeats 4000000
set_option autoImplicit false
namespace K12
open PySem L2 L2.Pz
variable {X : XP} {Q : HV → Jr → Prop} {T J : Jr} {jc : List D} {env : En} {b : Nat}
theorem ixT {ds : List D} {i : Int} (h0 : 0 ≤ i) (h1 : i < ds.length) : dIx (.tup ds) (.int i) = some (.val (ds[i.toNat]'(by omega))) := by
  show (atI ds i).map HV.val = _
  rw [atI_in h0 h1]
  rfl
theorem gM.sok {sg k : Nat} {ds : List D} (h : gM sg ds) (hs : sg ≤ 5) (hl : ds.length ≤ 100000) : sok (k + 3) (.tup ds) = true := sok_tup.mpr ⟨fun d hd => (h d hd).sok (by omega), by omega⟩
theorem bent_sok {xs : List D} {d : D} {i j k : Nat} (h : ∀ d ∈ xs, sok k d = true) (hd : sok k d = true) (hl : xs.length ≤ 100000) : sok (k + 1) (.tup (xs.take i ++ [d] ++ xs.drop j)) = true :=
  sok_cat (fun d hd => h d (List.mem_of_mem_take hd)) (fun d' hd' => by rw [List.mem_singleton.mp hd']; exact hd) (fun d hd => h d (List.mem_of_mem_drop hd)) (by simp; omega)
theorem bent_ones_spec {sg : Nat} {s : D} {ds : List D} (hs : stg sg s) (hm : gM sg ds) (hsg : 1 ≤ sg ∧ sg ≤ 5) (hl : 1 ≤ ds.length ∧ ds.length ≤ 4) (hj : Jb b jc) (hb : b + 400 ≤ LIM) (h : ∀ jc', Jb (b + 400) jc' → Q (.val (.bl true)) (jc' :: T)) :
    Ex X (F_l_bent_ones [.jar 0, .val s, .val (.tup ds)] (jc :: T)) Q := by
  have hL : (LIM : Nat) = 1000000000 := rfl
  have hd4 : ∀ d ∈ ds, sok 4 d = true := fun d hd => (hm d hd).sok (by omega)
  unfold F_l_bent_ones B_l_bent_ones
  rw [Ex_mkF]
  simp [startE, Sx_for]
  refine ⟨by decide, ?_⟩
  refine Sx_loop (fun i env J => ∃ x4 x5 x6 x7 x8 x9 jc', env = [some (.jar 0), some (.val s), some (.val (.tup ds)), some (.val (.int ds.length)), x4, x5, x6, x7, x8, x9] ∧ J = jc' :: T ∧ Jb (b + 12 * i) jc') ⟨_, _, _, _, _, _, jc, rfl, rfl, hj⟩ ?_ ?_
  · rintro i d env J hd ⟨x4, x5, x6, x7, x8, x9, jc', rfl, rfl, hj'⟩
    obtain ⟨rfl, hi⟩ := rgD_get hd
    have hi : i < 28 := hi
    simp [tgName]
    refine draw_spec hj' (by omega) (by omega) (by omega) fun r jc2 r0 r1 hj2 => ?_
    simp
    rw [dSlt_to r0, ixT r0 r1]
    simp
    refine bstate_spec (hm _ (List.getElem_mem (n := r.toNat) (by omega))) hsg (by omega) (by omega) hj2 (by omega) fun hv d jc3 hdv hk hj3 => ?_
    simp [hdv]
    refine ⟨by decide, ?_⟩
    rw [dAdd_tt (by simp; omega)]
    simp
    rw [dSlt_from (by omega)]
    simp
    rw [dAdd_tt (by simp; omega)]
    simp
    have hbent : sok 5 (.tup (ds.take r.toNat ++ d :: ds.drop (r + 1).toNat)) = true := by
      have := bent_sok (i := r.toNat) (j := (r + 1).toNat) hd4 hk (by omega)
      simpa using this
    have hbl : (ds.take r.toNat ++ d :: ds.drop (r + 1).toNat).length ≤ 100 := by simp; omega
    have hbl2 : ds.length ≤ (ds.take r.toNat ++ d :: ds.drop (r + 1).toNat).length := by simp; omega
    generalize ds.take r.toNat ++ d :: ds.drop (r + 1).toNat = bt at hbent hbl hbl2
    refine copy_spec 7 5 (.tup bt) _ _ _ (by decide) hbent fun c hc => ?_
    simp [hc.1]
    refine holds_spec (k := 2) hs hbent ?_
    simp
    refine same_spec 7 5 (.tup bt) _ _ _ (by decide) hbent ?_
    simp
    by_cases c1 : (1 : Int) < ds.length
    · by_cases c2 : (19 : Int) < (i : Int)
      · simp [c1, c2]
        refine draw_spec hj3 (by omega) (by omega) (by omega) fun r' jc4 r0' r1' hj4 => ?_
        simp
        rw [dSlt_to r0', ixT (ds := ds) r0' r1']
        simp
        refine bstate_spec (hm _ (List.getElem_mem (n := r'.toNat) (by omega))) hsg (by omega) (by omega) hj4 (by omega) fun hv2 d2 jc5 hdv2 hk2 hj5 => ?_
        simp [hdv2]
        refine ⟨by decide, ?_⟩
        rw [dAdd_tt (by simp; omega)]
        simp
        rw [dSlt_from (by omega)]
        simp
        rw [dAdd_tt (by simp; omega)]
        simp
        refine holds_spec (k := 2) hs ?_ ?_
        · have := bent_sok (i := r'.toNat) (j := (r' + 1).toNat) (sok_tup.mp hbent).1 hk2 (by omega)
          simpa using this
        · simp
          exact hj5.mono (by omega)
      · simp [c1, c2]
        exact hj3.mono (by omega)
    · simp [c1]
      exact hj3.mono (by omega)
  · rintro env J ⟨x4, x5, x6, x7, x8, x9, jc', rfl, rfl, hj'⟩
    have hj' : Jb (b + 12 * 28) jc' := hj'
    simp
    exact h _ (hj'.mono (by omega))
end K12
set_option Elab.async false
set_option linter.all false
set_option maxRecDepth 100000
set_option maxHeartbeats 4000000
set_option autoImplicit false
namespace K12
open PySem L2 L2.Pz
variable {X : XP} {Q : HV → Jr → Prop} {T J : Jr} {jc : List D} {env : En} {b : Nat}
abbrev sA (k : Nat) (ds : List D) : Prop := ∀ d ∈ ds, sok k d = true
theorem sA_nil {k : Nat} : sA k [] := fun d h => by cases h
theorem sA_cons {k : Nat} {d : D} {ds : List D} (h : sok k d = true) (t : sA k ds) : sA k (d :: ds) := fun e he => by
  rcases List.mem_cons.mp he with rfl | he
  · exact h
  · exact t e he
theorem sA_app {k : Nat} {ds es : List D} (h : sA k ds) (t : sA k es) : sA k (ds ++ es) := fun e he => (List.mem_append.mp he).elim (h e) (t e)
theorem sok_t {k : Nat} {ds : List D} (h : sA k ds) (hl : ds.length ≤ 1000000) : sok (k + 1) (.tup ds) = true := sok_tup.mpr ⟨h, hl⟩
theorem sok_l {k : Nat} {ds : List D} (h : sA k ds) (hl : ds.length ≤ 1000000) : sok (k + 1) (.lst ds) = true := sok_lst.mpr ⟨h, hl⟩
theorem mt_lit : D.str (Str.ofString "") = dS [] := by with_unfolding_all rfl
theorem ab_lit : D.str (Str.ofString "ab") = dS [97, 98] := by with_unfolding_all rfl
theorem s_ab {k : Nat} : sok k (dS [97, 98]) = true := sok_str.mpr ⟨by decide, by decide +kernel⟩
theorem s_mt {k : Nat} : sok k (dS []) = true := sok_str.mpr ⟨by decide, by decide +kernel⟩
theorem sok_int {k : Nat} {i : Int} : sok k (.int i) = true := by cases k <;> rfl
theorem sok_non {k : Nat} : sok k .non = true := by cases k <;> rfl
theorem sok_bl {k : Nat} {i : Bool} : sok k (.bl i) = true := by cases k <;> rfl
theorem toVal_norm {hv : HV} {d : D} (h : toVal hv = some d) : norm hv = .val d := by
  cases hv with
  | val e => cases h; rfl
  | new e => cases h; rfl
  | jar e => cases h
  | exc e => cases h
theorem other_spec {sg : Nat} {s : D} {ds : List D} (hs : stg sg s) (hm : gM sg ds) (hsg : 1 ≤ sg ∧ sg ≤ 5) (hl : 1 ≤ ds.length ∧ ds.length ≤ 4) (hj : Jb b jc) (hb : b + 10 ≤ LIM) (h : ∀ jc', Jb (b + 10) jc' → Q (.val (.bl true)) (jc' :: T)) :
    Ex X (F_l_other_things [.jar 0, .val s, .val (.tup ds)] (jc :: T)) Q := by
  have hL : (LIM : Nat) = 1000000000 := rfl
  obtain ⟨st, hst0, hst⟩ : ∃ st, dIx (.tup ds) (.int 0) = some (.val st) ∧ gS sg ds.length st := ⟨_, ixT (by decide) (by omega), hm _ (List.getElem_mem _)⟩
  obtain ⟨l, ns, rfl, h1, h2, h3⟩ := hst.ex
  have i0 : dIx (.tup [dS l, .tup (ns.map D.int)]) (.int 0) = some (.val (dS l)) := rfl
  have i1 : dIx (.tup [dS l, .tup (ns.map D.int)]) (.int 1) = some (.val (.tup (ns.map D.int))) := rfl
  have sl : ∀ k, sok k (dS l) = true := fun k => sok_sm (gN7 h1) (by decide)
  have sn : ∀ k, sok (k + 1) (.tup (ns.map D.int)) = true := fun k => sok_ints (by omega)
  have sd : ∀ k, sA (k + 2) ds := fun k d hd => (hm d hd).sok (by omega)
  unfold F_l_other_things B_l_other_things
  rw [Ex_mkF]
  simp (maxSteps := 10000000) [startE, Sx_for, dList, hst0, i0, i1, dPow, dMul, dInt2, mt_lit, ab_lit]
  refine ⟨by decide +kernel, by decide, by decide, by decide, by decide, by decide, by decide, ?_⟩
  have o1 : sA 5 [D.lst ds, D.non, D.bl true, D.bl false, D.int 0, D.int 7, dS [], dS [97, 98], dS l, D.int (-5), D.int 1000000000000000000000000000000000000000000000000000000000000000000000000000000000, D.lst [], D.tup [], D.tup [D.tup []], D.tup [D.lst []]] :=
    sA_cons (sok_l (sd 2) (by omega)) (sA_cons sok_non (sA_cons sok_bl (sA_cons sok_bl (sA_cons sok_int (sA_cons sok_int (sA_cons s_mt (sA_cons s_ab (sA_cons (sl 5) (sA_cons sok_int (sA_cons sok_int (sA_cons (sok_l sA_nil (by decide)) (sA_cons (sok_t sA_nil (by decide))
      (sA_cons (sok_t (sA_cons (sok_t sA_nil (by decide)) sA_nil) (by simp)) (sA_cons (sok_t (sA_cons (sok_l sA_nil (by decide)) sA_nil) (by simp)) sA_nil))))))))))))))
  have o2 : sA 5 [D.tup [D.non], D.tup [dS [97, 98]], D.tup [dS l, D.tup (List.map D.int ns)], D.tup [D.tup ds], D.lst [D.tup ds], D.tup [D.tup (List.map D.int ns)], D.tup [D.int 0, D.int 1], D.tup [D.tup [D.int 0, D.int 1]]] :=
    sA_cons (sok_t (sA_cons sok_non sA_nil) (by simp)) (sA_cons (sok_t (sA_cons s_ab sA_nil) (by simp)) (sA_cons (sok2 (sl 4) (sn 3)) (sA_cons (sok_t (sA_cons (sok_t (sd 1) (by omega)) sA_nil) (by simp)) (sA_cons (sok_l (sA_cons (sok_t (sd 1) (by omega)) sA_nil) (by simp))
      (sA_cons (sok_t (sA_cons (sn 3) sA_nil) (by simp)) (sA_cons (sok2 sok_int sok_int) (sA_cons (sok_t (sA_cons (sok2 sok_int sok_int) sA_nil) (by simp)) sA_nil)))))))
  rw [dAdd_ll (by simp)]
  have o3 := sA_app o1 o2
  generalize hth : ([D.lst ds, D.non, D.bl true, D.bl false, D.int 0, D.int 7, dS [], dS [97, 98], dS l, D.int (-5), D.int 1000000000000000000000000000000000000000000000000000000000000000000000000000000000, D.lst [], D.tup [], D.tup [D.tup []], D.tup [D.lst []]] : List D) ++ [D.tup [D.non], D.tup [dS [97, 98]], D.tup [dS l, D.tup (List.map D.int ns)], D.tup [D.tup ds], D.lst [D.tup ds], D.tup [D.tup (List.map D.int ns)], D.tup [D.int 0, D.int 1], D.tup [D.tup [D.int 0, D.int 1]]] = th at o3
  have hthl : th.length = 23 := by rw [← hth]; rfl
  simp only [OpQ_some]
  refine draw_spec hj (by omega) (by decide) (by decide) fun r jc2 r0 r1 hj2 => ?_
  refine ⟨rfl, ?_⟩
  simp only [norm_val]
  refine bstate_spec hst hsg (by omega) (by omega) hj2 (by omega) fun hv d jc3 hdv hk hj3 => ?_
  rw [toVal_norm hdv]
  simp
  refine ⟨by decide, ?_⟩
  rw [dSlt_from (by decide)]
  simp only [OpQ_some, deref_val, deref_new]
  rw [dAdd_ll (by simp; omega)]
  simp only [OpQ_some, toVal_new]
  refine ⟨by decide, ?_⟩
  rw [dAdd_ll (by rw [hthl]; simp)]
  simp
  have o4 : sA 6 (th ++ [D.lst [d], D.lst (d :: ds.tail)]) := sA_app (fun e he => sok_mono 5 e (o3 e he) 6 (by decide)) (sA_cons (sok_l (sA_cons (sok_mono 4 d hk 5 (by decide)) sA_nil) (by simp)) (sA_cons (sok_l (sA_cons (sok_mono 4 d hk 5 (by decide)) (fun e he => sd 3 e (List.mem_of_mem_tail he))) (by simp; omega)) sA_nil))
  have eT : (Int.toNat 1) = 1 := rfl
  simp only [List.drop_one] at *
  generalize hth2 : th ++ [D.lst [d], D.lst (d :: ds.tail)] = th2 at o4
  refine Sx_loop (fun i env J => ∃ x3 x4 x5 x6, env = [some (.jar 0), some (.val s), some (.val (.tup ds)), x3, x4, x5, x6] ∧ J = jc3 :: T) ⟨_, _, _, _, rfl, rfl⟩ ?_ ?_
  · rintro i d env J hd ⟨x3, x4, x5, x6, rfl, rfl⟩
    have ho := o4 d (List.mem_of_getElem? hd)
    simp [tgName]
    refine copy_spec 7 6 d _ _ _ (by decide) ho fun c hc => ?_
    simp [hc.1]
    refine holds_spec (k := 3) hs ho ?_
    simp
    refine same_spec 7 6 d _ _ _ (by decide) ho ?_
    simp
  · rintro env J ⟨x3, x4, x5, x6, rfl, rfl⟩
    simp
    exact h _ (hj3.mono (by omega))
end K12
set_option Elab.async false
set_option linter.all false
set_option maxRecDepth 100000
set_option maxHeartbeats 4000000
set_option autoImplicit false
namespace K12
open PySem L2 L2.Pz
variable {X : XP} {Q : HV → Jr → Prop} {T J : Jr} {jc : List D} {env : En} {b : Nat}
theorem dRep1 {x : D} {k : Int} (hk : k ≤ 100000) (h0 : -100 ≤ k) : dRepT (.tup [x]) (.int k) = some (.val (.tup (List.replicate k.toNat x))) := by
  show (if -(2 ^ 62) < k ∧ k < 2 ^ 62 ∧ [x].length * k.toNat ≤ 1000000 then some (HV.val (.tup (List.replicate k.toNat [x]).flatten)) else none) = _
  have e : ∀ n, (List.replicate n [x]).flatten = List.replicate n x := fun n => by
    induction n with
    | zero => rfl
    | succ n ih => rw [List.replicate_succ, List.flatten_cons, ih, List.replicate_succ]; rfl
  rw [if_pos ⟨by omega, by omega, by simp; omega⟩, e]
theorem gM.mac {sg : Nat} {ds : List D} (h : gM sg ds) (hl : 1 ≤ ds.length) : macB sg (.tup ds) = true := by
  show (decide (1 ≤ ds.length) && ds.all (stateB sg ds.length)) = true
  rw [decide_eq_true hl, Bool.true_and, List.all_eq_true]
  exact fun d hd => (h d hd).state
/-- one state (w, (0, ..)) -/
theorem one_good {sg : Nat} {l : List Nat} (h : gN l) : gM sg [.tup [dS l, .tup (List.replicate sg (.int 0))]] := fun d hd => by
  rw [List.mem_singleton.mp hd]
  exact ⟨⟨l, List.replicate sg 0, by rw [List.map_replicate], h, List.length_replicate, fun i hi => by
    rw [List.eq_of_mem_replicate hi]
    exact ⟨by decide, show (0 : Int) < ((1 : Nat) : Int) by decide⟩⟩⟩
theorem sok_rep {k n : Nat} {i : Int} (hn : n ≤ 100000) : sok (k + 1) (.tup (List.replicate n (.int i))) = true := sok_t (fun d hd => by rw [List.eq_of_mem_replicate hd]; exact sok_int) (by simp; omega)
theorem one_sok {sg : Nat} {d : D} {i : Int} (hk : sok 4 d = true) (hs : sg ≤ 5) : sok 6 (.tup [.tup [d, .tup (List.replicate sg (.int i))]]) = true :=
  sok_t (sA_cons (sok2 hk (sok_rep (k := 3) (by omega))) sA_nil) (by simp)
theorem lcPk_spec {e1 e2 e4 e5 e6 e7 e8 : Option HV} (hj : Jb b jc) (hb : b + 4 ≤ LIM) (h : ∀ (ws : List (List Nat)) jc', Jb (b + 4) jc' → (∀ w ∈ ws, w ∈ barred) → ws.length = 4 → Q (.new (ws.map dS)) (jc' :: T)) :
    Ex X (eLc (iRange1 (eC (.int 4))) (tgName 8) bYes (eBin dIx (eName 3) (eCall F_l_draw [eName 0, eUn dLen (eName 3)])) [8] [some (.jar 0), e1, e2, some (.val (.lst (barred.map dS))), e4, e5, e6, e7, e8] (jc :: T)) Q := by
  have hL : (LIM : Nat) = 1000000000 := rfl
  refine Ex_lcX ?_
  simp [wipeE]
  refine ⟨by decide, Ex_lcLoop (fun i acc J' => ∃ (ws : List (List Nat)) (jc' : List D), acc = ws.map dS ∧ J' = jc' :: T ∧ Jb (b + i) jc' ∧ (∀ w ∈ ws, w ∈ barred) ∧ ws.length = i) ⟨[], jc, rfl, rfl, hj, (fun c hc => by cases hc), rfl⟩ ?_ ?_⟩
  · rintro i d acc J' hd ⟨ws, jc', rfl, rfl, hj', hw, hl⟩
    obtain ⟨rfl, hi⟩ := rgD_get hd
    have hi : i < 4 := hi
    simp [tgName]
    refine draw_spec hj' (by omega) (by decide) (by decide) fun r jc2 r0 r1 hj2 => ?_
    have hbm : (barred.map dS).length = 24 := rfl
    have hbl : barred.length = 24 := rfl
    have er : dIx (.lst (barred.map dS)) (.int r) = some (.val (dS (barred[r.toNat]'(by rw [hbl]; omega)))) := by
      show (atI (barred.map dS) r).map HV.val = _
      rw [atI_in r0 (by rw [hbm]; omega), List.getElem_map]
      rfl
    simp [er]
    refine ⟨show _ < 16777216 by omega, ws ++ [barred[r.toNat]'(by rw [hbl]; omega)], by simp, hj2.mono (by omega), fun w hw2 => ?_, by simp [hl]⟩
    rcases List.mem_append.mp hw2 with hw2 | hw2
    · exact hw w hw2
    · rw [List.mem_singleton.mp hw2]; exact List.getElem_mem _
  · rintro acc J' ⟨ws, jc', rfl, rfl, hj', hw, hl⟩
    rw [rgD_len] at hl hj'
    exact h ws jc' hj' hw hl
theorem two_lit : D.str (Str.ofString "2") = dS [50] := by with_unfolding_all rfl
theorem sp_lit : D.str (Str.ofString " ") = dS [32] := by with_unfolding_all rfl
theorem abc3_lit : D.str (Str.ofString "abc") = dS [97, 98, 99] := by with_unfolding_all rfl
theorem barred_gC : ∀ w ∈ barred, ∀ c ∈ w, gC c := fun w hw c hc => .inl (decide_eq_true (barred_abc w hw c hc))
theorem names_spec {sg : Nat} {s : D} (hs : gSet sg s) (hsg : 1 ≤ sg ∧ sg ≤ 5) (hj : Jb b jc) (hb : b + 10 ≤ LIM) (h : ∀ jc', Jb (b + 10) jc' → Q (.val (.bl true)) (jc' :: T)) : Ex X (F_l_names [.jar 0, .val s] (jc :: T)) Q := by
  have hL : (LIM : Nat) = 1000000000 := rfl
  have hst := hs.stg
  obtain ⟨ws, x, rfl, hw1, hw2⟩ := hs.ex
  have y1 : dIx (.tup [.tup (ws.map dS), x]) (.int 0) = some (.val (.tup (ws.map dS))) := rfl
  have hwl : ((ws.map dS).length : Int) = (sg : Int) := by rw [List.length_map, hw1]
  have hr : dRepT (.tup [.int 0]) (.int (sg : Int)) = some (.val (.tup (List.replicate sg (.int 0)))) := dRep1 (by omega) (by omega)
  unfold F_l_names B_l_names
  rw [Ex_mkF]
  simp [startE, Sx_for, y1, hw1, hr]
  refine ⟨by decide, reserved_spec ?_⟩
  simp
  refine lcPk_spec hj (by omega) fun pk jc2 hj2 hpk hpl => ?_
  simp
  generalize hS : D.tup [.tup (ws.map dS), x] = s at hst y1
  refine Sx_loop (fun i env J => ∃ x3 x4 x5 x6 x7 x8, env = [some (.jar 0), some (.val s), some (.val (.tup (List.replicate sg (.int 0)))), x3, x4, x5, x6, x7, x8] ∧ J = jc2 :: T) ⟨_, _, _, _, _, _, rfl, rfl⟩ ?_ ?_
  · rintro i d env J hd ⟨x3, x4, x5, x6, x7, x8, rfl, rfl⟩
    rw [List.getElem?_map] at hd
    obtain ⟨w, hw, rfl⟩ : ∃ w, pk[i]? = some w ∧ d = dS w := by
      cases e : pk[i]? with
      | none => rw [e] at hd; cases hd
      | some w => rw [e] at hd; exact ⟨w, rfl, by simpa using hd.symm⟩
    have hwb := hpk w (List.mem_of_getElem? hw)
    have sw := reserved_sm w hwb
    have swp := barred_pos w hwb
    have swl := sw.2
    have wb : w.length ≤ big := show _ ≤ 16777216 by omega
    simp [tgName]
    refine ⟨by decide, by decide, holds_spec (k := 3) hst (one_sok (sok_sm sw (by decide)) hsg.2) ?_⟩
    simp [Sx_for, dLen_S wb]
    rw [two_lit, sp_lit, abc3_lit, x_lit, dAdd_S (a := w) (b := [50]) (show _ ≤ 16777216 by simp; omega), dSl_to wb (by omega), dAdd_S (a := [120]) (b := w) (show _ ≤ 16777216 by simp; omega), dAdd_S (a := w) (b := [32]) (show _ ≤ 16777216 by simp; omega),
      dAdd_S (a := [32]) (b := w) (show _ ≤ 16777216 by simp; omega), dUpper_S (show w.length ≤ 1000 by omega), dAdd_S (a := w) (b := [97, 98, 99]) (show _ ≤ 16777216 by simp; omega)]
    simp
    have near : sA 4 [D.str (S (w ++ [50])), D.str (S (List.take (w.length - 1) w)), D.str (S (120 :: w)), D.str (S (w ++ [32])), D.str (S (32 :: w)), D.str (Txt.upper (S w)), D.str (S (w ++ [97, 98, 99]))] :=
      sA_cons (sok_sm (sm_app sw (sm1 (c := 50) (by decide))) (by decide)) (sA_cons (sok_sm (sm_take sw) (by decide)) (sA_cons (sok_sm (sm_app (sm1 (c := 120) (by decide)) sw) (by decide)) (sA_cons (sok_sm (sm_app sw (sm1 (c := 32) (by decide))) (by decide))
        (sA_cons (sok_sm (sm_app (sm1 (c := 32) (by decide)) sw) (by decide)) (sA_cons (upper_sok (barred_gC w hwb) (by omega)) (sA_cons (sok_sm (sm_app sw (n := 8) (m := 3) ⟨by decide, by decide⟩) (by decide)) sA_nil))))))
    refine ⟨by decide, ?_⟩
    generalize ([D.str (S (w ++ [50])), D.str (S (List.take (w.length - 1) w)), D.str (S (120 :: w)), D.str (S (w ++ [32])), D.str (S (32 :: w)), D.str (Txt.upper (S w)), D.str (S (w ++ [97, 98, 99]))] : List D) = nl at near
    refine Sx_loop (fun i env J => ∃ x3 x4 x5 x6 x7 x8, env = [some (.jar 0), some (.val s), some (.val (.tup (List.replicate sg (.int 0)))), x3, x4, x5, x6, x7, x8] ∧ J = jc2 :: T) ⟨_, _, _, _, _, _, rfl, rfl⟩ ?_ ?_
    · rintro i d env J hd ⟨x3, x4, x5, x6, x7, x8, rfl, rfl⟩
      simp [tgName]
      refine ⟨by decide, by decide, holds_spec (k := 3) hst (one_sok (near d (List.mem_of_getElem? hd)) hsg.2) ?_⟩
      simp
    · rintro env J ⟨x3, x4, x5, x6, x7, x8, rfl, rfl⟩
      exact ⟨⟨_, _, _, _, _, _, rfl⟩, rfl⟩
  · rintro env J ⟨x3, x4, x5, x6, x7, x8, rfl, rfl⟩
    simp
    have lits : sA 4 [D.str (Str.ofString "a"), D.str (Str.ofString "z"), D.str (Str.ofString "a0"), D.str (Str.ofString "z9"), D.str (Str.ofString "abcdefgh"), D.str (Str.ofString "a2345678"), D.str (Str.ofString "abcdefghi"), D.str (Str.ofString "0"), D.str (Str.ofString "9a"), D.str (Str.ofString "A"), D.str (Str.ofString ""), D.str (Str.ofString "a_b"), D.str (Str.ofString "a-b"), D.str (Str.ofString "_a")] :=
      List.all_eq_true.mp (by decide +kernel)
    refine ⟨by decide, ?_⟩
    generalize ([D.str (Str.ofString "a"), D.str (Str.ofString "z"), D.str (Str.ofString "a0"), D.str (Str.ofString "z9"), D.str (Str.ofString "abcdefgh"), D.str (Str.ofString "a2345678"), D.str (Str.ofString "abcdefghi"), D.str (Str.ofString "0"), D.str (Str.ofString "9a"), D.str (Str.ofString "A"), D.str (Str.ofString ""), D.str (Str.ofString "a_b"), D.str (Str.ofString "a-b"), D.str (Str.ofString "_a")] : List D) = nl at lits
    refine Sx_loop (fun i env J => ∃ x3 x4 x5 x6 x7 x8, env = [some (.jar 0), some (.val s), some (.val (.tup (List.replicate sg (.int 0)))), x3, x4, x5, x6, x7, x8] ∧ J = jc2 :: T) ⟨_, _, _, _, _, _, rfl, rfl⟩ ?_ ?_
    · rintro i d env J hd ⟨x3, x4, x5, x6, x7, x8, rfl, rfl⟩
      simp [tgName]
      refine ⟨by decide, by decide, holds_spec (k := 3) hst (one_sok (lits d (List.mem_of_getElem? hd)) hsg.2) ?_⟩
      simp
    · rintro env J ⟨x3, x4, x5, x6, x7, x8, rfl, rfl⟩
      simp [y1]
      refine Sx_loop (fun i env J => ∃ x3 x4 x5 x6 x7 x8, env = [some (.jar 0), some (.val s), some (.val (.tup (List.replicate sg (.int 0)))), x3, x4, x5, x6, x7, x8] ∧ J = jc2 :: T) ⟨_, _, _, _, _, _, rfl, rfl⟩ ?_ ?_
      · rintro i d env J hd ⟨x3, x4, x5, x6, x7, x8, rfl, rfl⟩
        rw [List.getElem?_map] at hd
        obtain ⟨w, hw, rfl⟩ : ∃ w, ws[i]? = some w ∧ d = dS w := by
          cases e : ws[i]? with
          | none => rw [e] at hd; cases hd
          | some w => rw [e] at hd; exact ⟨w, rfl, by simpa using hd.symm⟩
        have hwg := hw2 w (List.mem_of_getElem? hw)
        simp [tgName]
        refine ⟨by decide, by decide, whether_spec (k := 3) hst (one_sok (sok_sm (gN7 hwg) (by decide)) hsg.2) ((one_good hwg).mac (by simp)) ?_⟩
        simp
      · rintro env J ⟨x3, x4, x5, x6, x7, x8, rfl, rfl⟩
        simp
        exact h _ (hj2.mono (by omega))
end K12
set_option Elab.async false
set_option linter.all false
set_option maxRecDepth 100000
set_option maxHeartbeats 4000000
set_option autoImplicit false
namespace K12
open PySem L2 L2.Pz
variable {X : XP} {Q : HV → Jr → Prop} {T J : Jr} {jc : List D} {env : En} {b : Nat}
theorem a_lit : D.str (Str.ofString "a") = dS [97] := by with_unfolding_all rfl
theorem b_lit : D.str (Str.ofString "b") = dS [98] := by with_unfolding_all rfl
theorem c_lit : D.str (Str.ofString "c") = dS [99] := by with_unfolding_all rfl
theorem s1 {k c : Nat} (h : c < 128) : sok k (dS [c]) = true := sok_sm (sm1 h) (by decide)
theorem nm_a : nameB (dS [97]) = true := by decide +kernel
theorem nm_b : nameB (dS [98]) = true := by decide +kernel
theorem lcF_spec {sg m : Nat} {ds : List D} {e0 e1 e3 e4 e5 e6 e7 e8 : Option HV} (hd : ∀ d ∈ ds, gS sg m d) (hs : sg ≤ 5) (hl : ds.length ≤ 100000) (q : ∀ cs : List D, sA 3 cs → cs.length ≤ ds.length → Q (.new cs) J) :
    Ex X (eLc (iAny (eSl (eName 2) (some (eC (.int 2))) none)) (tgName 8) bYes (eTup [eC (D.str (Str.ofString "c")), eBin dIx (eName 8) (eC (.int 1))]) [8] [e0, e1, some (.val (.tup ds)), e3, e4, e5, e6, e7, e8] J) Q := by
  refine Ex_lcX ?_
  simp [wipeE]
  rw [dSlt_from (by decide)]
  simp
  refine Ex_lcLoop (fun i acc J' => sA 3 acc ∧ acc.length ≤ i ∧ J' = J) ⟨sA_nil, by simp, rfl⟩ ?_ ?_
  · rintro i d acc J' hd2 ⟨ha, hc, rfl⟩
    have hi : i < (ds.drop 2).length := (List.getElem?_eq_some_iff.mp hd2).1
    rw [List.length_drop] at hi
    obtain ⟨l, ns, rfl, h1, h2, h3⟩ := (hd d (List.mem_of_mem_drop (List.mem_of_getElem? hd2))).ex
    have i1 : dIx (.tup [dS l, .tup (ns.map D.int)]) (.int 1) = some (.val (.tup (ns.map D.int))) := rfl
    simp [tgName, i1, c_lit]
    refine ⟨by decide, show _ < 16777216 by omega, fun e he => ?_, by omega⟩
    rcases List.mem_append.mp he with he | he
    · exact ha e he
    · rw [List.mem_singleton.mp he]; exact sok2 (s1 (by decide)) (sok_ints (by omega))
  · rintro acc J' ⟨ha, hc, rfl⟩
    rw [List.length_drop] at hc
    exact q acc ha (by omega)
def stA (sg : Nat) : D := .tup [dS [97], .tup (List.replicate sg (.int 1))]
def stB (sg : Nat) : D := .tup [dS [98], .tup (List.replicate sg (.int 0))]
theorem stA_ok {sg : Nat} {m : Int} (hm : 2 ≤ m) : stateB sg m (stA sg) = true := by
  show (nameB (dS [97]) && (decide (((List.replicate sg (D.int 1)).length : Int) = sg) && (List.replicate sg (D.int 1)).all (numB m))) = true
  rw [nm_a, List.length_replicate]
  have : numB m (.int 1) = true := by simp [numB]; omega
  simp [this]
theorem stB_ok {sg : Nat} {m : Int} (hm : 2 ≤ m) : stateB sg m (stB sg) = true := by
  show (nameB (dS [98]) && (decide (((List.replicate sg (D.int 0)).length : Int) = sg) && (List.replicate sg (D.int 0)).all (numB m))) = true
  rw [nm_b, List.length_replicate]
  have : numB m (.int 0) = true := by simp [numB]; omega
  simp [this]
theorem stT_bad {sg n : Nat} {m : Int} {w : D} {c : Bool} : stateB sg m (.tup [w, .tup (List.replicate n (.int 1) ++ [.bl c])]) = false := by
  show (nameB w && (decide _ && (List.replicate n (D.int 1) ++ [D.bl c]).all (numB m))) = false
  have : (List.replicate n (D.int 1) ++ [D.bl c]).all (numB m) = false := by
    rw [List.all_eq_false]
    exact ⟨.bl c, by simp, by simp [numB]⟩
  rw [this]
  simp
def flTail : SF := (sSeq (sSet 4 (eBin dRepT (eTup [(eC (.int 1))]) (eBin dSub (eName 1) (eC (.int 1)))))
  (sSeq (sSet 5 (eBin dAdd (eTup [(eTup [(eC (.str "a")), (eBin dAdd (eName 4) (eTup [(eC (.bl true))]))])]) (eSl (eName 3) (some (eC (.int 1))) none)))
  (sSeq (sSet 6 (eBin dAdd (eBin dAdd (eSl (eName 3) none (some (eC (.int 1)))) (eTup [(eTup [(eC (.str "b")), (eBin dAdd (eBin dRepT (eTup [(eC (.int 0))]) (eBin dSub (eName 1) (eC (.int 1)))) (eTup [(eC (.bl false))]))])])) (eSl (eName 3) (some (eC (.int 2))) none)))
  (sSeq (sFor (iAny (eTup [(eName 3), (eName 5), (eName 3), (eName 6), (eName 5), (eName 3)])) (tgName 7) (sIf (bNot (bTruth (eCall F_l_holds [(eName 0), (eName 7), (eC (.bl false))]))) (sRet (eNorm (eC (.bl false)))) sNext))
  (sRet (eAnd (eCall F_l_whether [(eName 0), (eName 3), (eC (.bl true)), (eC (.bl true))]) (eCall F_l_whether [(eName 0), (eName 5), (eC (.bl false)), (eC (.bl true))])))))))
theorem flB : B_l_flags = sSeq (sSet 3 (eBin dAdd (eTup [(eTup [(eC (.str "a")), (eBin dRepT (eTup [(eC (.int 1))]) (eName 1))]), (eTup [(eC (.str "b")), (eBin dRepT (eTup [(eC (.int 0))]) (eName 1))])]) (eUn dTuple (eLc (iAny (eSl (eName 2) (some (eC (.int 2))) none)) (tgName 8) bYes (eTup [(eC (.str "c")), (eBin dIx (eName 8) (eC (.int 1)))]) [8]))))
  (sSeq (sIf (bCmp dGe (eCall F_l_first_bad [(eName 1), (eName 3)]) (eC (.int 0))) (sSet 3 (eSl (eName 3) none (some (eC (.int 2))))) sNext) flTail) := rfl
theorem flTail_spec {sg : Nat} {s : D} {cs : List D} {x2 x4 x5 x6 x7 x8 : Option HV} (hs : stg sg s) (hsg : 1 ≤ sg ∧ sg ≤ 5) (h1 : sA 3 cs) (h2 : cs.length ≤ 10) (h3 : macB sg (.tup (stA sg :: stB sg :: cs)) = true) (q : Q (.val (.bl true)) J) :
    Sx (dfX X J.length Q) (flTail J.length [some (.val s), some (.val (.int sg)), x2, some (.val (.tup (stA sg :: stB sg :: cs))), x4, x5, x6, x7, x8] J) := by
  have b1 : 1 ≤ big := by decide
  have b2 : 2 ≤ big := by decide
  have b6 : 6 ≤ big := by decide
  have e1 : ((sg : Int) - 1).toNat = sg - 1 := by omega
  have r1' : dRepT (.tup [.int 1]) (.int ((sg : Int) - 1)) = some (.val (.tup (List.replicate (sg - 1) (.int 1)))) := by rw [dRep1 (by omega) (by omega), e1]
  have r0' : dRepT (.tup [.int 0]) (.int ((sg : Int) - 1)) = some (.val (.tup (List.replicate (sg - 1) (.int 0)))) := by rw [dRep1 (by omega) (by omega), e1]
  have kA : ∀ k, sok (k + 2) (stA sg) = true := fun k => sok2 (s1 (by decide)) (sok_rep (by omega))
  have kB : ∀ k, sok (k + 2) (stB sg) = true := fun k => sok2 (s1 (by decide)) (sok_rep (by omega))
  have kr : ∀ k (i : Int) (c : Bool), sok (k + 1) (.tup (List.replicate (sg - 1) (.int i) ++ [.bl c])) = true := fun k i c => sok_t (sA_app (fun d hd => by rw [List.eq_of_mem_replicate hd]; exact sok_int) (sA_cons sok_bl sA_nil)) (by simp; omega)
  have t1 : dAdd (D.tup (List.replicate (sg - 1) (D.int 1))) (D.tup [D.bl true]) = some (.val (.tup (List.replicate (sg - 1) (D.int 1) ++ [.bl true]))) := dAdd_tt (by simp; omega)
  have t2 : dAdd (D.tup (List.replicate (sg - 1) (D.int 0))) (D.tup [D.bl false]) = some (.val (.tup (List.replicate (sg - 1) (D.int 0) ++ [.bl false]))) := dAdd_tt (by simp; omega)
  have t3 : dSl (.tup (stA sg :: stB sg :: cs)) (some 1) none = some (.val (.tup (stB sg :: cs))) := dSlt_from (by decide)
  have t4 : dSl (.tup (stA sg :: stB sg :: cs)) none (some 1) = some (.val (.tup [stA sg])) := dSlt_to (by decide)
  have t5 : dSl (.tup (stA sg :: stB sg :: cs)) (some 2) none = some (.val (.tup cs)) := dSlt_from (by decide)
  have t6 : ∀ x, dAdd (.tup [x]) (.tup (stB sg :: cs)) = some (.val (.tup (x :: stB sg :: cs))) := fun x => dAdd_tt (by simp; omega)
  have t7 : ∀ x, dAdd (.tup [stA sg]) (.tup [x]) = some (.val (.tup [stA sg, x])) := fun x => dAdd_tt (by simp)
  have t8 : ∀ x, dAdd (.tup [stA sg, x]) (.tup cs) = some (.val (.tup (stA sg :: x :: cs))) := fun x => dAdd_tt (by simp; omega)
  have hP : sok 6 (.tup (stA sg :: stB sg :: cs)) = true := sok_t (sA_cons (kA 3) (sA_cons (kB 3) fun d hd => sok_mono 3 d (h1 d hd) 5 (by decide))) (by simp; omega)
  have hT : sok 6 (.tup (.tup [dS [97], .tup (List.replicate (sg - 1) (.int 1) ++ [.bl true])] :: stB sg :: cs)) = true := sok_t (sA_cons (sok2 (s1 (by decide)) (kr 3 1 true)) (sA_cons (kB 3) fun d hd => sok_mono 3 d (h1 d hd) 5 (by decide))) (by simp; omega)
  have hF : sok 6 (.tup (stA sg :: .tup [dS [98], .tup (List.replicate (sg - 1) (.int 0) ++ [.bl false])] :: cs)) = true := sok_t (sA_cons (kA 3) (sA_cons (sok2 (s1 (by decide)) (kr 3 0 false)) fun d hd => sok_mono 3 d (h1 d hd) 5 (by decide))) (by simp; omega)
  have mT : macB sg (.tup (.tup [dS [97], .tup (List.replicate (sg - 1) (.int 1) ++ [.bl true])] :: stB sg :: cs)) = false := by
    show (_ && ((stateB _ _ _) && _)) = false
    rw [stT_bad]
    simp
  generalize hPe : D.tup (stA sg :: stB sg :: cs) = P at t3 t4 t5 hP h3
  unfold flTail
  simp [Sx_for, r1', r0', a_lit, b_lit, t1, t2, t3, t4, t5, t6, t7, t8, b1, b2, b6]
  generalize D.tup (.tup [dS [97], .tup (List.replicate (sg - 1) (.int 1) ++ [.bl true])] :: stB sg :: cs) = Tt at hT mT
  generalize D.tup (stA sg :: .tup [dS [98], .tup (List.replicate (sg - 1) (.int 0) ++ [.bl false])] :: cs) = Ff at hF
  have al : sA 6 [P, Tt, P, Ff, Tt, P] := sA_cons hP (sA_cons hT (sA_cons hP (sA_cons hF (sA_cons hT (sA_cons hP sA_nil)))))
  refine Sx_loop (fun i env J' => ∃ x2 x4 x6 x7 x8, env = [some (.val s), some (.val (.int sg)), x2, some (.val P), x4, some (.val Tt), x6, x7, x8] ∧ J' = J) ⟨_, _, _, _, _, rfl, rfl⟩ ?_ ?_
  · rintro i d env J hd ⟨x2, x4, x6, x7, x8, rfl, rfl⟩
    have ho := al d (List.mem_of_getElem? hd)
    simp [tgName]
    refine holds_spec (k := 3) hs ho ?_
    simp
  · rintro env J ⟨x2, x4, x6, x7, x8, rfl, rfl⟩
    simp
    refine whether_spec (k := 3) hs hP h3 ?_
    simp [truth]
    refine whether_spec (k := 3) hs hT mT ?_
    simp
    exact q
theorem flags_spec {sg : Nat} {s : D} {ds : List D} (hs : stg sg s) (hm : gM sg ds) (hsg : 1 ≤ sg ∧ sg ≤ 5) (hl : 1 ≤ ds.length ∧ ds.length ≤ 4) (q : Q (.val (.bl true)) J) :
    Ex X (F_l_flags [.val s, .val (.int sg), .val (.tup ds)] J) Q := by
  have r1 : dRepT (.tup [.int 1]) (.int (sg : Int)) = some (.val (.tup (List.replicate sg (.int 1)))) := dRep1 (by omega) (by omega)
  have r0 : dRepT (.tup [.int 0]) (.int (sg : Int)) = some (.val (.tup (List.replicate sg (.int 0)))) := dRep1 (by omega) (by omega)
  have e1 : ((sg : Int) - 1).toNat = sg - 1 := by omega
  have r1' : dRepT (.tup [.int 1]) (.int ((sg : Int) - 1)) = some (.val (.tup (List.replicate (sg - 1) (.int 1)))) := by rw [dRep1 (by omega) (by omega), e1]
  have r0' : dRepT (.tup [.int 0]) (.int ((sg : Int) - 1)) = some (.val (.tup (List.replicate (sg - 1) (.int 0)))) := by rw [dRep1 (by omega) (by omega), e1]
  unfold F_l_flags
  rw [flB, Ex_mkF]
  simp (maxSteps := 1000000) [startE, Sx_for, r1, r0, r1', r0', a_lit, b_lit]
  refine ⟨by decide, by decide, by decide, by decide, ?_⟩
  refine lcF_spec hm (by omega) (by omega) fun cs hcs hcl => ?_
  simp (maxSteps := 1000000) [dTuple]
  rw [dAdd_tt (by simp; omega)]
  simp only [OpQ_some, norm_val]
  have hP : [D.tup [dS [97], D.tup (List.replicate sg (D.int 1))], D.tup [dS [98], D.tup (List.replicate sg (D.int 0))]] ++ cs = stA sg :: stB sg :: cs := rfl
  rw [hP]
  have kA : ∀ k, sok (k + 2) (stA sg) = true := fun k => sok2 (s1 (by decide)) (sok_rep (by omega))
  have kB : ∀ k, sok (k + 2) (stB sg) = true := fun k => sok2 (s1 (by decide)) (sok_rep (by omega))
  have sP : sA 4 (stA sg :: stB sg :: cs) := sA_cons (kA 2) (sA_cons (kB 2) fun d hd => sok_mono 3 d (hcs d hd) 4 (by decide))
  have lP : (stA sg :: stB sg :: cs).length ≤ 100 := by simp; omega
  refine ⟨rfl, firstbad_spec (k := 2) sP (by omega) ?_⟩

  have hfb := fb_all (sg := (sg : Int)) (n := (stA sg :: stB sg :: cs).length) (stA sg :: stB sg :: cs) 0
  have ok2 : ([stA sg, stB sg].all (stateB sg ([stA sg, stB sg] : List D).length)) = true := by
    simp [stA_ok, stB_ok]
  cases hf : fb (sg : Int) (stA sg :: stB sg :: cs).length 0 (stA sg :: stB sg :: cs) with
  | some i =>
    have hi : (0 : Int) ≤ (i : Int) := by omega
    have t0 : dSl (D.tup (stA sg :: stB sg :: cs)) none (some 2) = some (.val (.tup (stA sg :: stB sg :: []))) := dSlt_to (by decide)
    simp [hi, t0]
    exact flTail_spec hs hsg sA_nil (Nat.zero_le _) (show (true && List.all _ _) = true from ok2) q
  | none =>
    have okP := hfb.mpr hf
    simp
    exact flTail_spec hs hsg hcs (show cs.length ≤ 10 by omega) (show (true && List.all _ _) = true from okP) q
end K12
set_option Elab.async false
set_option linter.all false
set_option maxRecDepth 100000
set_option maxHeartbeats 4000000
set_option autoImplicit false
namespace K12
open PySem L2 L2.Pz
variable {X : XP} {Q : HV → Jr → Prop} {T J : Jr} {jc : List D} {env : En} {b : Nat}
theorem gS.state_ne {sg m : Nat} {n : Int} {d : D} (h : gS sg n d) (hn : m ≠ sg) : stateB m n d = false := by
  obtain ⟨l, ns, rfl, h1, h2, h3⟩ := h.ex
  show (nameB (dS l) && (decide (((ns.map D.int).length : Int) = m) && (ns.map D.int).all (numB n))) = false
  rw [List.length_map, h2, decide_eq_false (by omega)]
  simp
theorem gM.mac_ne {sg m : Nat} {ds : List D} (h : gM sg ds) (hl : 1 ≤ ds.length) (hn : m ≠ sg) : macB m (.tup ds) = false := by
  cases ds with
  | nil => simp at hl
  | cons d r =>
    show (decide (1 ≤ (d :: r).length) && ((stateB m (d :: r).length d) && r.all (stateB m (d :: r).length))) = false
    rw [(h d (by simp)).state_ne hn]
    simp
theorem gM.tri' {sg : Nat} {ds : List D} (h : gM sg ds) (hl : 1 ≤ ds.length ∧ ds.length ≤ 200) : K12.tri sg (.tup ds) = (("told" : Str), (ds.length : Int), ("" : Str)) := by
  have e1 : ¬(ds.length < 1 ∨ 200 < ds.length) := by omega
  unfold K12.tri
  dsimp only
  rw [if_neg e1, (fb_all ds 0).mp (List.all_eq_true.mpr fun d hd => (h d hd).state)]
theorem gM.tri_ne {sg m : Nat} {ds : List D} (h : gM sg ds) (hl : 1 ≤ ds.length ∧ ds.length ≤ 200) (hn : m ≠ sg) : K12.tri m (.tup ds) = (("raised" : Str), (0 : Int), ("state" : Str)) := by
  have e1 : ¬(ds.length < 1 ∨ 200 < ds.length) := by omega
  unfold K12.tri
  dsimp only
  rw [if_neg e1]
  cases ds with
  | nil => simp at hl
  | cons d r =>
    have e : fb m (d :: r).length 0 (d :: r) = some 0 := by
      unfold fb
      rw [if_neg]
      rw [(h d (by simp)).state_ne hn]
      decide
    rw [e]
    rfl
theorem others_spec {sg : Nat} {ds : List D} (hm : gM sg ds) (hsg : 1 ≤ sg ∧ sg ≤ 5) (hl : 1 ≤ ds.length ∧ ds.length ≤ 4) (hj : Jb b jc) (hb : b + 1000 ≤ LIM) (h : ∀ jc', Jb (b + 1000) jc' → Q (.val (.bl true)) (jc' :: T)) :
    Ex X (F_l_other_signs [.jar 0, .val (.int sg), .val (.tup ds)] (jc :: T)) Q := by
  have hL : (LIM : Nat) = 1000000000 := rfl
  unfold F_l_other_signs B_l_other_signs
  rw [Ex_mkF]
  simp [startE, Sx_for]
  refine ⟨by decide, ?_⟩
  refine Sx_loop (fun i env J => ∃ x3 x4 x5 x6 jc', env = [some (.jar 0), some (.val (.int sg)), some (.val (.tup ds)), x3, x4, x5, x6] ∧ J = jc' :: T ∧ Jb (b + 200 * i) jc') ⟨_, _, _, _, jc, rfl, rfl, hj⟩ ?_ ?_
  · rintro i d env J hd ⟨x3, x4, x5, x6, jc', rfl, rfl, hj'⟩
    obtain ⟨rfl, hi⟩ : d = .int ((i + 1 : Nat) : Int) ∧ i < 5 := by
      have := rgD_get hd
      exact ⟨by rw [this.1]; congr 1; omega, this.2⟩
    simp [tgName]
    refine setting_spec (sg := i + 1) ⟨by omega, by omega⟩ hj' (by omega) fun s jc2 hj2 hs => ?_
    simp
    have hk : sok 3 (.tup ds) = true := hm.sok hsg.2 (by omega)
    by_cases e : i + 1 = sg
    · have c1 : ((i : Int) + 1 == (sg : Int)) = true := by rw [beq_iff_eq]; omega
      have c2 : ((i : Int) + 1 = (sg : Int)) := by omega
      rw [c1]
      subst e
      refine whether_spec (k := 0) hs.stg hk (hm.mac hl.1) ?_
      simp
      refine ask_spec (k := 0) hs.stg hk ?_
      rw [hm.tri' ⟨hl.1, by omega⟩]
      simp
      refine ⟨by decide, fits_spec (t := (("told" : Str), (ds.length : Int), ("" : Str))) (show PyData.strOk ("told" : Str) = true by decide +kernel) (show PyData.strOk ("" : Str) = true by decide +kernel) ?_⟩
      simp
      exact hj2.mono (by omega)
    · have c1 : ((i : Int) + 1 == (sg : Int)) = false := by rw [beq_eq_false_iff_ne]; omega
      have c2 : ¬((i : Int) + 1 = (sg : Int)) := by omega
      rw [c1]
      refine whether_spec (k := 0) hs.stg hk (hm.mac_ne hl.1 e) ?_
      simp [c2]
      refine ask_spec (k := 0) hs.stg hk ?_
      rw [hm.tri_ne ⟨hl.1, by omega⟩ e]
      simp
      refine ⟨by decide, fits_spec (t := (("raised" : Str), (0 : Int), ("state" : Str))) (by decide +kernel) (by decide +kernel) ?_⟩
      simp
      exact hj2.mono (by omega)
  · rintro env J ⟨x3, x4, x5, x6, jc', rfl, rfl, hj'⟩
    have hj' : Jb (b + 200 * 5) jc' := hj'
    simp
    exact h _ (hj'.mono (by omega))
end K12
set_option Elab.async false
set_option linter.all false
set_option maxRecDepth 100000
set_option maxHeartbeats 4000000
set_option autoImplicit false
namespace K12
open PySem L2 L2.Pz
variable {X : XP} {Q : HV → Jr → Prop} {T J : Jr} {jc : List D} {env : En} {b : Nat}
def deepD : Nat → D
  | 0 => .tup []
  | n + 1 => .tup [deepD n]
theorem deep_sok : ∀ n, sok (n + 1) (deepD n) = true
  | 0 => sok_t sA_nil (by decide)
  | n + 1 => sok_t (sA_cons (deep_sok n) sA_nil) (by simp)
theorem deep_spec {sg : Nat} {s : D} (hs : stg sg s) (hsg : 1 ≤ sg ∧ sg ≤ 5) (hj : Jb b jc) (hb : b + 10 ≤ LIM) (h : ∀ jc', Jb (b + 10) jc' → Q (.val (.bl true)) (jc' :: T)) :
    Ex X (F_l_deep [.jar 0, .val s, .val (.int sg)] (jc :: T)) Q := by
  have hL : (LIM : Nat) = 1000000000 := rfl
  have b5 : 5 ≤ big := by decide
  have b4 : 4 ≤ big := by decide
  have b2 : 2 ≤ big := by decide
  have b1 : 1 ≤ big := by decide
  have hr : dRepT (.tup [.int 0]) (.int (sg : Int)) = some (.val (.tup (List.replicate sg (.int 0)))) := dRep1 (by omega) (by omega)
  unfold F_l_deep B_l_deep
  rw [Ex_mkF]
  simp [startE, Sx_for, b1, b2, b4, b5, hr, a_lit]
  refine ⟨by decide, ?_⟩
  refine Sx_loop (fun i env J => ∃ x4, env = [some (.jar 0), some (.val s), some (.val (.int sg)), some (.val (deepD i)), x4, none, none, none] ∧ J = jc :: T) ⟨_, rfl, rfl⟩ ?_ ?_
  · rintro i d env J hd ⟨x4, rfl, rfl⟩
    simp [tgName, b1]
    rfl
  · rintro env J ⟨x4, rfl, rfl⟩
    have hdk : ∀ k, 91 ≤ k → sok k (deepD (rgD 0 90).length) = true := fun k hk => sok_mono 91 _ (deep_sok 90) k hk
    generalize deepD (rgD 0 90).length = dp at hdk
    simp [Sx_for, b1, b2, b4, b5, hr, a_lit]
    have hh : ∀ k, sok (k + 1) (.tup (List.replicate sg (.int 0))) = true := fun k => sok_rep (by omega)
    rw [dSlt_from (by decide)]
    simp
    rw [dAdd_tt (by simp; omega)]
    simp
    have hq : sok 93 (.tup (dp :: List.replicate (sg - 1) (.int 0))) = true := sok_t (sA_cons (hdk 92 (by decide)) fun d hd => by rw [List.eq_of_mem_replicate hd]; exact sok_int) (by simp; omega)
    have al : sA 96 [dp, D.tup [dp], D.tup [D.tup [dS [97], dp]], D.tup [D.tup [dp, D.tup (List.replicate sg (D.int 0))]], D.tup [D.tup [dS [97], .tup (dp :: List.replicate (sg - 1) (.int 0))]]] :=
      sA_cons (hdk 96 (by decide)) (sA_cons (sok_t (sA_cons (hdk 95 (by decide)) sA_nil) (by simp)) (sA_cons (sok_t (sA_cons (sok2 (s1 (by decide)) (hdk 94 (by decide))) sA_nil) (by simp)) (sA_cons (sok_t (sA_cons (sok2 (hdk 94 (by decide)) (hh 93)) sA_nil) (by simp))
        (sA_cons (sok_t (sA_cons (sok2 (s1 (by decide)) (sok_mono 93 _ hq 94 (by decide))) sA_nil) (by simp)) sA_nil))))
    refine Sx_loop (fun i env J => ∃ x3 x4 x6 x7, env = [some (.jar 0), some (.val s), some (.val (.int sg)), x3, x4, some (.val (.tup (List.replicate sg (.int 0)))), x6, x7] ∧ J = jc :: T) ⟨_, _, _, _, rfl, rfl⟩ ?_ ?_
    · rintro i d env J hd ⟨x3, x4, x6, x7, rfl, rfl⟩
      have ho := al d (List.mem_of_getElem? hd)
      simp [tgName]
      refine holds_spec (k := 93) hs ho ?_
      simp
    · rintro env J ⟨x3, x4, x6, x7, rfl, rfl⟩
      simp
      refine draw_spec hj (by omega) (by decide) (by decide) fun r jc2 r0 r1 hj2 => ?_
      simp
      refine draw_spec hj2 (by omega) (by decide) (by decide) fun n jc3 n0 n1 hj3 => ?_
      simp
      rw [dRep1 (by omega) (by omega)]
      have hk : ∀ k, sok (k + 1) (.tup (List.replicate (300 + n).toNat (.int r))) = true := fun k => sok_rep (by omega)
      have hl : ∀ k, sok (k + 1) (.lst (List.replicate (300 + n).toNat (.int r))) = true := fun k => sok_l (fun d hd => by rw [List.eq_of_mem_replicate hd]; exact sok_int) (by simp; omega)
      simp [dList]
      generalize List.replicate (300 + n).toNat (D.int r) = row at hk hl
      have al : sA 6 [D.tup row, D.lst row, D.tup [D.tup [dS [97], D.tup row]], D.tup [D.tup [D.tup row, D.tup (List.replicate sg (D.int 0))]]] :=
        sA_cons (hk 5) (sA_cons (hl 5) (sA_cons (sok_t (sA_cons (sok2 (s1 (by decide)) (hk 3)) sA_nil) (by simp)) (sA_cons (sok_t (sA_cons (sok2 (hk 3) (hh 3)) sA_nil) (by simp)) sA_nil)))
      refine Sx_loop (fun i env J => ∃ x3 x4 x5 x6 x7, env = [some (.jar 0), some (.val s), some (.val (.int sg)), x3, x4, x5, x6, x7] ∧ J = jc3 :: T) ⟨_, _, _, _, _, rfl, rfl⟩ ?_ ?_
      · rintro i d env J hd ⟨x3, x4, x5, x6, x7, rfl, rfl⟩
        have ho := al d (List.mem_of_getElem? hd)
        simp [tgName]
        refine holds_spec (k := 3) hs ho ?_
        simp
      · rintro env J ⟨x3, x4, x5, x6, x7, rfl, rfl⟩
        simp
        exact h _ (hj3.mono (by omega))
end K12
set_option Elab.async false
set_option linter.all false
set_option maxRecDepth 100000
set_option maxHeartbeats 4000000
set_option autoImplicit false
namespace K12
open PySem L2 L2.Pz
variable {X : XP} {Q : HV → Jr → Prop} {T J : Jr} {jc : List D} {env : En} {b : Nat}
theorem w_lit : D.str (Str.ofString "w") = dS [119] := by with_unfolding_all rfl
def wcs (k : Nat) : List Nat := (toString (k : Int)).toList.map Char.toNat
theorem w_str : ∀ k : Fin 97, (Str.ofString (toString ((k.val : Nat) : Int))).cps = (S (wcs k.val)).cps := by decide +kernel
theorem w_nm : ∀ k : Fin 97, nameB (dS (119 :: wcs k.val)) = true := by decide +kernel
theorem w_log : ∀ k : Fin 97, ((k.val : Nat) : Int).natAbs.log2 < 1920 := by decide +kernel
theorem w_all {k : Nat} (h : k < 97) : dStrI (.int (k : Int)) = some (.val (dS (wcs k))) ∧ gN (119 :: wcs k) := by
  refine ⟨?_, nameB_iff.mp (w_nm ⟨k, h⟩)⟩
  show (if _ then _ else _) = _
  rw [if_pos (w_log ⟨k, h⟩)]
  exact congrArg (fun x => some (HV.val (D.str ⟨x⟩))) (w_str ⟨k, h⟩)
theorem mul_sm {x y : Int} (hx : 0 ≤ x ∧ x < 2 ^ 64) (hy : 0 ≤ y ∧ y < 2 ^ 64) : dMul (.int x) (.int y) = some (.val (.int (x * y))) := by
  have h1 : x.natAbs.log2 < 64 := log2_lt' (by omega) (by decide)
  have h2 : y.natAbs.log2 < 64 := log2_lt' (by omega) (by decide)
  show (if decide (x.natAbs.log2 + y.natAbs.log2 < 1000000) = true then _ else _) = _
  rw [if_pos (decide_eq_true (by omega))]
theorem mod_sm {x y : Int} (hy : 0 < y) : dMod (.int x) (.int y) = some (.val (.int (x % y))) := by
  show (if decide (0 < y) = true then _ else _) = _
  rw [if_pos (decide_eq_true hy)]
theorem lcL_spec {sg m at' : Nat} {fi st : Int} {e0 e5 e7 e8 : Option HV} (h1 : 1 ≤ m ∧ m ≤ 8000) (hs : sg ≤ 5) (ha : at' < m) (hf : 0 ≤ fi ∧ fi < m) (ht : 1 ≤ st ∧ st ≤ 6) (q : ∀ ns : List Int, ns.length = sg → (∀ z ∈ ns, 0 ≤ z ∧ z < m) → Q (.new (ns.map D.int)) J) :
    Ex X (eLc (iRange1 (eName 1)) (tgName 8) bYes (eBin dMod (eBin dAdd (eBin dAdd (eName 3) (eBin dMul (eName 6) (eName 4))) (eBin dMul (eName 8) (eC (.int 7)))) (eName 2)) [8] [e0, some (.val (.int sg)), some (.val (.int m)), some (.val (.int fi)), some (.val (.int st)), e5, some (.val (.int at')), e7, e8] J) Q := by
  refine Ex_lcX ?_
  have er : rgOk (sg : Int) = true := by unfold rgOk; simp; omega
  simp [wipeE]
  refine ⟨er, Ex_lcLoop (fun i acc J' => ∃ ns : List Int, acc = ns.map D.int ∧ J' = J ∧ ns.length = i ∧ ∀ z ∈ ns, 0 ≤ z ∧ z < m) ⟨[], rfl, rfl, rfl, (fun c hc => by cases hc)⟩ ?_ ?_⟩
  · rintro i d acc J' hd ⟨ns, rfl, rfl, hl, hr⟩
    obtain ⟨rfl, hi⟩ := rgD_get hd
    simp [tgName]
    rw [mul_sm (by omega) (by omega), mul_sm (x := (i : Int)) (by omega) (by decide)]
    simp
    rw [mod_sm (by omega)]
    simp
    refine ⟨show _ < 16777216 by omega, ns ++ [(fi + (at' : Int) * st + (i : Int) * 7) % (m : Int)], by simp, by simp [hl], fun z hz => ?_⟩
    rcases List.mem_append.mp hz with hz | hz
    · exact hr z hz
    · rw [List.mem_singleton.mp hz]
      exact ⟨Int.emod_nonneg _ (by omega), Int.emod_lt_of_pos _ (by omega)⟩
  · rintro acc J' ⟨ns, rfl, rfl, hl, hr⟩
    rw [rgD_len] at hl
    exact q ns (by simpa using hl) hr
theorem long_spec {sg m : Nat} (hj : Jb b jc) (hb : b + 2 ≤ LIM) (hsg : 1 ≤ sg ∧ sg ≤ 5) (hm : 1 ≤ m ∧ m ≤ 8000) (h : ∀ ds jc', Jb (b + 2) jc' → ds.length = m → gM sg ds → Q (.val (.tup ds)) (jc' :: T)) : Ex X (F_l_long [.jar 0, .val (.int sg), .val (.int m)] (jc :: T)) Q := by
  have hL : (LIM : Nat) = 1000000000 := rfl
  unfold F_l_long B_l_long
  rw [Ex_mkF]
  have e0 : rgOk (m : Int) = true := by unfold rgOk; simp; omega
  simp [startE, Sx_for, e0]
  refine draw_spec hj (by omega) (by omega) (by omega) fun fi jc1 f0 f1 hj1 => ?_
  simp
  refine draw_spec hj1 (by omega) (by decide) (by decide) fun st jc2 t0 t1 hj2 => ?_
  simp [e0]
  refine Sx_loop (fun i env J => ∃ x6 x7 x8 out, env = [some (.jar 0), some (.val (.int sg)), some (.val (.int m)), some (.val (.int fi)), some (.val (.int (1 + st))), some (.jar (T.length + 1)), x6, x7, x8] ∧ J = jc2 :: (T ++ [out]) ∧ out.length = i ∧ ∀ d ∈ out, gS sg m d) ⟨_, _, _, [], rfl, by simp, rfl, (fun d hd => by cases hd)⟩ ?_ ?_
  · rintro i d env J hd ⟨x6, x7, x8, out, rfl, rfl, hl, ho⟩
    obtain ⟨rfl, hi⟩ := rgD_get hd
    have hi : i < m := by simpa using hi
    simp [tgName]
    refine lcL_spec (J := jc2 :: (T ++ [out])) hm (by omega) hi ⟨f0, f1⟩ ⟨by omega, by omega⟩ fun ns hn hr => ?_
    obtain ⟨w1, w2⟩ := w_all (k := i % 97) (Nat.mod_lt _ (by decide))
    have e9 : (i : Int) % 97 = ((i % 97 : Nat) : Int) := by omega
    have w7 := (gN7 w2).2
    simp [dTuple]
    rw [mod_sm (by decide)]
    simp
    rw [e9, w1]
    simp
    rw [w_lit, dAdd_S (a := [119]) (b := wcs (i % 97)) (show _ ≤ 16777216 by simp at w7 ⊢; omega)]
    simp
    refine ⟨by decide, show _ < 16777216 by omega, hl, fun d hd => ?_⟩
    rcases hd with hd | hd
    · exact ho d hd
    · rw [hd]; exact ⟨⟨119 :: wcs (i % 97), ns, rfl, w2, hn, hr⟩⟩
  · rintro env J ⟨x6, x7, x8, out, rfl, rfl, hl, ho⟩
    rw [rgD_len] at hl
    have hl : out.length = m := by simpa using hl
    simp [dTuple]
    exact h _ _ hj2 hl fun d hd => by rw [hl]; exact ho d hd
end K12
set_option Elab.async false
set_option linter.all false
set_option maxRecDepth 100000
set_option maxHeartbeats 4000000
set_option autoImplicit false
namespace K12
open PySem L2 L2.Pz
variable {X : XP} {Q : HV → Jr → Prop} {T J : Jr} {jc : List D} {env : En} {b : Nat}
theorem gM.sokL {sg k : Nat} {ds : List D} (h : gM sg ds) (hs : sg ≤ 5) (hl : ds.length ≤ 100000) : K12.sok (k + 3) (.lst ds) = true := sok_l (fun d hd => (h d hd).sok (by omega)) (by omega)
theorem great_spec {sg : Nat} {s : D} (hs : stg sg s) (hsg : 1 ≤ sg ∧ sg ≤ 5) (hj : Jb b jc) (hb : b + 100 ≤ LIM) (h : ∀ jc', Jb (b + 100) jc' → Q (.val (.bl true)) (jc' :: T)) :
    Ex X (F_l_great [.jar 0, .val s, .val (.int sg)] (jc :: T)) Q := by
  have hL : (LIM : Nat) = 1000000000 := rfl
  unfold F_l_great B_l_great
  rw [Ex_mkF]
  simp [startE, Sx_for]
  refine ⟨by decide, ?_⟩
  refine Sx_loop (fun i env J => ∃ x3 x4 x5 x6 x7 jc', env = [some (.jar 0), some (.val s), some (.val (.int sg)), x3, x4, x5, x6, x7] ∧ J = jc' :: T ∧ Jb (b + 20 * i) jc') ⟨_, _, _, _, _, jc, rfl, rfl, hj⟩ ?_ ?_
  · rintro i d env J hd ⟨x3, x4, x5, x6, x7, jc', rfl, rfl, hj'⟩
    have hi : i < 3 := (List.getElem?_eq_some_iff.mp hd).1
    obtain ⟨n, rfl, hn⟩ : ∃ n : Nat, d = .int (n : Int) ∧ 199 ≤ n ∧ n ≤ 201 := by
      have := List.mem_of_getElem? hd
      simp at this
      rcases this with rfl | rfl | rfl
      · exact ⟨199, rfl, by decide⟩
      · exact ⟨200, rfl, by decide⟩
      · exact ⟨201, rfl, by decide⟩
    simp [tgName]
    refine long_spec hj' (by omega) hsg ⟨by omega, by omega⟩ fun ds jc1 hj1 hl hm => ?_
    simp
    refine whether_spec (k := 0) hs (hm.sok hsg.2 (by omega)) (hm.mac (by omega)) ?_
    simp
    refine holds_spec (k := 0) hs (hm.sok hsg.2 (by omega)) ?_
    simp
    refine draw_spec hj1 (by omega) (by decide) (by decide) fun r jc2 r0 r1 hj2 => ?_
    simp
    refine draw_spec hj2 (by omega) (by omega) (by omega) fun r' jc3 r0' r1' hj3 => ?_
    simp
    rw [mul_sm (by omega) (by omega)]
    obtain ⟨at', ha, a0, a1⟩ : ∃ at' : Int, ((n : Int) - 1 - r * r') = at' ∧ 0 ≤ at' ∧ at' < n := by
      have : r = 0 ∨ r = 1 := by omega
      rcases this with rfl | rfl
      · exact ⟨_, rfl, by omega, by omega⟩
      · exact ⟨_, rfl, by omega, by omega⟩
    simp [ha]
    rw [dSlt_to a0, ixT a0 (by omega)]
    simp
    refine draw_spec hj3 (by omega) (by decide) (by decide) fun way jc4 w0 w1 hj4 => ?_
    simp
    refine bstate_spec (hm _ (List.getElem_mem (n := at'.toNat) (by omega))) hsg (by omega) (by omega) hj4 (by omega) fun hv d jc5 hdv hk hj5 => ?_
    simp [hdv]
    refine ⟨by decide, ?_⟩
    rw [dAdd_tt (by simp; omega)]
    simp
    rw [dSlt_from (by omega)]
    simp
    rw [dAdd_tt (by simp; omega)]
    simp
    have hbent : sok 5 (.tup (ds.take at'.toNat ++ d :: ds.drop (at' + 1).toNat)) = true := by
      have := bent_sok (xs := ds) (i := at'.toNat) (j := (at' + 1).toNat) (k := 4) (fun d hd => (hm d hd).sok (by omega)) hk (by omega)
      simpa using this
    refine holds_spec (k := 2) hs hbent ?_
    simp [dList]
    refine holds_spec (k := 0) hs (hm.sokL hsg.2 (by omega)) ?_
    simp
    exact hj5.mono (by omega)
  · rintro env J ⟨x3, x4, x5, x6, x7, jc', rfl, rfl, hj'⟩
    have hj' : Jb (b + 20 * 3) jc' := hj'
    simp
    refine draw_spec hj' (by omega) (by decide) (by decide) fun r jc2 r0 r1 hj2 => ?_
    have er : (202 + r) = (((202 + r).toNat : Nat) : Int) := by omega
    simp
    rw [er]
    have el : (202 + r).toNat ≤ 2000 := by omega
    have e2 : 202 ≤ (202 + r).toNat := by omega
    generalize (202 + r).toNat = m at el e2
    refine long_spec hj2 (by omega) hsg ⟨by omega, by omega⟩ fun ds jc3 hj3 hl hm => ?_
    simp
    rw [dSlt_to (by omega)]
    simp
    refine holds_spec (k := 0) hs (hm.sok hsg.2 (by omega)) ?_
    simp [truth]
    refine holds_spec (k := 0) hs (sok_t (fun d hd => (hm d (List.mem_of_mem_take hd)).sok (by omega)) (by simp; omega)) ?_
    simp
    exact h _ (hj3.mono (by omega))
theorem vast_spec {sg : Nat} {s : D} (hs : stg sg s) (hsg : 1 ≤ sg ∧ sg ≤ 5) (hj : Jb b jc) (hb : b + 100 ≤ LIM) (h : ∀ jc', Jb (b + 100) jc' → Q (.val (.bl true)) (jc' :: T)) :
    Ex X (F_l_vast [.jar 0, .val s, .val (.int sg)] (jc :: T)) Q := by
  have hL : (LIM : Nat) = 1000000000 := rfl
  unfold F_l_vast B_l_vast
  rw [Ex_mkF]
  simp [startE, Sx_for]
  refine draw_spec hj (by omega) (by decide) (by decide) fun r jc2 r0 r1 hj2 => ?_
  have er : (3000 + r) = (((3000 + r).toNat : Nat) : Int) := by omega
  simp
  rw [er]
  have el : (3000 + r).toNat ≤ 8000 := by omega
  have e2 : 3000 ≤ (3000 + r).toNat := by omega
  generalize (3000 + r).toNat = m at el e2
  refine long_spec hj2 (by omega) hsg ⟨by omega, by omega⟩ fun ds jc3 hj3 hl hm => ?_
  simp
  refine draw_spec hj3 (by omega) (by decide) (by decide) fun r' jc4 r0' r1' hj4 => ?_
  simp
  obtain ⟨at', ha, a0, a1⟩ : ∃ at' : Int, ((m : Int) - 1 - r') = at' ∧ 0 ≤ at' ∧ at' < m := ⟨_, rfl, by omega, by omega⟩
  simp [ha]
  rw [dSlt_to a0, ixT a0 (by omega)]
  simp
  refine draw_spec hj4 (by omega) (by decide) (by decide) fun way jc5 w0 w1 hj5 => ?_
  simp
  refine bstate_spec (hm _ (List.getElem_mem (n := at'.toNat) (by omega))) hsg (by omega) (by omega) hj5 (by omega) fun hv d jc6 hdv hk hj6 => ?_
  simp [hdv]
  refine ⟨by decide, ?_⟩
  rw [dAdd_tt (by simp; omega)]
  simp
  rw [dSlt_from (by omega)]
  simp
  rw [dAdd_tt (by simp; omega)]
  simp
  have hbent : sok 5 (.tup (ds.take at'.toNat ++ d :: ds.drop (at' + 1).toNat)) = true := by
    have := bent_sok (xs := ds) (i := at'.toNat) (j := (at' + 1).toNat) (k := 4) (fun d hd => (hm d hd).sok (by omega)) hk (by omega)
    simpa using this
  refine ask_spec (k := 0) hs (hm.sok hsg.2 (by omega)) ?_
  have ht : K12.tri sg (.tup ds) = (("raised" : Str), (-1 : Int), ("states" : Str)) := by
    unfold K12.tri
    dsimp only
    rw [if_pos (by omega)]
  rw [ht]
  simp
  refine ⟨by decide, fits_spec (t := (("raised" : Str), (-1 : Int), ("states" : Str))) (by decide +kernel) (by decide +kernel) ?_⟩
  simp
  refine whether_spec (k := 0) hs (hm.sok hsg.2 (by omega)) (hm.mac (by omega)) ?_
  simp
  refine isdue_spec (k := 2) hbent ?_
  simp
  refine whether_spec (k := 2) hs hbent rfl ?_
  simp
  exact h _ (hj6.mono (by omega))
end K12
set_option Elab.async false
set_option linter.all false
set_option maxRecDepth 100000
set_option maxHeartbeats 4000000
set_option autoImplicit false
namespace K12
open PySem L2 L2.Pz
variable {X : XP} {Q : HV → Jr → Prop} {T J : Jr} {jc : List D} {env : En}
theorem law_spec (ns : List Int) (hn : ns.length ≤ 63) : Ex nX (F_law [.val (.lst (ns.map D.int))] []) (fun h J => h = .val (.bl true) ∧ J = []) := by
  have hL : (LIM : Nat) = 1000000000 := rfl
  unfold F_law B_law
  rw [Ex_mkF]
  simp [startE, Sx_for]
  refine jar_spec ns (fun jc hj => ?_) hn
  obtain ⟨x, y, z, e3⟩ : ∃ x y z, jc = [D.int x, D.int y, D.int z] := by
    obtain ⟨g, s, c, e, _⟩ := hj
    exact ⟨_, _, _, e⟩
  have x0 : dIx (.lst jc) (.int 0) = some (.val (.int x)) := by rw [e3]; rfl
  have x1 : dIx (.lst jc) (.int 1) = some (.val (.int y)) := by rw [e3]; rfl
  simp [x0, x1, dToInt]
  rw [mod_sm (by decide)]
  simp
  refine draw_spec (T := []) hj (by omega) (by decide) (by decide) fun r jc1 r0 r1 hj1 => ?_
  have er : (1 + r) = (((1 + r).toNat : Nat) : Int) := by omega
  simp
  rw [er]
  have hsg : 1 ≤ (1 + r).toNat ∧ (1 + r).toNat ≤ 5 := by omega
  generalize (1 + r).toNat = sg at hsg
  refine setting_spec (T := []) hsg hj1 (by omega) fun s jc2 hj2 hs => ?_
  have hst := hs.stg
  simp
  refine draw_spec (T := []) hj2 (by omega) (by decide) (by decide) fun r' jc3 r0' r1' hj3 => ?_
  have er' : (1 + r') = (((1 + r').toNat : Nat) : Int) := by omega
  simp
  rw [er']
  have hm1 : 1 ≤ (1 + r').toNat ∧ (1 + r').toNat ≤ 4 := by omega
  generalize (1 + r').toNat = m at hm1
  refine machine_spec (T := []) hj3 (by omega) hsg hm1 fun ds jc4 hj4 hl hm => ?_
  have hl1 : 1 ≤ ds.length ∧ ds.length ≤ 4 := by omega
  have hk : sok 3 (.tup ds) = true := hm.sok hsg.2 (by omega)
  simp
  refine ask_spec (k := 0) hst hk ?_
  rw [hm.tri' ⟨hl1.1, by omega⟩]
  simp
  refine ⟨by decide, fits_spec (t := (("told" : Str), (ds.length : Int), ("" : Str))) (show PyData.strOk ("told" : Str) = true by decide +kernel) (show PyData.strOk ("" : Str) = true by decide +kernel) ?_⟩
  simp
  refine whether_spec (k := 0) hst hk (hm.mac hl1.1) ?_
  simp
  refine bent_ones_spec (T := []) hst hm hsg hl1 hj4 (by omega) fun jc5 hj5 => ?_
  simp
  refine other_spec (T := []) hst hm hsg hl1 hj5 (by omega) fun jc6 hj6 => ?_
  simp
  refine names_spec (T := []) hs hsg hj6 (by omega) fun jc7 hj7 => ?_
  simp
  refine flags_spec hst hm hsg hl1 ?_
  simp
  refine others_spec (T := []) hm hsg hl1 hj7 (by omega) fun jc8 hj8 => ?_
  simp
  refine deep_spec (T := []) hst hsg hj8 (by omega) fun jc9 hj9 => ?_
  simp
  rw [mod_sm (by decide)]
  simp
  have fin : ∀ jc' : List D, Ex (fun c fs J => False) (F_l_holds [HV.val s, HV.val (D.tup ds), HV.val (D.bl true)] [jc']) fun h J => Ex nX (outH 0 J h) fun h J => h = HV.val (D.bl true) ∧ J = [] := fun jc' => by
    refine holds_spec (k := 0) hst hk ?_
    simp
  by_cases c2 : (y + x) % 155 % 31 = 7
  · by_cases c1 : (y + x) % 5 = 2
    · simp only [c1, if_true]
      refine great_spec (T := []) hst hsg hj9 (by omega) fun jc10 hj10 => ?_
      simp
      rw [mod_sm (by decide)]
      simp only [OpQ_some, deref_val, c2]
      simp
      refine vast_spec (T := []) hst hsg hj10 (by omega) fun jc11 hj11 => ?_
      simp
      exact fin _
    · simp only [c1, if_false]
      rw [mod_sm (by decide)]
      simp only [OpQ_some, deref_val, c2]
      simp
      refine vast_spec (T := []) hst hsg hj9 (by omega) fun jc11 hj11 => ?_
      simp
      exact fin _
  · have c3 : ¬((y + x) % 31 = 7) := by omega
    by_cases c1 : (y + x) % 5 = 2
    · simp only [c1, if_true]
      refine great_spec (T := []) hst hsg hj9 (by omega) fun jc10 hj10 => ?_
      simp
      rw [mod_sm (by decide)]
      simp [c3]
      exact fin _
    · simp only [c1, if_false]
      rw [mod_sm (by decide)]
      simp [c3]
      exact fin _
theorem law_true (ns : List Int) (h : ns.length ≤ 63) : F_law [.val (.lst (ns.map D.int))] [] = .ok (.val (.bl true)) [] := by
  have e := (law_spec ns h).out
  cases r : F_law [.val (.lst (ns.map D.int))] [] with
  | ok a J =>
    rw [r] at e
    obtain ⟨rfl, rfl⟩ := e
    rfl
  | err c fs J => rw [r] at e; exact e.elim
  | stuck => rw [r] at e; exact e.elim
end K12
set_option Elab.async false
set_option linter.all false
set_option maxRecDepth 100000
set_option maxHeartbeats 4000000
set_option autoImplicit false
namespace K12
open PySem PySem.Spec PyProof.Rows L2 L2.Pz
def top (i : Nat) : Stmt := PySem.Challenge.pw_howeverheard_k12_check_machine.main.body.getD i (.Pass ⟨0, 0, 0, 0⟩)
abbrev s_l_jar : Stmt := top 28
abbrev s_l_draw : Stmt := top 29
abbrev s_l_reserved : Stmt := top 30
abbrev s_l_is_name : Stmt := top 31
abbrev s_l_name : Stmt := top 32
abbrev s_l_setting : Stmt := top 33
abbrev s_l_machine : Stmt := top 34
abbrev s_is_integer : Stmt := top 11
abbrev s_integer_within : Stmt := top 12
abbrev s_is_number : Stmt := top 13
abbrev s_tuple_of : Stmt := top 14
abbrev s_check_name : Stmt := top 21
abbrev s_is_name : Stmt := top 22
abbrev s_is_state : Stmt := top 24
abbrev s_check_machine : Stmt := top 25
abbrev s_l_ask : Stmt := top 40
abbrev s_l_fits : Stmt := top 41
abbrev s_is_machine : Stmt := top 26
abbrev s_l_whether : Stmt := top 42
abbrev s_l_stands : Stmt := top 36
abbrev s_l_first_bad : Stmt := top 37
abbrev s_l_due : Stmt := top 38
abbrev s_l_is_due : Stmt := top 39
abbrev s_l_holds : Stmt := top 43
abbrev s_l_bent_word : Stmt := top 44
abbrev s_l_bent_number : Stmt := top 45
abbrev s_l_bent_state : Stmt := top 46
abbrev s_l_plain_same : Stmt := top 47
abbrev s_l_plain_copy : Stmt := top 48
abbrev s_l_bent_ones : Stmt := top 49
abbrev s_l_other_things : Stmt := top 50
abbrev s_l_names : Stmt := top 51
abbrev s_l_flags : Stmt := top 52
abbrev s_l_other_signs : Stmt := top 53
abbrev s_l_long : Stmt := top 35
abbrev s_l_great : Stmt := top 54
abbrev s_l_vast : Stmt := top 55
abbrev s_l_deep : Stmt := top 56
abbrev s_law : Stmt := top 57
structure Tx (Pr : Program) (K : PySem.W.Frag) (mg : Str → Option Value) where
  a_l_jar : Addr
  d_l_jar : FuncData
  p_l_jar : FnF K mg "_law_jar" s_l_jar a_l_jar d_l_jar ["script"]
  a_l_draw : Addr
  d_l_draw : FuncData
  p_l_draw : FnF K mg "_law_draw" s_l_draw a_l_draw d_l_draw ["jar", "many"]
  a_l_reserved : Addr
  d_l_reserved : FuncData
  p_l_reserved : FnF K mg "_law_reserved" s_l_reserved a_l_reserved d_l_reserved []
  a_l_is_name : Addr
  d_l_is_name : FuncData
  p_l_is_name : FnF K mg "_law_is_name" s_l_is_name a_l_is_name d_l_is_name ["word"]
  a_l_name : Addr
  d_l_name : FuncData
  p_l_name : FnF K mg "_law_name" s_l_name a_l_name d_l_name ["jar"]
  a_l_setting : Addr
  d_l_setting : FuncData
  p_l_setting : FnF K mg "_law_setting" s_l_setting a_l_setting d_l_setting ["jar", "many"]
  a_l_machine : Addr
  d_l_machine : FuncData
  p_l_machine : FnF K mg "_law_machine" s_l_machine a_l_machine d_l_machine ["jar", "signs", "many"]
  a_is_integer : Addr
  d_is_integer : FuncData
  p_is_integer : FnF K mg "is_integer" s_is_integer a_is_integer d_is_integer ["thing"]
  a_integer_within : Addr
  d_integer_within : FuncData
  p_integer_within : FnF K mg "integer_within" s_integer_within a_integer_within d_integer_within ["thing", "low", "high"]
  a_is_number : Addr
  d_is_number : FuncData
  p_is_number : FnF K mg "is_number" s_is_number a_is_number d_is_number ["thing", "many"]
  a_tuple_of : Addr
  d_tuple_of : FuncData
  p_tuple_of : FnF K mg "tuple_of" s_tuple_of a_tuple_of d_tuple_of ["thing", "many"]
  a_check_name : Addr
  d_check_name : FuncData
  p_check_name : FnF K mg "check_name" s_check_name a_check_name d_check_name ["thing"]
  a_is_name : Addr
  d_is_name : FuncData
  p_is_name : FnF K mg "is_name" s_is_name a_is_name d_is_name ["thing"]
  a_is_state : Addr
  d_is_state : FuncData
  p_is_state : FnF K mg "is_state" s_is_state a_is_state d_is_state ["many", "states", "thing"]
  a_check_machine : Addr
  d_check_machine : FuncData
  p_check_machine : FnF K mg "check_machine" s_check_machine a_check_machine d_check_machine ["setting", "thing"]
  a_l_ask : Addr
  d_l_ask : FuncData
  p_l_ask : FnF K mg "_law_ask" s_l_ask a_l_ask d_l_ask ["setting", "thing", "named"]
  a_l_fits : Addr
  d_l_fits : FuncData
  p_l_fits : FnF K mg "_law_fits" s_l_fits a_l_fits d_l_fits ["told", "due"]
  a_is_machine : Addr
  d_is_machine : FuncData
  p_is_machine : FnF K mg "is_machine" s_is_machine a_is_machine d_is_machine ["setting", "thing"]
  a_l_whether : Addr
  d_l_whether : FuncData
  p_l_whether : FnF K mg "_law_whether" s_l_whether a_l_whether d_l_whether ["setting", "thing", "due", "named"]
  a_l_stands : Addr
  d_l_stands : FuncData
  p_l_stands : FnF K mg "_law_stands" s_l_stands a_l_stands d_l_stands ["state", "signs", "many"]
  a_l_first_bad : Addr
  d_l_first_bad : FuncData
  p_l_first_bad : FnF K mg "_law_first_bad" s_l_first_bad a_l_first_bad d_l_first_bad ["signs", "thing"]
  a_l_due : Addr
  d_l_due : FuncData
  p_l_due : FnF K mg "_law_due" s_l_due a_l_due d_l_due ["signs", "thing"]
  a_l_is_due : Addr
  d_l_is_due : FuncData
  p_l_is_due : FnF K mg "_law_is_due" s_l_is_due a_l_is_due d_l_is_due ["signs", "thing"]
  a_l_holds : Addr
  d_l_holds : FuncData
  p_l_holds : FnF K mg "_law_holds" s_l_holds a_l_holds d_l_holds ["setting", "thing", "named"]
  a_l_bent_word : Addr
  d_l_bent_word : FuncData
  p_l_bent_word : FnF K mg "_law_bent_word" s_l_bent_word a_l_bent_word d_l_bent_word ["jar", "word", "way"]
  a_l_bent_number : Addr
  d_l_bent_number : FuncData
  p_l_bent_number : FnF K mg "_law_bent_number" s_l_bent_number a_l_bent_number d_l_bent_number ["jar", "many", "way"]
  a_l_bent_state : Addr
  d_l_bent_state : FuncData
  p_l_bent_state : FnF K mg "_law_bent_state" s_l_bent_state a_l_bent_state d_l_bent_state ["jar", "state", "many", "way"]
  a_l_plain_same : Addr
  d_l_plain_same : FuncData
  p_l_plain_same : FnF K mg "_law_plain_same" s_l_plain_same a_l_plain_same d_l_plain_same ["one", "other"]
  a_l_plain_copy : Addr
  d_l_plain_copy : FuncData
  p_l_plain_copy : FnF K mg "_law_plain_copy" s_l_plain_copy a_l_plain_copy d_l_plain_copy ["thing"]
  a_l_bent_ones : Addr
  d_l_bent_ones : FuncData
  p_l_bent_ones : FnF K mg "_law_bent_ones" s_l_bent_ones a_l_bent_ones d_l_bent_ones ["jar", "setting", "machine"]
  a_l_other_things : Addr
  d_l_other_things : FuncData
  p_l_other_things : FnF K mg "_law_other_things" s_l_other_things a_l_other_things d_l_other_things ["jar", "setting", "machine"]
  a_l_names : Addr
  d_l_names : FuncData
  p_l_names : FnF K mg "_law_names" s_l_names a_l_names d_l_names ["jar", "setting"]
  a_l_flags : Addr
  d_l_flags : FuncData
  p_l_flags : FnF K mg "_law_flags" s_l_flags a_l_flags d_l_flags ["setting", "signs", "machine"]
  a_l_other_signs : Addr
  d_l_other_signs : FuncData
  p_l_other_signs : FnF K mg "_law_other_signs" s_l_other_signs a_l_other_signs d_l_other_signs ["jar", "signs", "machine"]
  a_l_long : Addr
  d_l_long : FuncData
  p_l_long : FnF K mg "_law_long" s_l_long a_l_long d_l_long ["jar", "signs", "many"]
  a_l_great : Addr
  d_l_great : FuncData
  p_l_great : FnF K mg "_law_great" s_l_great a_l_great d_l_great ["jar", "setting", "signs"]
  a_l_vast : Addr
  d_l_vast : FuncData
  p_l_vast : FnF K mg "_law_vast" s_l_vast a_l_vast d_l_vast ["jar", "setting", "signs"]
  a_l_deep : Addr
  d_l_deep : FuncData
  p_l_deep : FnF K mg "_law_deep" s_l_deep a_l_deep d_l_deep ["jar", "setting", "signs"]
  a_law : Addr
  d_law : FuncData
  p_law : FnF K mg "law" s_law a_law d_law ["script"]
  z_abs : mg "abs" = none
  z_all : mg "all" = none
  z_bool : mg "bool" = none
  z_enumerate : mg "enumerate" = none
  z_int : mg "int" = none
  z_isinstance : mg "isinstance" = none
  z_len : mg "len" = none
  z_list : mg "list" = none
  z_range : mg "range" = none
  z_str : mg "str" = none
  z_tuple : mg "tuple" = none
  u_NAME_MOST : Value
  g_NAME_MOST : mg "NAME_MOST" = some u_NAME_MOST
  r_NAME_MOST : readD K 3 u_NAME_MOST = some gc_NAME_MOST
  u_NO_NAMES : Value
  g_NO_NAMES : mg "NO_NAMES" = some u_NO_NAMES
  r_NO_NAMES : readD K 3 u_NO_NAMES = some gc_NO_NAMES
  u_LETTERS : Value
  g_LETTERS : mg "LETTERS" = some u_LETTERS
  r_LETTERS : readD K 3 u_LETTERS = some gc_LETTERS
  u_FIGURES : Value
  g_FIGURES : mg "FIGURES" = some u_FIGURES
  r_FIGURES : readD K 3 u_FIGURES = some gc_FIGURES
  u_STATES_MOST : Value
  g_STATES_MOST : mg "STATES_MOST" = some u_STATES_MOST
  r_STATES_MOST : readD K 3 u_STATES_MOST = some gc_STATES_MOST
  c_HeardError : Addr
  c_BadProgram : Addr
  c_BadRow : Addr
  c_BadSetting : Addr
  c_BadText : Addr
  c_BadName : Addr
  i_BadName : Addr
  q_BadName : Str
  sx_BadName : PySem.SxX.SxC Pr K mg "BadName" c_BadName i_BadName [("at" : Str)]
  fn_BadName : PySem.SxX.Fn_at Pr K c_BadName i_BadName q_BadName
  n_BadName : PySem.W.nsIn K mainGlobals "BadName" = some (some (.ref c_BadName))
  c_BadMachine : Addr
  i_BadMachine : Addr
  q_BadMachine : Str
  sx_BadMachine : PySem.SxX.SxC Pr K mg "BadMachine" c_BadMachine i_BadMachine [("at" : Str), ("word" : Str)]
  fn_BadMachine : PySem.SxX.Fn_at_word Pr K c_BadMachine i_BadMachine q_BadMachine
  n_BadMachine : PySem.W.nsIn K mainGlobals "BadMachine" = some (some (.ref c_BadMachine))
  gx_BadName : mg "BadName" = some (.ref c_BadName)
  gx_HeardError : mg "HeardError" = some (.ref c_HeardError)
  gx_BadMachine : mg "BadMachine" = some (.ref c_BadMachine)
  gx_BadProgram : mg "BadProgram" = some (.ref c_BadProgram)
  gx_BadRow : mg "BadRow" = some (.ref c_BadRow)
  gx_BadSetting : mg "BadSetting" = some (.ref c_BadSetting)
  gx_BadText : mg "BadText" = some (.ref c_BadText)
  xm_BadName : ColOk K excM (.ref c_BadName) "BadName"
  xm_HeardError : ColOk K excM (.ref c_HeardError) "HeardError"
  km_BadMachine : KitOk K isM (.ref c_BadMachine) "BadMachine"
  km_BadProgram : KitOk K isM (.ref c_BadProgram) "BadProgram"
  km_BadRow : KitOk K isM (.ref c_BadRow) "BadRow"
  km_BadSetting : KitOk K isM (.ref c_BadSetting) "BadSetting"
  km_BadText : KitOk K isM (.ref c_BadText) "BadText"
  xf_BadMachine : XfC K c_BadMachine
section
variable {Pr : Program} {w : World} {K : PySem.W.Frag} {mg : Str → Option Value} {base : Heap}
theorem sc_l_jar : FnScope ["script", "great", "stir", "cell", "size"] ["script"] (defScope s_l_jar) := ⟨rfl, rfl, rfl, by decide +kernel, rfl, by decide +kernel, by decide +kernel⟩
theorem ok_l_jar (T : Tx Pr K mg) : FnOk Pr w K mg base (L2.CX Pr w) 1 T.a_l_jar T.d_l_jar ["script"] (spF K (["script"] : List Str).length F_l_jar) :=
  fn_ok (k := 0) T.p_l_jar.F sc_l_jar fun cdv A outer s H E n0 hr => by
    have S := sc_l_jar
    exact (ss_cons (s_set (i := 1) S.nd rfl (by first | exact Or.inl rfl | exact Or.inr rfl) pd_int (by rfl) (by first | exact Or.inl rfl | exact Or.inr rfl))
    (ss_cons (s_set (i := 2) S.nd rfl (by first | exact Or.inl rfl | exact Or.inr rfl) pd_int (by rfl) (by first | exact Or.inl rfl | exact Or.inr rfl))
    (ss_cons (s_for (passes_of rfl) rfl (pw_any (pd_name (pv 0))) (pg_name (i := 3) S.nd rfl (by first | exact Or.inl rfl | exact Or.inr rfl)) tgok_name (ss_cons (s_set (i := 4) S.nd rfl (by first | exact Or.inl rfl | exact Or.inr rfl) (toD (pn_bin op_mod sem_mod (toD (pn_b1 call_abs sem_abs rfl T.z_abs (by rfl) (toD (pn_t1 call_int1 sem_toInt rfl T.z_int (by rfl) (pd_name (pv 3)) (by decide) (by decide) (by rfl) (by rfl))) (by decide) (by decide) (by rfl) (by rfl))) (toD (pn_bin op_shl sem_shl pd_int pd_int)))) (by rfl) (by first | exact Or.inl rfl | exact Or.inr rfl))
    (ss_cons (s_if (pt_cmpD op_ge sem_ge (pd_name (pv 4)) (toD (pn_bin op_pow sem_pow pd_int pd_int)) (by rfl)) (ss_one (s_set (i := 1) S.nd rfl (by first | exact Or.inl rfl | exact Or.inr rfl) (toD (pn_bin op_mod sem_mod (toD (pn_bin op_addAny sem_add (toD (pn_bin op_mulW sem_mul (pd_name (pv 1)) (toD (pn_bin op_shl sem_shl pd_int pd_int)))) (pd_name (pv 4)))) (toD (pn_bin op_shl sem_shl pd_int pd_int)))) (by rfl) (by first | exact Or.inl rfl | exact Or.inr rfl))) ss_nil)
    (ss_cons (s_set (i := 2) S.nd rfl (by first | exact Or.inl rfl | exact Or.inr rfl) (toD (pn_bin op_mod sem_mod (toD (pn_bin op_addAny sem_add (toD (pn_bin op_addAny sem_add (toD (pn_bin op_mulW sem_mul (pd_name (pv 2)) pd_int)) (toD (pn_bin op_mod sem_mod (pd_name (pv 4)) pd_int)))) pd_int)) pd_int)) (by rfl) (by first | exact Or.inl rfl | exact Or.inr rfl))
    (ss_one (s_if (pt_cmpD op_lt sem_lt (toD (pn_t1 call_int1 sem_toInt rfl T.z_int (by rfl) (pd_name (pv 3)) (by decide) (by decide) (by rfl) (by rfl))) pd_int (by rfl)) (ss_one (s_set (i := 2) S.nd rfl (by first | exact Or.inl rfl | exact Or.inr rfl) (toD (pn_bin op_mod sem_mod (toD (pn_bin op_addAny sem_add (pd_name (pv 2)) pd_int)) pd_int)) (by rfl) (by first | exact Or.inl rfl | exact Or.inr rfl))) ss_nil))))) (fun _ => rfl))
    (ss_one (s_ret (pn_lst (pi_consD (pd_name (pv 1)) (pi_consD (pd_name (pv 2)) (pi_consD pd_int pi_nilD (by rfl)) (by rfl)) (by rfl))))))))
theorem sc_l_draw : FnScope ["jar", "many", "digit"] ["jar", "many"] (defScope s_l_draw) := ⟨rfl, rfl, rfl, by decide +kernel, rfl, by decide +kernel, by decide +kernel⟩
theorem ok_l_draw (T : Tx Pr K mg) : FnOk Pr w K mg base (L2.CX Pr w) 1 T.a_l_draw T.d_l_draw ["jar", "many"] (spF K (["jar", "many"] : List Str).length F_l_draw) :=
  fn_ok (k := 0) T.p_l_draw.F sc_l_draw fun cdv A outer s H E n0 hr => by
    have S := sc_l_draw
    exact (ss_cons (s_setI (ps_asg (toD (pn_bin op_addAny sem_add (toD (pn_ix ix_seq sem_ix (pd_name (pv 0)) pd_int (fun _ _ => rfl))) pd_int)) (pg_sub (pv 0) pd_int set_list)))
    (ss_cons (s_if (pt_cmpD op_gt sem_gt (toD (pn_ix ix_seq sem_ix (pd_name (pv 0)) pd_int (fun _ _ => rfl))) pd_int (by rfl)) (ss_cons (s_set (i := 2) S.nd rfl (by first | exact Or.inl rfl | exact Or.inr rfl) (toD (pn_bin op_mod sem_mod (toD (pn_t1 call_int1 sem_toInt rfl T.z_int (by rfl) (toD (pn_ix ix_seq sem_ix (pd_name (pv 0)) pd_int (fun _ _ => rfl))) (by decide) (by decide) (by rfl) (by rfl))) (pd_name (pv 1)))) (by rfl) (by first | exact Or.inl rfl | exact Or.inr rfl))
    (ss_cons (s_setI (ps_asg (toD (pn_bin op_fdivW sem_floor (toD (pn_ix ix_seq sem_ix (pd_name (pv 0)) pd_int (fun _ _ => rfl))) (pd_name (pv 1)))) (pg_sub (pv 0) pd_int set_list)))
    (ss_one (s_ret (toN' (pd_name (pv 2))))))) ss_nil)
    (ss_cons (s_setI (ps_asg (toD (pn_bin op_mod sem_mod (toD (pn_bin op_addAny sem_add (toD (pn_bin op_addAny sem_add (toD (pn_bin op_mulW sem_mul (toD (pn_ix ix_seq sem_ix (pd_name (pv 0)) pd_int (fun _ _ => rfl))) pd_int)) (toD (pn_bin op_mulW sem_mul pd_int (toD (pn_ix ix_seq sem_ix (pd_name (pv 0)) pd_int (fun _ _ => rfl))))))) pd_int)) pd_int)) (pg_sub (pv 0) pd_int set_list)))
    (ss_one (s_ret (pn_bin op_mod sem_mod (toD (pn_t1 call_int1 sem_toInt rfl T.z_int (by rfl) (toD (pn_bin op_fdivW sem_floor (toD (pn_ix ix_seq sem_ix (pd_name (pv 0)) pd_int (fun _ _ => rfl))) pd_int)) (by decide) (by decide) (by rfl) (by rfl))) (pd_name (pv 1))))))))
theorem sc_l_reserved : FnScope ["words"] [] (defScope s_l_reserved) := ⟨rfl, rfl, rfl, by decide +kernel, rfl, by decide +kernel, by decide +kernel⟩
theorem ok_l_reserved (T : Tx Pr K mg) : FnOk Pr w K mg base (L2.CX Pr w) 1 T.a_l_reserved T.d_l_reserved [] (spF K ([] : List Str).length F_l_reserved) :=
  fn_ok (k := 0) T.p_l_reserved.F sc_l_reserved fun cdv A outer s H E n0 hr => by
    have S := sc_l_reserved
    exact (ss_cons (s_set (i := 0) S.nd rfl (by first | exact Or.inl rfl | exact Or.inr rfl) pd_str (by rfl) (by first | exact Or.inl rfl | exact Or.inr rfl))
    (ss_one (s_ret (pn_bin op_addAny sem_add (toD (pn_words (pd_name (pv 0)) (by rfl) (by rfl))) (toD (pn_lst (pi_consD pd_str (pi_consD pd_str (pi_consD pd_str (pi_consD pd_str (pi_consD pd_str pi_nilD (by rfl)) (by rfl)) (by rfl)) (by rfl)) (by rfl))))))))
theorem sc_l_is_name : FnScope ["word", "small", "letter"] ["word"] (defScope s_l_is_name) := ⟨rfl, rfl, rfl, by decide +kernel, rfl, by decide +kernel, by decide +kernel⟩
theorem ok_l_is_name (T : Tx Pr K mg) : FnOk Pr w K mg base (L2.CX Pr w) 2 T.a_l_is_name T.d_l_is_name ["word"] (spF K (["word"] : List Str).length F_l_is_name) :=
  fn_ok (k := 1) T.p_l_is_name.F sc_l_is_name fun cdv A outer s H E n0 hr => by
    have S := sc_l_is_name
    exact (ss_cons (s_set (i := 1) S.nd rfl (by first | exact Or.inl rfl | exact Or.inr rfl) pd_str (by rfl) (by first | exact Or.inl rfl | exact Or.inr rfl))
    (ss_cons (s_if (PW.pt (pw_orD (pt_notD (pt_truthD (toD (pn_isi call_isi (sem_isa isa_str) rfl T.z_isinstance (by rfl) (pd_name (pv 0)) (pe_bltn rfl T.z_str (by rfl) rfl) (by decide) (by decide) (by rfl) (by rfl) (by rfl))) (fun _ => rfl))) (pw_orD (pt_cmpD (op_eqD hr.units) sem_eq (pd_name (pv 0)) pd_str (by rfl)) (pw_or1 (pt_cmpD op_gt sem_gt (toD (pn_b1 call_lenAny sem_len rfl T.z_len (by rfl) (pd_name (pv 0)) (by decide) (by decide) (by rfl) (by rfl))) pd_int (by rfl)))))) (ss_one (s_ret (toN' pd_bl))) ss_nil)
    (ss_cons (s_if (PW.pt (pw_orD (pt_cmpD (op_inAny (hu200 hr)) sem_in (pd_name (pv 0)) (toD (pn_call00 (ok_l_reserved T) (takes_of rfl rfl rfl rfl) (hr.mono (by decide)) rfl T.p_l_reserved.g T.p_l_reserved.F.kp T.p_l_reserved.b (by decide) (by rfl))) (by rfl)) (pw_or1 (pt_cmpD (op_notInAny (hu200 hr)) sem_notIn (toD (pn_ix ix_seq sem_ix (pd_name (pv 0)) pd_int (fun _ _ => rfl))) (pd_name (pv 1)) (by rfl))))) (ss_one (s_ret (toN' pd_bl))) ss_nil)
    (ss_cons (s_for (passes_of rfl) rfl (pw_any (pd_name (pv 0))) (pg_name (i := 2) S.nd rfl (by first | exact Or.inl rfl | exact Or.inr rfl)) tgok_name (ss_one (s_if (PW.pt (pw_andD (pt_cmpD (op_notInAny (hu200 hr)) sem_notIn (pd_name (pv 2)) (pd_name (pv 1)) (by rfl)) (pw_and1 (pt_cmpD (op_notInAny (hu200 hr)) sem_notIn (pd_name (pv 2)) pd_str (by rfl))))) (ss_one (s_ret (toN' pd_bl))) ss_nil)) (fun _ => rfl))
    (ss_one (s_ret (toN' pd_bl)))))))
theorem sc_l_name : FnScope ["jar", "signs", "word", "turn"] ["jar"] (defScope s_l_name) := ⟨rfl, rfl, rfl, by decide +kernel, rfl, by decide +kernel, by decide +kernel⟩
theorem ok_l_name (T : Tx Pr K mg) : FnOk Pr w K mg base (L2.CX Pr w) 3 T.a_l_name T.d_l_name ["jar"] (spF K (["jar"] : List Str).length F_l_name) :=
  fn_ok (k := 2) T.p_l_name.F sc_l_name fun cdv A outer s H E n0 hr => by
    have S := sc_l_name
    exact (ss_cons (s_set (i := 1) S.nd rfl (by first | exact Or.inl rfl | exact Or.inr rfl) pd_str (by rfl) (by first | exact Or.inl rfl | exact Or.inr rfl))
    (ss_cons (s_set (i := 2) S.nd rfl (by first | exact Or.inl rfl | exact Or.inr rfl) (toD (pn_ix ix_seq sem_ix (pd_name (pv 1)) (toD (pn_call (ok_l_draw T) (takes_of rfl rfl rfl rfl) (hr.mono (by decide)) rfl T.p_l_draw.g T.p_l_draw.F.kp T.p_l_draw.b (ph_cons (pd_name (pv 0)) (ph_cons pd_int ph_nil (by rfl)) (by rfl)) (by rfl) (by decide) (by rfl) (by rfl))) (fun _ _ => rfl))) (by rfl) (by first | exact Or.inl rfl | exact Or.inr rfl))
    (ss_cons (s_for (passes_of rfl) rfl (pw_range1 rfl T.z_range (toD (pn_call (ok_l_draw T) (takes_of rfl rfl rfl rfl) (hr.mono (by decide)) rfl T.p_l_draw.g T.p_l_draw.F.kp T.p_l_draw.b (ph_cons (pd_name (pv 0)) (ph_cons pd_int ph_nil (by rfl)) (by rfl)) (by rfl) (by decide) (by rfl) (by rfl))) (by rfl) (by rfl)) (pg_name (i := 3) S.nd rfl (by first | exact Or.inl rfl | exact Or.inr rfl)) tgok_name (ss_one (s_set (i := 2) S.nd rfl (by first | exact Or.inl rfl | exact Or.inr rfl) (toD (pn_bin op_addAny sem_add (pd_name (pv 2)) (toD (pn_ix ix_seq sem_ix (pd_name (pv 1)) (toD (pn_call (ok_l_draw T) (takes_of rfl rfl rfl rfl) (hr.mono (by decide)) rfl T.p_l_draw.g T.p_l_draw.F.kp T.p_l_draw.b (ph_cons (pd_name (pv 0)) (ph_cons pd_int ph_nil (by rfl)) (by rfl)) (by rfl) (by decide) (by rfl) (by rfl))) (fun _ _ => rfl))))) (by rfl) (by first | exact Or.inl rfl | exact Or.inr rfl))) (fun _ => rfl))
    (ss_cons (s_if (pt_notD (pt_truthD (toD (pn_call (ok_l_is_name T) (takes_of rfl rfl rfl rfl) (hr.mono (by decide)) rfl T.p_l_is_name.g T.p_l_is_name.F.kp T.p_l_is_name.b (ph_cons (pd_name (pv 2)) ph_nil (by rfl)) (by rfl) (by decide) (by rfl) (by rfl))) (fun _ => rfl))) (ss_one (s_set (i := 2) S.nd rfl (by first | exact Or.inl rfl | exact Or.inr rfl) (toD (pn_bin op_addAny sem_add (pd_name (pv 2)) pd_str)) (by rfl) (by first | exact Or.inl rfl | exact Or.inr rfl))) ss_nil)
    (ss_one (s_ret (toN' (pd_name (pv 2)))))))))
theorem sc_l_setting : FnScope ["jar", "many", "heads", "shift", "names", "at", "known", "changes", "turn", "word", "by"] ["jar", "many"] (defScope s_l_setting) := ⟨rfl, rfl, rfl, by decide +kernel, rfl, by decide +kernel, by decide +kernel⟩
theorem ok_l_setting (T : Tx Pr K mg) : FnOk Pr w K mg base (L2.CX Pr w) 4 T.a_l_setting T.d_l_setting ["jar", "many"] (spF K (["jar", "many"] : List Str).length F_l_setting) :=
  fn_ok (k := 3) T.p_l_setting.F sc_l_setting fun cdv A outer s H E n0 hr => by
    have S := sc_l_setting
    exact (ss_cons (s_set (i := 2) S.nd rfl (by first | exact Or.inl rfl | exact Or.inr rfl) pd_str (by rfl) (by first | exact Or.inl rfl | exact Or.inr rfl))
    (ss_cons (s_set (i := 3) S.nd rfl (by first | exact Or.inl rfl | exact Or.inr rfl) (toD (pn_call (ok_l_draw T) (takes_of rfl rfl rfl rfl) (hr.mono (by decide)) rfl T.p_l_draw.g T.p_l_draw.F.kp T.p_l_draw.b (ph_cons (pd_name (pv 0)) (ph_cons pd_int ph_nil (by rfl)) (by rfl)) (by rfl) (by decide) (by rfl) (by rfl))) (by rfl) (by first | exact Or.inl rfl | exact Or.inr rfl))
    (ss_cons (s_new (i := 4) S.nd rfl (by first | exact Or.inl rfl | exact Or.inr rfl) (pn_lst pi_nilD) (by rfl) (by first | exact Or.inl rfl | exact Or.inr rfl))
    (ss_cons (s_for (passes_of rfl) rfl (pw_range1 rfl T.z_range (pd_name (pv 1)) (by rfl) (by rfl)) (pg_name (i := 5) S.nd rfl (by first | exact Or.inl rfl | exact Or.inr rfl)) tgok_name (ss_cons (s_set (i := 9) S.nd rfl (by first | exact Or.inl rfl | exact Or.inr rfl) (toD (pn_ix ix_seq sem_ix (pd_name (pv 2)) (toD (pn_bin op_mod sem_mod (toD (pn_bin op_addAny sem_add (pd_name (pv 3)) (pd_name (pv 5)))) pd_int)) (fun _ _ => rfl))) (by rfl) (by first | exact Or.inl rfl | exact Or.inr rfl))
    (ss_cons (s_if (pt_cmpD op_gt sem_gt (toD (pn_call (ok_l_draw T) (takes_of rfl rfl rfl rfl) (hr.mono (by decide)) rfl T.p_l_draw.g T.p_l_draw.F.kp T.p_l_draw.b (ph_cons (pd_name (pv 0)) (ph_cons pd_int ph_nil (by rfl)) (by rfl)) (by rfl) (by decide) (by rfl) (by rfl))) pd_int (by rfl)) (ss_one (s_set (i := 9) S.nd rfl (by first | exact Or.inl rfl | exact Or.inr rfl) (toD (pn_bin op_addAny sem_add (pd_name (pv 9)) (toD (pn_call (ok_l_name T) (takes_of rfl rfl rfl rfl) (hr.mono (by decide)) rfl T.p_l_name.g T.p_l_name.F.kp T.p_l_name.b (ph_cons (pd_name (pv 0)) ph_nil (by rfl)) (by rfl) (by decide) (by rfl) (by rfl))))) (by rfl) (by first | exact Or.inl rfl | exact Or.inr rfl))) ss_nil)
    (ss_cons (s_if (pt_cmpD op_gt sem_gt (toD (pn_b1 call_lenAny sem_len rfl T.z_len (by rfl) (pd_name (pv 9)) (by decide) (by decide) (by rfl) (by rfl))) pd_int (by rfl)) (ss_one (s_set (i := 9) S.nd rfl (by first | exact Or.inl rfl | exact Or.inr rfl) (toD (pn_slice (pd_name (pv 9)) po_noneD (po_someD pd_int))) (by rfl) (by first | exact Or.inl rfl | exact Or.inr rfl))) ss_nil)
    (ss_cons (s_if (pt_notD (pt_truthD (toD (pn_call (ok_l_is_name T) (takes_of rfl rfl rfl rfl) (hr.mono (by decide)) rfl T.p_l_is_name.g T.p_l_is_name.F.kp T.p_l_is_name.b (ph_cons (pd_name (pv 9)) ph_nil (by rfl)) (by rfl) (by decide) (by rfl) (by rfl))) (fun _ => rfl))) (ss_one (s_set (i := 9) S.nd rfl (by first | exact Or.inl rfl | exact Or.inr rfl) (toD (pn_bin op_addAny sem_add (toD (pn_slice (pd_name (pv 9)) po_noneD (po_someD pd_int))) pd_str)) (by rfl) (by first | exact Or.inl rfl | exact Or.inr rfl))) ss_nil)
    (ss_one (s_app (ps_expr (pe_bm PySem.F.plainAttrs_list PySem.F.slot_list_append PySem.F.type_list_append mt_append (pv 4) (pa_cons (pd_name (pv 9)) pa_nil))))))))) (fun _ => rfl))
    (ss_cons (s_new (i := 6) S.nd rfl (by first | exact Or.inl rfl | exact Or.inr rfl) (pn_bin op_addAny sem_add (toD (pn_lc (own := [("at", 5)]) (t := (tgName 5)) (c := bYes) rfl S.nd (pw_range1 rfl T.z_range (pd_name (pv 1)) (by rfl) (by rfl)) (blkOk_by (N := ["jar", "many", "heads", "shift", "names", "at", "known", "changes", "turn", "word", "by"]) (sc := defScope s_l_setting) (by decide +kernel)) (fun _ _ _ _ _ => (pg_name (i := 5) S.nd rfl (by first | exact Or.inl rfl | exact Or.inr rfl))) (fun _ _ _ _ _ => pts_yes) (fun _ _ _ _ _ => (toD (pn_tup (pi_consD pd_str (pi_consD (pd_name (pv 5)) pi_nilD (by rfl)) (by rfl))))) tgok_name (tgin_name (by decide)) (fun _ => rfl))) (toD (pn_lc (own := [("at", 5)]) (t := (tgName 5)) (c := bYes) rfl S.nd (pw_range1 rfl T.z_range (pd_name (pv 1)) (by rfl) (by rfl)) (blkOk_by (N := ["jar", "many", "heads", "shift", "names", "at", "known", "changes", "turn", "word", "by"]) (sc := defScope s_l_setting) (by decide +kernel)) (fun _ _ _ _ _ => (pg_name (i := 5) S.nd rfl (by first | exact Or.inl rfl | exact Or.inr rfl))) (fun _ _ _ _ _ => pts_yes) (fun _ _ _ _ _ => (toD (pn_tup (pi_consD pd_str (pi_consD (pd_name (pv 5)) pi_nilD (by rfl)) (by rfl))))) tgok_name (tgin_name (by decide)) (fun _ => rfl)))) (by rfl) (by first | exact Or.inl rfl | exact Or.inr rfl))
    (ss_cons (s_for (passes_of rfl) rfl (pw_range1 rfl T.z_range (pd_name (pv 1)) (by rfl) (by rfl)) (pg_name (i := 5) S.nd rfl (by first | exact Or.inl rfl | exact Or.inr rfl)) tgok_name (ss_cons (s_new (i := 6) S.nd rfl (by first | exact Or.inl rfl | exact Or.inr rfl) (pn_bin op_addAny sem_add (pd_name (pv 6)) (toD (pn_lc (own := [("by", 10)]) (t := (tgName 10)) (c := bYes) rfl S.nd (pw_range2 rfl T.z_range (toD (pn_bin op_addAny sem_add (pd_name (pv 5)) pd_int)) (pd_name (pv 1)) (by rfl) (by rfl) (by rfl) (by rfl)) (blkOk_by (N := ["jar", "many", "heads", "shift", "names", "at", "known", "changes", "turn", "word", "by"]) (sc := defScope s_l_setting) (by decide +kernel)) (fun _ _ _ _ _ => (pg_name (i := 10) S.nd rfl (by first | exact Or.inl rfl | exact Or.inr rfl))) (fun _ _ _ _ _ => pts_yes) (fun _ _ _ _ _ => (toD (pn_tup (pi_consD pd_str (pi_consD (pd_name (pv 5)) (pi_consD (pd_name (pv 10)) pi_nilD (by rfl)) (by rfl)) (by rfl))))) tgok_name (tgin_name (by decide)) (fun _ => rfl)))) (by rfl) (by first | exact Or.inl rfl | exact Or.inr rfl))
    (ss_one (s_new (i := 6) S.nd rfl (by first | exact Or.inl rfl | exact Or.inr rfl) (pn_bin op_addAny sem_add (pd_name (pv 6)) (toD (pn_lc (own := [("by", 10)]) (t := (tgName 10)) (c := bYes) rfl S.nd (pw_range2 rfl T.z_range (toD (pn_bin op_addAny sem_add (pd_name (pv 5)) pd_int)) (pd_name (pv 1)) (by rfl) (by rfl) (by rfl) (by rfl)) (blkOk_by (N := ["jar", "many", "heads", "shift", "names", "at", "known", "changes", "turn", "word", "by"]) (sc := defScope s_l_setting) (by decide +kernel)) (fun _ _ _ _ _ => (pg_name (i := 10) S.nd rfl (by first | exact Or.inl rfl | exact Or.inr rfl))) (fun _ _ _ _ _ => pts_yes) (fun _ _ _ _ _ => (toD (pn_tup (pi_consD pd_str (pi_consD (pd_name (pv 5)) (pi_consD (pd_name (pv 10)) pi_nilD (by rfl)) (by rfl)) (by rfl))))) tgok_name (tgin_name (by decide)) (fun _ => rfl)))) (by rfl) (by first | exact Or.inl rfl | exact Or.inr rfl)))) (fun _ => rfl))
    (ss_cons (s_new (i := 7) S.nd rfl (by first | exact Or.inl rfl | exact Or.inr rfl) (pn_lst pi_nilD) (by rfl) (by first | exact Or.inl rfl | exact Or.inr rfl))
    (ss_cons (s_for (passes_of rfl) rfl (pw_range1 rfl T.z_range (toD (pn_call (ok_l_draw T) (takes_of rfl rfl rfl rfl) (hr.mono (by decide)) rfl T.p_l_draw.g T.p_l_draw.F.kp T.p_l_draw.b (ph_cons (pd_name (pv 0)) (ph_cons pd_int ph_nil (by rfl)) (by rfl)) (by rfl) (by decide) (by rfl) (by rfl))) (by rfl) (by rfl)) (pg_name (i := 8) S.nd rfl (by first | exact Or.inl rfl | exact Or.inr rfl)) tgok_name (ss_one (s_if (pt_cmpD op_gt sem_gt (toD (pn_b1 call_lenAny sem_len rfl T.z_len (by rfl) (pd_name (pv 6)) (by decide) (by decide) (by rfl) (by rfl))) pd_int (by rfl)) (ss_one (s_app (ps_expr (pe_bm PySem.F.plainAttrs_list PySem.F.slot_list_append PySem.F.type_list_append mt_append (pv 7) (pa_cons (toD (pn_pop (pe_bm PySem.F.plainAttrs_list PySem.F.slot_list_pop PySem.F.type_list_pop mt_popAt (pv 6) (pa_cons (toD (pn_call (ok_l_draw T) (takes_of rfl rfl rfl rfl) (hr.mono (by decide)) rfl T.p_l_draw.g T.p_l_draw.F.kp T.p_l_draw.b (ph_cons (pd_name (pv 0)) (ph_cons (toD (pn_b1 call_lenAny sem_len rfl T.z_len (by rfl) (pd_name (pv 6)) (by decide) (by decide) (by rfl) (by rfl))) ph_nil (by rfl)) (by rfl)) (by rfl) (by decide) (by rfl) (by rfl))) pa_nil)))) pa_nil))))) ss_nil)) (fun _ => rfl))
    (ss_one (s_ret (pn_tup (pi_consD (toD (pn_t1 call_tuple_of sem_tuple rfl T.z_tuple (by rfl) (pd_name (pv 4)) (by decide) (by decide) (by rfl) (by rfl))) (pi_consD (toD (pn_t1 call_tuple_of sem_tuple rfl T.z_tuple (by rfl) (pd_name (pv 7)) (by decide) (by decide) (by rfl) (by rfl))) pi_nilD (by rfl)) (by rfl)))))))))))))
theorem sc_l_machine : FnScope ["jar", "signs", "many", "states", "at", "nexts", "sign"] ["jar", "signs", "many"] (defScope s_l_machine) := ⟨rfl, rfl, rfl, by decide +kernel, rfl, by decide +kernel, by decide +kernel⟩
theorem ok_l_machine (T : Tx Pr K mg) : FnOk Pr w K mg base (L2.CX Pr w) 4 T.a_l_machine T.d_l_machine ["jar", "signs", "many"] (spF K (["jar", "signs", "many"] : List Str).length F_l_machine) :=
  fn_ok (k := 3) T.p_l_machine.F sc_l_machine fun cdv A outer s H E n0 hr => by
    have S := sc_l_machine
    exact (ss_cons (s_new (i := 3) S.nd rfl (by first | exact Or.inl rfl | exact Or.inr rfl) (pn_lst pi_nilD) (by rfl) (by first | exact Or.inl rfl | exact Or.inr rfl))
    (ss_cons (s_for (passes_of rfl) rfl (pw_range1 rfl T.z_range (pd_name (pv 2)) (by rfl) (by rfl)) (pg_name (i := 4) S.nd rfl (by first | exact Or.inl rfl | exact Or.inr rfl)) tgok_name (ss_cons (s_setLc (own := [("sign", 6)]) (t := (tgName 6)) (c := bYes) tgok_name (tgin_name (by decide)) (ps_setLc (i := 5) (own := [("sign", 6)]) rfl S.nd rfl rfl (sw_true rfl rfl rfl (by decide +kernel)) (pw_range1 rfl T.z_range (pd_name (pv 1)) (by rfl) (by rfl)) (blkOk_by (N := ["jar", "signs", "many", "states", "at", "nexts", "sign"]) (sc := defScope s_l_machine) (by decide +kernel)) (fun _ _ _ _ _ => (pg_name (i := 6) S.nd rfl (by first | exact Or.inl rfl | exact Or.inr rfl))) (fun _ _ _ _ _ => pts_yes) (fun _ _ _ _ _ => (toD (pn_call0 (ok_l_draw T) (hr.mono (by decide)) rfl T.p_l_draw.g T.p_l_draw.F.kp T.p_l_draw.b (ph_cons (pd_name (pv 0)) (ph_cons (pd_name (pv 2)) ph_nil (by rfl)) (by rfl)) (by rfl) (by decide) (by rfl) (by rfl)))) (fun _ => rfl)))
    (ss_one (s_app (ps_expr (pe_bm PySem.F.plainAttrs_list PySem.F.slot_list_append PySem.F.type_list_append mt_append (pv 3) (pa_cons (toD (pn_tup (pi_consD (toD (pn_call (ok_l_name T) (takes_of rfl rfl rfl rfl) (hr.mono (by decide)) rfl T.p_l_name.g T.p_l_name.F.kp T.p_l_name.b (ph_cons (pd_name (pv 0)) ph_nil (by rfl)) (by rfl) (by decide) (by rfl) (by rfl))) (pi_consD (toD (pn_t1 call_tuple_of sem_tuple rfl T.z_tuple (by rfl) (pd_name (pv 5)) (by decide) (by decide) (by rfl) (by rfl))) pi_nilD (by rfl)) (by rfl)))) pa_nil)))))) (fun _ => rfl))
    (ss_one (s_ret (pn_t1 call_tuple_of sem_tuple rfl T.z_tuple (by rfl) (pd_name (pv 3)) (by decide) (by decide) (by rfl) (by rfl))))))
theorem sc_is_integer : FnScope ["thing"] ["thing"] (defScope s_is_integer) := ⟨rfl, rfl, rfl, by decide +kernel, rfl, by decide +kernel, by decide +kernel⟩
theorem ok_is_integer (T : Tx Pr K mg) : FnOk Pr w K mg base (L2.CX Pr w) 1 T.a_is_integer T.d_is_integer ["thing"] (spF K (["thing"] : List Str).length F_is_integer) :=
  fn_ok (k := 0) T.p_is_integer.F sc_is_integer fun cdv A outer s H E n0 hr => by
    have S := sc_is_integer
    exact (ss_one (s_ret (pn_and (pn_isi call_isi (sem_isa isa_int) rfl T.z_isinstance (by rfl) (pd_name (pv 0)) (pe_bltn rfl T.z_int (by rfl) rfl) (by decide) (by decide) (by rfl) (by rfl) (by rfl)) (pn_one (pn_not (pn_isi call_isi (sem_isa isa_bool) rfl T.z_isinstance (by rfl) (pd_name (pv 0)) (pe_bltn rfl T.z_bool (by rfl) rfl) (by decide) (by decide) (by rfl) (by rfl) (by rfl)))))))
theorem sc_integer_within : FnScope ["thing", "low", "high"] ["thing", "low", "high"] (defScope s_integer_within) := ⟨rfl, rfl, rfl, by decide +kernel, rfl, by decide +kernel, by decide +kernel⟩
theorem ok_integer_within (T : Tx Pr K mg) : FnOk Pr w K mg base (L2.CX Pr w) 2 T.a_integer_within T.d_integer_within ["thing", "low", "high"] (spF K (["thing", "low", "high"] : List Str).length F_integer_within) :=
  fn_ok (k := 1) T.p_integer_within.F sc_integer_within fun cdv A outer s H E n0 hr => by
    have S := sc_integer_within
    exact (ss_one (s_ret (pn_and (pn_call (ok_is_integer T) (takes_of rfl rfl rfl rfl) (hr.mono (by decide)) rfl T.p_is_integer.g T.p_is_integer.F.kp T.p_is_integer.b (ph_cons (pd_name (pv 0)) ph_nil (by rfl)) (by rfl) (by decide) (by rfl) (by rfl)) (pn_one (pn_chainD op_le op_le sem_le sem_le (pd_name (pv 1)) (pd_name (pv 0)) (pd_name (pv 2)) (by with_unfolding_all rfl))))))
theorem sc_is_number : FnScope ["thing", "many"] ["thing", "many"] (defScope s_is_number) := ⟨rfl, rfl, rfl, by decide +kernel, rfl, by decide +kernel, by decide +kernel⟩
theorem ok_is_number (T : Tx Pr K mg) : FnOk Pr w K mg base (L2.CX Pr w) 3 T.a_is_number T.d_is_number ["thing", "many"] (spF K (["thing", "many"] : List Str).length F_is_number) :=
  fn_ok (k := 2) T.p_is_number.F sc_is_number fun cdv A outer s H E n0 hr => by
    have S := sc_is_number
    exact (ss_one (s_ret (pn_call (ok_integer_within T) (takes_of rfl rfl rfl rfl) (hr.mono (by decide)) rfl T.p_integer_within.g T.p_integer_within.F.kp T.p_integer_within.b (ph_cons (pd_name (pv 0)) (ph_cons pd_int (ph_cons (toD (pn_bin op_sub sem_sub (pd_name (pv 1)) pd_int)) ph_nil (by rfl)) (by rfl)) (by rfl)) (by rfl) (by decide) (by rfl) (by rfl))))
theorem sc_tuple_of : FnScope ["thing", "many"] ["thing", "many"] (defScope s_tuple_of) := ⟨rfl, rfl, rfl, by decide +kernel, rfl, by decide +kernel, by decide +kernel⟩
theorem ok_tuple_of (T : Tx Pr K mg) : FnOk Pr w K mg base (L2.CX Pr w) 1 T.a_tuple_of T.d_tuple_of ["thing", "many"] (spF K (["thing", "many"] : List Str).length F_tuple_of) :=
  fn_ok (k := 0) T.p_tuple_of.F sc_tuple_of fun cdv A outer s H E n0 hr => by
    have S := sc_tuple_of
    exact (ss_one (s_ret (pn_and (pn_isi call_isi (sem_isa isa_tuple) rfl T.z_isinstance (by rfl) (pd_name (pv 0)) (pe_bltn rfl T.z_tuple (by rfl) rfl) (by decide) (by decide) (by rfl) (by rfl) (by rfl)) (pn_one (pn_cmp (op_eqD hr.units) sem_eq (toD (pn_b1 call_lenAny sem_len rfl T.z_len (by rfl) (pd_name (pv 0)) (by decide) (by decide) (by rfl) (by rfl))) (pd_name (pv 1)) (by rfl))))))
theorem sc_check_name : FnScope ["thing", "at", "character"] ["thing"] (defScope s_check_name) := ⟨rfl, rfl, rfl, by decide +kernel, rfl, by decide +kernel, by decide +kernel⟩
theorem ok_check_name (T : Tx Pr K mg) : FnOk Pr w K mg base (L2.CX Pr w) 1 T.a_check_name T.d_check_name ["thing"] (spF K (["thing"] : List Str).length F_check_name) :=
  fn_ok (k := 0) T.p_check_name.F sc_check_name fun cdv A outer s H E n0 hr => by
    have S := sc_check_name
    exact (ss_cons (s_if (PW.pt (pw_orD (pt_notD (pt_truthD (toD (pn_isi call_isi (sem_isa isa_str) rfl T.z_isinstance (by rfl) (pd_name (pv 0)) (pe_bltn rfl T.z_str (by rfl) rfl) (by decide) (by decide) (by rfl) (by rfl) (by rfl))) (fun _ => rfl))) (pw_orD (pt_notD (pt_chainD op_le op_le sem_le sem_le pd_int (toD (pn_b1 call_lenAny sem_len rfl T.z_len (by rfl) (pd_name (pv 0)) (by decide) (by decide) (by rfl) (by rfl))) (pd_glob (by rfl) T.g_NAME_MOST T.r_NAME_MOST (by decide)) (by with_unfolding_all rfl))) (pw_or1 (pt_cmpD (op_inAny (hu200 hr)) sem_in (pd_name (pv 0)) (pd_glob (by rfl) T.g_NO_NAMES T.r_NO_NAMES (by decide)) (by rfl)))))) (ss_one (s_raise_at T.sx_BadName T.fn_BadName T.n_BadName hr (takes_of rfl rfl rfl rfl) rfl (pi_consD (toD (pn_un un_neg sem_neg pd_int)) pi_nilD (by rfl)) (by rfl) (by decide) (by rfl) (by rfl))) ss_nil)
    (ss_cons (s_for (passes_of rfl) rfl (pw_enum rfl T.z_enumerate (pd_name (pv 0)) (by rfl)) (pg_any (n := 2) rfl (pgs_cons (pg_name (i := 1) S.nd rfl (by first | exact Or.inl rfl | exact Or.inr rfl)) (pgs_cons (pg_name (i := 2) S.nd rfl (by first | exact Or.inl rfl | exact Or.inr rfl)) pgs_nil))) (tgok_any (tgsok_cons (i := 1) (tgsok_cons (i := 2) tgsok_nil)) rfl) (ss_one (s_if (PW.pt (pw_andD (pt_cmpD (op_notInAny (hu200 hr)) sem_notIn (pd_name (pv 2)) (pd_glob (by rfl) T.g_LETTERS T.r_LETTERS (by decide)) (by rfl)) (pw_and1 (PW.pt (pw_orD (pt_cmpD (op_eqD hr.units) sem_eq (pd_name (pv 1)) pd_int (by rfl)) (pw_or1 (pt_cmpD (op_notInAny (hu200 hr)) sem_notIn (pd_name (pv 2)) (pd_glob (by rfl) T.g_FIGURES T.r_FIGURES (by decide)) (by rfl)))))))) (ss_one (s_raise_at T.sx_BadName T.fn_BadName T.n_BadName hr (takes_of rfl rfl rfl rfl) rfl (pi_consD (pd_name (pv 1)) pi_nilD (by rfl)) (by rfl) (by decide) (by rfl) (by rfl))) ss_nil)) (fun _ => rfl))
    (ss_one (s_ret (pn_b1 call_lenAny sem_len rfl T.z_len (by rfl) (pd_name (pv 0)) (by decide) (by decide) (by rfl) (by rfl))))))
theorem sc_is_name : FnScope ["thing"] ["thing"] (defScope s_is_name) := ⟨rfl, rfl, rfl, by decide +kernel, rfl, by decide +kernel, by decide +kernel⟩
theorem ok_is_name (T : Tx Pr K mg) : FnOk Pr w K mg base (L2.CX Pr w) 2 T.a_is_name T.d_is_name ["thing"] (spF K (["thing"] : List Str).length F_is_name) :=
  fn_ok (k := 1) T.p_is_name.F sc_is_name fun cdv A outer s H E n0 hr => by
    have S := sc_is_name
    exact (ss_cons (s_try (M := excM) (cs := [((.ref T.c_BadName : Value), "BadName", none, fun c fs => (sRet (eNorm (eC (.bl false)))))]) rfl rfl (takes_of rfl rfl rfl rfl) S.nd (fun W pn xe tk hp => (ss_one (s_expr (toD (pn_call (ok_check_name T) tk (hr.mono (by decide)) rfl T.p_check_name.g T.p_check_name.F.kp T.p_check_name.b (ph_cons (pd_name (pv 0)) ph_nil (by rfl)) (by rfl) (by decide) (by rfl) (by rfl))) (by rfl)))) (.cons ⟨rfl, by decide, .inl T.gx_BadName⟩ (su_all fun z oe pn hz hf => (ss_one (s_ret (toN' pd_bl)))) .nil) (cols_cons T.xm_BadName cols_nil))
    (ss_one (s_ret (toN' pd_bl))))
theorem sc_is_state : FnScope ["many", "states", "thing", "state"] ["many", "states", "thing"] (defScope s_is_state) := ⟨rfl, rfl, rfl, by decide +kernel, rfl, by decide +kernel, by decide +kernel⟩
theorem ok_is_state (T : Tx Pr K mg) : FnOk Pr w K mg base (L2.CX Pr w) 4 T.a_is_state T.d_is_state ["many", "states", "thing"] (spF K (["many", "states", "thing"] : List Str).length F_is_state) :=
  fn_ok (k := 3) T.p_is_state.F sc_is_state fun cdv A outer s H E n0 hr => by
    have S := sc_is_state
    exact (ss_cons (s_if (PW.pt (pw_orD (pt_notD (pt_truthD (toD (pn_call (ok_tuple_of T) (takes_of rfl rfl rfl rfl) (hr.mono (by decide)) rfl T.p_tuple_of.g T.p_tuple_of.F.kp T.p_tuple_of.b (ph_cons (pd_name (pv 2)) (ph_cons pd_int ph_nil (by rfl)) (by rfl)) (by rfl) (by decide) (by rfl) (by rfl))) (fun _ => rfl))) (pw_orD (pt_notD (pt_truthD (toD (pn_call (ok_is_name T) (takes_of rfl rfl rfl rfl) (hr.mono (by decide)) rfl T.p_is_name.g T.p_is_name.F.kp T.p_is_name.b (ph_cons (toD (pn_ix ix_seq sem_ix (pd_name (pv 2)) pd_int (fun _ _ => rfl))) ph_nil (by rfl)) (by rfl) (by decide) (by rfl) (by rfl))) (fun _ => rfl))) (pw_or1 (pt_notD (pt_truthD (toD (pn_call (ok_tuple_of T) (takes_of rfl rfl rfl rfl) (hr.mono (by decide)) rfl T.p_tuple_of.g T.p_tuple_of.F.kp T.p_tuple_of.b (ph_cons (toD (pn_ix ix_seq sem_ix (pd_name (pv 2)) pd_int (fun _ _ => rfl))) (ph_cons (pd_name (pv 0)) ph_nil (by rfl)) (by rfl)) (by rfl) (by decide) (by rfl) (by rfl))) (fun _ => rfl))))))) (ss_one (s_ret (toN' pd_bl))) ss_nil)
    (ss_one (s_ret (pn_b1 (cr_all rfl) sem_all rfl T.z_all (by rfl) (toD (pn_lc (own := [("state", 3)]) (t := (tgName 3)) (c := bYes) rfl S.nd (pw_any (toD (pn_ix ix_seq sem_ix (pd_name (pv 2)) pd_int (fun _ _ => rfl)))) (blkOk_by (N := ["many", "states", "thing", "state"]) (sc := defScope s_is_state) (by decide +kernel)) (fun _ _ _ _ _ => (pg_name (i := 3) S.nd rfl (by first | exact Or.inl rfl | exact Or.inr rfl))) (fun _ _ _ _ _ => pts_yes) (fun _ _ _ _ _ => (toD (pn_call0 (ok_is_number T) (hr.mono (by decide)) rfl T.p_is_number.g T.p_is_number.F.kp T.p_is_number.b (ph_cons (pd_name (pv 3)) (ph_cons (pd_name (pv 1)) ph_nil (by rfl)) (by rfl)) (by rfl) (by decide) (by rfl) (by rfl)))) tgok_name (tgin_name (by decide)) (fun _ => rfl))) (by decide) (by decide) (by rfl) (by rfl)))))
theorem sc_check_machine : FnScope ["setting", "thing", "at", "state"] ["setting", "thing"] (defScope s_check_machine) := ⟨rfl, rfl, rfl, by decide +kernel, rfl, by decide +kernel, by decide +kernel⟩
theorem ok_check_machine (T : Tx Pr K mg) : FnOk Pr w K mg base (L2.CX Pr w) 5 T.a_check_machine T.d_check_machine ["setting", "thing"] (spF K (["setting", "thing"] : List Str).length F_check_machine) :=
  fn_ok (k := 4) T.p_check_machine.F sc_check_machine fun cdv A outer s H E n0 hr => by
    have S := sc_check_machine
    exact (ss_cons (s_if (pt_notD (pt_truthD (toD (pn_isi call_isi (sem_isa isa_tuple) rfl T.z_isinstance (by rfl) (pd_name (pv 1)) (pe_bltn rfl T.z_tuple (by rfl) rfl) (by decide) (by decide) (by rfl) (by rfl) (by rfl))) (fun _ => rfl))) (ss_one (s_raise_at_word T.sx_BadMachine T.fn_BadMachine T.n_BadMachine hr (takes_of rfl rfl rfl rfl) rfl (pi_consD (toD (pn_un un_neg sem_neg pd_int)) (pi_consD pd_str pi_nilD (by rfl)) (by rfl)) (by rfl) (by decide) (by rfl) (by rfl))) ss_nil)
    (ss_cons (s_if (pt_notD (pt_chainD op_le op_le sem_le sem_le pd_int (toD (pn_b1 call_lenAny sem_len rfl T.z_len (by rfl) (pd_name (pv 1)) (by decide) (by decide) (by rfl) (by rfl))) (pd_glob (by rfl) T.g_STATES_MOST T.r_STATES_MOST (by decide)) (by with_unfolding_all rfl))) (ss_one (s_raise_at_word T.sx_BadMachine T.fn_BadMachine T.n_BadMachine hr (takes_of rfl rfl rfl rfl) rfl (pi_consD (toD (pn_un un_neg sem_neg pd_int)) (pi_consD pd_str pi_nilD (by rfl)) (by rfl)) (by rfl) (by decide) (by rfl) (by rfl))) ss_nil)
    (ss_cons (s_for (passes_of rfl) rfl (pw_enum rfl T.z_enumerate (pd_name (pv 1)) (by rfl)) (pg_any (n := 2) rfl (pgs_cons (pg_name (i := 2) S.nd rfl (by first | exact Or.inl rfl | exact Or.inr rfl)) (pgs_cons (pg_name (i := 3) S.nd rfl (by first | exact Or.inl rfl | exact Or.inr rfl)) pgs_nil))) (tgok_any (tgsok_cons (i := 2) (tgsok_cons (i := 3) tgsok_nil)) rfl) (ss_one (s_if (pt_notD (pt_truthD (toD (pn_call (ok_is_state T) (takes_of rfl rfl rfl rfl) (hr.mono (by decide)) rfl T.p_is_state.g T.p_is_state.F.kp T.p_is_state.b (ph_cons (toD (pn_b1 call_lenAny sem_len rfl T.z_len (by rfl) (toD (pn_ix ix_seq sem_ix (pd_name (pv 0)) pd_int (fun _ _ => rfl))) (by decide) (by decide) (by rfl) (by rfl))) (ph_cons (toD (pn_b1 call_lenAny sem_len rfl T.z_len (by rfl) (pd_name (pv 1)) (by decide) (by decide) (by rfl) (by rfl))) (ph_cons (pd_name (pv 3)) ph_nil (by rfl)) (by rfl)) (by rfl)) (by rfl) (by decide) (by rfl) (by rfl))) (fun _ => rfl))) (ss_one (s_raise_at_word T.sx_BadMachine T.fn_BadMachine T.n_BadMachine hr (takes_of rfl rfl rfl rfl) rfl (pi_consD (pd_name (pv 2)) (pi_consD pd_str pi_nilD (by rfl)) (by rfl)) (by rfl) (by decide) (by rfl) (by rfl))) ss_nil)) (fun _ => rfl))
    (ss_one (s_ret (pn_b1 call_lenAny sem_len rfl T.z_len (by rfl) (pd_name (pv 1)) (by decide) (by decide) (by rfl) (by rfl)))))))
theorem kb_check_machine_thing_setting (T : Tx Pr K mg) : KBinds K T.d_check_machine ["setting", "thing"] ["thing", "setting"] (fun us ws => if us.isEmpty then permute [1, 0] ws else []) (fun us ws => if us.isEmpty then permute [1, 0] ws else []) :=
  kbinds_mk T.p_check_machine.F (fun kV doc pm an cdv ct ws hl => by
    rcases ws with _ | ⟨x, _ | ⟨x, r⟩⟩
    · simp [permute] at hl
    · simp [permute] at hl
    · rfl) (by simp)
theorem sc_l_ask : FnScope ["setting", "thing", "named", "told", "error"] ["setting", "thing", "named"] (defScope s_l_ask) := ⟨rfl, rfl, rfl, by decide +kernel, rfl, by decide +kernel, by decide +kernel⟩
theorem ok_l_ask (T : Tx Pr K mg) : FnOk Pr w K mg base (L2.CX Pr w) 6 T.a_l_ask T.d_l_ask ["setting", "thing", "named"] (spF K (["setting", "thing", "named"] : List Str).length F_l_ask) :=
  fn_ok (k := 5) T.p_l_ask.F sc_l_ask fun cdv A outer s H E n0 hr => by
    have S := sc_l_ask
    exact (ss_cons (s_try (M := excM) (cs := [((.ref T.c_HeardError : Value), "HeardError", (some 4), fun c fs => (sFor1 "BadMachine" c (sSeq (sIf (bNot (bTruth (eIsE isM 4 "BadMachine" c))) (sRet (eLst [(eC (.str "other")), (eC (.int 0)), (eC (.str ""))])) sNext)
  (sSeq (sIf (bOr (bTruth (eIsE isM 4 "BadProgram" c)) (bOr (bTruth (eIsE isM 4 "BadRow" c)) (bTruth (eIsE isM 4 "BadSetting" c)))) (sRet (eLst [(eC (.str "other")), (eC (.int 0)), (eC (.str ""))])) sNext)
  (sSeq (sIf (bTruth (eIsE isM 4 "BadText" c)) (sRet (eLst [(eC (.str "other")), (eC (.int 0)), (eC (.str ""))])) sNext)
  (sRet (eLst [(eC (.str "raised")), (eFld 4 "at" fs), (eFld 4 "word" fs)])))))))]) rfl rfl (takes_of rfl rfl rfl rfl) S.nd (fun W pn xe tk hp => (ss_one (s_if (pt_truthD (pd_name (pv 2)) (fun _ => rfl)) (ss_one (s_set (i := 3) S.nd rfl (by first | exact Or.inl rfl | exact Or.inr rfl) (toD (pn_callKS (ok_check_machine T) tk (hr.mono (by decide)) rfl T.p_check_machine.g T.p_check_machine.F.kp (kb_check_machine_thing_setting T) (pk_consD (pd_name (pv 1)) (pk_consD (pd_name (pv 0)) pk_nilD)) (by decide) (by rfl) (by rfl) (by rfl) (by decide) (by rfl))) (by rfl) (by first | exact Or.inl rfl | exact Or.inr rfl))) (ss_one (s_set (i := 3) S.nd rfl (by first | exact Or.inl rfl | exact Or.inr rfl) (toD (pn_call (ok_check_machine T) tk (hr.mono (by decide)) rfl T.p_check_machine.g T.p_check_machine.F.kp T.p_check_machine.b (ph_cons (pd_name (pv 0)) (ph_cons (pd_name (pv 1)) ph_nil (by rfl)) (by rfl)) (by rfl) (by decide) (by rfl) (by rfl))) (by rfl) (by first | exact Or.inl rfl | exact Or.inr rfl)))))) (.consAs rfl rfl ⟨rfl, by decide, .inl T.gx_HeardError⟩ (su_all fun z oe pn hz hf => (su_if fun ez => (ss_cons (s_if (pt_notD (pt_truthD (toD (pn_isE ⟨⟨oe, List.mem_cons_self, hz, hf⟩⟩ T.km_BadMachine rfl T.z_isinstance (by rfl) (pv 4) (pe_glob (by rfl) T.gx_BadMachine rfl (by decide)) (by decide) (by decide) (by rfl) (by rfl) (by rfl))) (fun _ => rfl))) (ss_one (s_ret (pn_lst (pi_consD pd_str (pi_consD pd_int (pi_consD pd_str pi_nilD (by rfl)) (by rfl)) (by rfl))))) ss_nil)
    (ss_cons (s_if (PW.pt (pw_orD (pt_truthD (toD (pn_isE ⟨⟨oe, List.mem_cons_self, hz, hf⟩⟩ T.km_BadProgram rfl T.z_isinstance (by rfl) (pv 4) (pe_glob (by rfl) T.gx_BadProgram rfl (by decide)) (by decide) (by decide) (by rfl) (by rfl) (by rfl))) (fun _ => rfl)) (pw_orD (pt_truthD (toD (pn_isE ⟨⟨oe, List.mem_cons_self, hz, hf⟩⟩ T.km_BadRow rfl T.z_isinstance (by rfl) (pv 4) (pe_glob (by rfl) T.gx_BadRow rfl (by decide)) (by decide) (by decide) (by rfl) (by rfl) (by rfl))) (fun _ => rfl)) (pw_or1 (pt_truthD (toD (pn_isE ⟨⟨oe, List.mem_cons_self, hz, hf⟩⟩ T.km_BadSetting rfl T.z_isinstance (by rfl) (pv 4) (pe_glob (by rfl) T.gx_BadSetting rfl (by decide)) (by decide) (by decide) (by rfl) (by rfl) (by rfl))) (fun _ => rfl)))))) (ss_one (s_ret (pn_lst (pi_consD pd_str (pi_consD pd_int (pi_consD pd_str pi_nilD (by rfl)) (by rfl)) (by rfl))))) ss_nil)
    (ss_cons (s_if (pt_truthD (toD (pn_isE ⟨⟨oe, List.mem_cons_self, hz, hf⟩⟩ T.km_BadText rfl T.z_isinstance (by rfl) (pv 4) (pe_glob (by rfl) T.gx_BadText rfl (by decide)) (by decide) (by decide) (by rfl) (by rfl) (by rfl))) (fun _ => rfl)) (ss_one (s_ret (pn_lst (pi_consD pd_str (pi_consD pd_int (pi_consD pd_str pi_nilD (by rfl)) (by rfl)) (by rfl))))) ss_nil)
    (ss_one (s_ret (pn_lst (pi_consD pd_str (pi_consD (toD (pn_fld T.xf_BadMachine (T.sx_BadMachine.noN _ (by decide)) (by rw [ez]; exact T.n_BadMachine) hz hf (pv 4) (by rfl))) (pi_consD (toD (pn_fld T.xf_BadMachine (T.sx_BadMachine.noN _ (by decide)) (by rw [ez]; exact T.n_BadMachine) hz hf (pv 4) (by rfl))) pi_nilD (by rfl)) (by rfl)) (by rfl)))))))))) .nil) (cols_cons T.xm_HeardError cols_nil))
    (ss_one (s_ret (pn_lst (pi_consD pd_str (pi_consD (pd_name (pv 3)) (pi_consD pd_str pi_nilD (by rfl)) (by rfl)) (by rfl))))))
theorem sc_l_fits : FnScope ["told", "due"] ["told", "due"] (defScope s_l_fits) := ⟨rfl, rfl, rfl, by decide +kernel, rfl, by decide +kernel, by decide +kernel⟩
theorem ok_l_fits (T : Tx Pr K mg) : FnOk Pr w K mg base (L2.CX Pr w) 1 T.a_l_fits T.d_l_fits ["told", "due"] (spF K (["told", "due"] : List Str).length F_l_fits) :=
  fn_ok (k := 0) T.p_l_fits.F sc_l_fits fun cdv A outer s H E n0 hr => by
    have S := sc_l_fits
    exact (ss_cons (s_if (pt_cmpD (op_neD hr.units) sem_ne (toD (pn_ix ix_seq sem_ix (pd_name (pv 0)) pd_int (fun _ _ => rfl))) (toD (pn_ix ix_seq sem_ix (pd_name (pv 1)) pd_int (fun _ _ => rfl))) (by rfl)) (ss_one (s_ret (toN' pd_bl))) ss_nil)
    (ss_cons (s_if (PW.pt (pw_orD (pt_notD (pt_truthD (toD (pn_isi call_isi (sem_isa isa_int) rfl T.z_isinstance (by rfl) (toD (pn_ix ix_seq sem_ix (pd_name (pv 0)) pd_int (fun _ _ => rfl))) (pe_bltn rfl T.z_int (by rfl) rfl) (by decide) (by decide) (by rfl) (by rfl) (by rfl))) (fun _ => rfl))) (pw_orD (pt_truthD (toD (pn_isi call_isi (sem_isa isa_bool) rfl T.z_isinstance (by rfl) (toD (pn_ix ix_seq sem_ix (pd_name (pv 0)) pd_int (fun _ _ => rfl))) (pe_bltn rfl T.z_bool (by rfl) rfl) (by decide) (by decide) (by rfl) (by rfl) (by rfl))) (fun _ => rfl)) (pw_or1 (pt_cmpD (op_neD hr.units) sem_ne (toD (pn_ix ix_seq sem_ix (pd_name (pv 0)) pd_int (fun _ _ => rfl))) (toD (pn_ix ix_seq sem_ix (pd_name (pv 1)) pd_int (fun _ _ => rfl))) (by rfl)))))) (ss_one (s_ret (toN' pd_bl))) ss_nil)
    (ss_one (s_ret (pn_and (pn_isi call_isi (sem_isa isa_str) rfl T.z_isinstance (by rfl) (toD (pn_ix ix_seq sem_ix (pd_name (pv 0)) pd_int (fun _ _ => rfl))) (pe_bltn rfl T.z_str (by rfl) rfl) (by decide) (by decide) (by rfl) (by rfl) (by rfl)) (pn_one (pn_cmp (op_eqD hr.units) sem_eq (toD (pn_ix ix_seq sem_ix (pd_name (pv 0)) pd_int (fun _ _ => rfl))) (toD (pn_ix ix_seq sem_ix (pd_name (pv 1)) pd_int (fun _ _ => rfl))) (by rfl))))))))
theorem sc_is_machine : FnScope ["setting", "thing", "state"] ["setting", "thing"] (defScope s_is_machine) := ⟨rfl, rfl, rfl, by decide +kernel, rfl, by decide +kernel, by decide +kernel⟩
theorem ok_is_machine (T : Tx Pr K mg) : FnOk Pr w K mg base (L2.CX Pr w) 5 T.a_is_machine T.d_is_machine ["setting", "thing"] (spF K (["setting", "thing"] : List Str).length F_is_machine) :=
  fn_ok (k := 4) T.p_is_machine.F sc_is_machine fun cdv A outer s H E n0 hr => by
    have S := sc_is_machine
    exact (ss_cons (s_if (PW.pt (pw_orD (pt_notD (pt_truthD (toD (pn_isi call_isi (sem_isa isa_tuple) rfl T.z_isinstance (by rfl) (pd_name (pv 1)) (pe_bltn rfl T.z_tuple (by rfl) rfl) (by decide) (by decide) (by rfl) (by rfl) (by rfl))) (fun _ => rfl))) (pw_or1 (pt_notD (pt_truthD (pd_name (pv 1)) (fun _ => rfl)))))) (ss_one (s_ret (toN' pd_bl))) ss_nil)
    (ss_one (s_ret (pn_b1 (cr_all rfl) sem_all rfl T.z_all (by rfl) (toD (pn_lc (own := [("state", 2)]) (t := (tgName 2)) (c := bYes) rfl S.nd (pw_any (pd_name (pv 1))) (blkOk_by (N := ["setting", "thing", "state"]) (sc := defScope s_is_machine) (by decide +kernel)) (fun _ _ _ _ _ => (pg_name (i := 2) S.nd rfl (by first | exact Or.inl rfl | exact Or.inr rfl))) (fun _ _ _ _ _ => pts_yes) (fun _ _ _ _ _ => (toD (pn_call0 (ok_is_state T) (hr.mono (by decide)) rfl T.p_is_state.g T.p_is_state.F.kp T.p_is_state.b (ph_cons (toD (pn_b1 call_lenAny sem_len rfl T.z_len (by rfl) (toD (pn_ix ix_seq sem_ix (pd_name (pv 0)) pd_int (fun _ _ => rfl))) (by decide) (by decide) (by rfl) (by rfl))) (ph_cons (toD (pn_b1 call_lenAny sem_len rfl T.z_len (by rfl) (pd_name (pv 1)) (by decide) (by decide) (by rfl) (by rfl))) (ph_cons (pd_name (pv 2)) ph_nil (by rfl)) (by rfl)) (by rfl)) (by rfl) (by decide) (by rfl) (by rfl)))) tgok_name (tgin_name (by decide)) (fun _ => rfl))) (by decide) (by decide) (by rfl) (by rfl)))))
theorem kb_is_machine_thing_setting (T : Tx Pr K mg) : KBinds K T.d_is_machine ["setting", "thing"] ["thing", "setting"] (fun us ws => if us.isEmpty then permute [1, 0] ws else []) (fun us ws => if us.isEmpty then permute [1, 0] ws else []) :=
  kbinds_mk T.p_is_machine.F (fun kV doc pm an cdv ct ws hl => by
    rcases ws with _ | ⟨x, _ | ⟨x, r⟩⟩
    · simp [permute] at hl
    · simp [permute] at hl
    · rfl) (by simp)
theorem sc_l_whether : FnScope ["setting", "thing", "due", "named", "told"] ["setting", "thing", "due", "named"] (defScope s_l_whether) := ⟨rfl, rfl, rfl, by decide +kernel, rfl, by decide +kernel, by decide +kernel⟩
theorem ok_l_whether (T : Tx Pr K mg) : FnOk Pr w K mg base (L2.CX Pr w) 6 T.a_l_whether T.d_l_whether ["setting", "thing", "due", "named"] (spF K (["setting", "thing", "due", "named"] : List Str).length F_l_whether) :=
  fn_ok (k := 5) T.p_l_whether.F sc_l_whether fun cdv A outer s H E n0 hr => by
    have S := sc_l_whether
    exact (ss_cons (s_if (pt_truthD (pd_name (pv 3)) (fun _ => rfl)) (ss_one (s_set (i := 4) S.nd rfl (by first | exact Or.inl rfl | exact Or.inr rfl) (toD (pn_callK (ok_is_machine T) (takes_of rfl rfl rfl rfl) (hr.mono (by decide)) rfl T.p_is_machine.g T.p_is_machine.F.kp (kb_is_machine_thing_setting T) (pk_consD (pd_name (pv 1)) (pk_consD (pd_name (pv 0)) pk_nilD)) (by decide) (by rfl) (by rfl) (by rfl) (by decide) (by rfl))) (by rfl) (by first | exact Or.inl rfl | exact Or.inr rfl))) (ss_one (s_set (i := 4) S.nd rfl (by first | exact Or.inl rfl | exact Or.inr rfl) (toD (pn_call (ok_is_machine T) (takes_of rfl rfl rfl rfl) (hr.mono (by decide)) rfl T.p_is_machine.g T.p_is_machine.F.kp T.p_is_machine.b (ph_cons (pd_name (pv 0)) (ph_cons (pd_name (pv 1)) ph_nil (by rfl)) (by rfl)) (by rfl) (by decide) (by rfl) (by rfl))) (by rfl) (by first | exact Or.inl rfl | exact Or.inr rfl))))
    (ss_one (s_ret (pn_and (pn_isi call_isi (sem_isa isa_bool) rfl T.z_isinstance (by rfl) (pd_name (pv 4)) (pe_bltn rfl T.z_bool (by rfl) rfl) (by decide) (by decide) (by rfl) (by rfl) (by rfl)) (pn_one (pn_cmp (op_eqD hr.units) sem_eq (pd_name (pv 4)) (pd_name (pv 2)) (by rfl)))))))
theorem sc_l_stands : FnScope ["state", "signs", "many", "there"] ["state", "signs", "many"] (defScope s_l_stands) := ⟨rfl, rfl, rfl, by decide +kernel, rfl, by decide +kernel, by decide +kernel⟩
theorem ok_l_stands (T : Tx Pr K mg) : FnOk Pr w K mg base (L2.CX Pr w) 3 T.a_l_stands T.d_l_stands ["state", "signs", "many"] (spF K (["state", "signs", "many"] : List Str).length F_l_stands) :=
  fn_ok (k := 2) T.p_l_stands.F sc_l_stands fun cdv A outer s H E n0 hr => by
    have S := sc_l_stands
    exact (ss_cons (s_if (PW.pt (pw_orD (pt_notD (pt_truthD (toD (pn_isi call_isi (sem_isa isa_tuple) rfl T.z_isinstance (by rfl) (pd_name (pv 0)) (pe_bltn rfl T.z_tuple (by rfl) rfl) (by decide) (by decide) (by rfl) (by rfl) (by rfl))) (fun _ => rfl))) (pw_or1 (pt_cmpD (op_neD hr.units) sem_ne (toD (pn_b1 call_lenAny sem_len rfl T.z_len (by rfl) (pd_name (pv 0)) (by decide) (by decide) (by rfl) (by rfl))) pd_int (by rfl))))) (ss_one (s_ret (toN' pd_bl))) ss_nil)
    (ss_cons (s_if (pt_notD (pt_truthD (toD (pn_call (ok_l_is_name T) (takes_of rfl rfl rfl rfl) (hr.mono (by decide)) rfl T.p_l_is_name.g T.p_l_is_name.F.kp T.p_l_is_name.b (ph_cons (toD (pn_ix ix_seq sem_ix (pd_name (pv 0)) pd_int (fun _ _ => rfl))) ph_nil (by rfl)) (by rfl) (by decide) (by rfl) (by rfl))) (fun _ => rfl))) (ss_one (s_ret (toN' pd_bl))) ss_nil)
    (ss_cons (s_if (PW.pt (pw_orD (pt_notD (pt_truthD (toD (pn_isi call_isi (sem_isa isa_tuple) rfl T.z_isinstance (by rfl) (toD (pn_ix ix_seq sem_ix (pd_name (pv 0)) pd_int (fun _ _ => rfl))) (pe_bltn rfl T.z_tuple (by rfl) rfl) (by decide) (by decide) (by rfl) (by rfl) (by rfl))) (fun _ => rfl))) (pw_or1 (pt_cmpD (op_neD hr.units) sem_ne (toD (pn_b1 call_lenAny sem_len rfl T.z_len (by rfl) (toD (pn_ix ix_seq sem_ix (pd_name (pv 0)) pd_int (fun _ _ => rfl))) (by decide) (by decide) (by rfl) (by rfl))) (pd_name (pv 1)) (by rfl))))) (ss_one (s_ret (toN' pd_bl))) ss_nil)
    (ss_cons (s_for (passes_of rfl) rfl (pw_any (toD (pn_ix ix_seq sem_ix (pd_name (pv 0)) pd_int (fun _ _ => rfl)))) (pg_name (i := 3) S.nd rfl (by first | exact Or.inl rfl | exact Or.inr rfl)) tgok_name (ss_cons (s_if (PW.pt (pw_orD (pt_notD (pt_truthD (toD (pn_isi call_isi (sem_isa isa_int) rfl T.z_isinstance (by rfl) (pd_name (pv 3)) (pe_bltn rfl T.z_int (by rfl) rfl) (by decide) (by decide) (by rfl) (by rfl) (by rfl))) (fun _ => rfl))) (pw_or1 (pt_truthD (toD (pn_isi call_isi (sem_isa isa_bool) rfl T.z_isinstance (by rfl) (pd_name (pv 3)) (pe_bltn rfl T.z_bool (by rfl) rfl) (by decide) (by decide) (by rfl) (by rfl) (by rfl))) (fun _ => rfl))))) (ss_one (s_ret (toN' pd_bl))) ss_nil)
    (ss_one (s_if (PW.pt (pw_orD (pt_cmpD op_lt sem_lt (pd_name (pv 3)) pd_int (by rfl)) (pw_or1 (pt_cmpD op_ge sem_ge (pd_name (pv 3)) (pd_name (pv 2)) (by rfl))))) (ss_one (s_ret (toN' pd_bl))) ss_nil))) (fun _ => rfl))
    (ss_one (s_ret (toN' pd_bl)))))))
theorem sc_l_first_bad : FnScope ["signs", "thing", "at"] ["signs", "thing"] (defScope s_l_first_bad) := ⟨rfl, rfl, rfl, by decide +kernel, rfl, by decide +kernel, by decide +kernel⟩
theorem ok_l_first_bad (T : Tx Pr K mg) : FnOk Pr w K mg base (L2.CX Pr w) 4 T.a_l_first_bad T.d_l_first_bad ["signs", "thing"] (spF K (["signs", "thing"] : List Str).length F_l_first_bad) :=
  fn_ok (k := 3) T.p_l_first_bad.F sc_l_first_bad fun cdv A outer s H E n0 hr => by
    have S := sc_l_first_bad
    exact (ss_cons (s_for (passes_of rfl) rfl (pw_range1 rfl T.z_range (toD (pn_b1 call_lenAny sem_len rfl T.z_len (by rfl) (pd_name (pv 1)) (by decide) (by decide) (by rfl) (by rfl))) (by rfl) (by rfl)) (pg_name (i := 2) S.nd rfl (by first | exact Or.inl rfl | exact Or.inr rfl)) tgok_name (ss_one (s_if (pt_notD (pt_truthD (toD (pn_call (ok_l_stands T) (takes_of rfl rfl rfl rfl) (hr.mono (by decide)) rfl T.p_l_stands.g T.p_l_stands.F.kp T.p_l_stands.b (ph_cons (toD (pn_ix ix_seq sem_ix (pd_name (pv 1)) (pd_name (pv 2)) (fun _ _ => rfl))) (ph_cons (pd_name (pv 0)) (ph_cons (toD (pn_b1 call_lenAny sem_len rfl T.z_len (by rfl) (pd_name (pv 1)) (by decide) (by decide) (by rfl) (by rfl))) ph_nil (by rfl)) (by rfl)) (by rfl)) (by rfl) (by decide) (by rfl) (by rfl))) (fun _ => rfl))) (ss_one (s_ret (toN' (pd_name (pv 2))))) ss_nil)) (fun _ => rfl))
    (ss_one (s_ret (pn_un un_neg sem_neg pd_int))))
theorem sc_l_due : FnScope ["signs", "thing", "at"] ["signs", "thing"] (defScope s_l_due) := ⟨rfl, rfl, rfl, by decide +kernel, rfl, by decide +kernel, by decide +kernel⟩
theorem ok_l_due (T : Tx Pr K mg) : FnOk Pr w K mg base (L2.CX Pr w) 5 T.a_l_due T.d_l_due ["signs", "thing"] (spF K (["signs", "thing"] : List Str).length F_l_due) :=
  fn_ok (k := 4) T.p_l_due.F sc_l_due fun cdv A outer s H E n0 hr => by
    have S := sc_l_due
    exact (ss_cons (s_if (pt_notD (pt_truthD (toD (pn_isi call_isi (sem_isa isa_tuple) rfl T.z_isinstance (by rfl) (pd_name (pv 1)) (pe_bltn rfl T.z_tuple (by rfl) rfl) (by decide) (by decide) (by rfl) (by rfl) (by rfl))) (fun _ => rfl))) (ss_one (s_ret (pn_lst (pi_consD pd_str (pi_consD (toD (pn_un un_neg sem_neg pd_int)) (pi_consD pd_str pi_nilD (by rfl)) (by rfl)) (by rfl))))) ss_nil)
    (ss_cons (s_if (PW.pt (pw_orD (pt_cmpD op_lt sem_lt (toD (pn_b1 call_lenAny sem_len rfl T.z_len (by rfl) (pd_name (pv 1)) (by decide) (by decide) (by rfl) (by rfl))) pd_int (by rfl)) (pw_or1 (pt_cmpD op_gt sem_gt (toD (pn_b1 call_lenAny sem_len rfl T.z_len (by rfl) (pd_name (pv 1)) (by decide) (by decide) (by rfl) (by rfl))) pd_int (by rfl))))) (ss_one (s_ret (pn_lst (pi_consD pd_str (pi_consD (toD (pn_un un_neg sem_neg pd_int)) (pi_consD pd_str pi_nilD (by rfl)) (by rfl)) (by rfl))))) ss_nil)
    (ss_cons (s_set (i := 2) S.nd rfl (by first | exact Or.inl rfl | exact Or.inr rfl) (toD (pn_call (ok_l_first_bad T) (takes_of rfl rfl rfl rfl) (hr.mono (by decide)) rfl T.p_l_first_bad.g T.p_l_first_bad.F.kp T.p_l_first_bad.b (ph_cons (pd_name (pv 0)) (ph_cons (pd_name (pv 1)) ph_nil (by rfl)) (by rfl)) (by rfl) (by decide) (by rfl) (by rfl))) (by rfl) (by first | exact Or.inl rfl | exact Or.inr rfl))
    (ss_cons (s_if (pt_cmpD op_ge sem_ge (pd_name (pv 2)) pd_int (by rfl)) (ss_one (s_ret (pn_lst (pi_consD pd_str (pi_consD (pd_name (pv 2)) (pi_consD pd_str pi_nilD (by rfl)) (by rfl)) (by rfl))))) ss_nil)
    (ss_one (s_ret (pn_lst (pi_consD pd_str (pi_consD (toD (pn_b1 call_lenAny sem_len rfl T.z_len (by rfl) (pd_name (pv 1)) (by decide) (by decide) (by rfl) (by rfl))) (pi_consD pd_str pi_nilD (by rfl)) (by rfl)) (by rfl)))))))))
theorem sc_l_is_due : FnScope ["signs", "thing"] ["signs", "thing"] (defScope s_l_is_due) := ⟨rfl, rfl, rfl, by decide +kernel, rfl, by decide +kernel, by decide +kernel⟩
theorem ok_l_is_due (T : Tx Pr K mg) : FnOk Pr w K mg base (L2.CX Pr w) 5 T.a_l_is_due T.d_l_is_due ["signs", "thing"] (spF K (["signs", "thing"] : List Str).length F_l_is_due) :=
  fn_ok (k := 4) T.p_l_is_due.F sc_l_is_due fun cdv A outer s H E n0 hr => by
    have S := sc_l_is_due
    exact (ss_one (s_ret (pn_and (pn_isi call_isi (sem_isa isa_tuple) rfl T.z_isinstance (by rfl) (pd_name (pv 1)) (pe_bltn rfl T.z_tuple (by rfl) rfl) (by decide) (by decide) (by rfl) (by rfl) (by rfl)) (pn_and (pn_cmp op_ge sem_ge (toD (pn_b1 call_lenAny sem_len rfl T.z_len (by rfl) (pd_name (pv 1)) (by decide) (by decide) (by rfl) (by rfl))) pd_int (by rfl)) (pn_one (pn_cmp op_lt sem_lt (toD (pn_call (ok_l_first_bad T) (takes_of rfl rfl rfl rfl) (hr.mono (by decide)) rfl T.p_l_first_bad.g T.p_l_first_bad.F.kp T.p_l_first_bad.b (ph_cons (pd_name (pv 0)) (ph_cons (pd_name (pv 1)) ph_nil (by rfl)) (by rfl)) (by rfl) (by decide) (by rfl) (by rfl))) pd_int (by rfl)))))))
theorem sc_l_holds : FnScope ["setting", "thing", "named", "signs", "due", "yes"] ["setting", "thing", "named"] (defScope s_l_holds) := ⟨rfl, rfl, rfl, by decide +kernel, rfl, by decide +kernel, by decide +kernel⟩
theorem ok_l_holds (T : Tx Pr K mg) : FnOk Pr w K mg base (L2.CX Pr w) 7 T.a_l_holds T.d_l_holds ["setting", "thing", "named"] (spF K (["setting", "thing", "named"] : List Str).length F_l_holds) :=
  fn_ok (k := 6) T.p_l_holds.F sc_l_holds fun cdv A outer s H E n0 hr => by
    have S := sc_l_holds
    exact (ss_cons (s_set (i := 3) S.nd rfl (by first | exact Or.inl rfl | exact Or.inr rfl) (toD (pn_b1 call_lenAny sem_len rfl T.z_len (by rfl) (toD (pn_ix ix_seq sem_ix (pd_name (pv 0)) pd_int (fun _ _ => rfl))) (by decide) (by decide) (by rfl) (by rfl))) (by rfl) (by first | exact Or.inl rfl | exact Or.inr rfl))
    (ss_cons (s_set (i := 4) S.nd rfl (by first | exact Or.inl rfl | exact Or.inr rfl) (toD (pn_call (ok_l_due T) (takes_of rfl rfl rfl rfl) (hr.mono (by decide)) rfl T.p_l_due.g T.p_l_due.F.kp T.p_l_due.b (ph_cons (pd_name (pv 3)) (ph_cons (pd_name (pv 1)) ph_nil (by rfl)) (by rfl)) (by rfl) (by decide) (by rfl) (by rfl))) (by rfl) (by first | exact Or.inl rfl | exact Or.inr rfl))
    (ss_cons (s_set (i := 5) S.nd rfl (by first | exact Or.inl rfl | exact Or.inr rfl) (toD (pn_call (ok_l_is_due T) (takes_of rfl rfl rfl rfl) (hr.mono (by decide)) rfl T.p_l_is_due.g T.p_l_is_due.F.kp T.p_l_is_due.b (ph_cons (pd_name (pv 3)) (ph_cons (pd_name (pv 1)) ph_nil (by rfl)) (by rfl)) (by rfl) (by decide) (by rfl) (by rfl))) (by rfl) (by first | exact Or.inl rfl | exact Or.inr rfl))
    (ss_cons (s_if (pt_notD (pt_truthD (toD (pn_call (ok_l_fits T) (takes_of rfl rfl rfl rfl) (hr.mono (by decide)) rfl T.p_l_fits.g T.p_l_fits.F.kp T.p_l_fits.b (ph_cons (toD (pn_call (ok_l_ask T) (takes_of rfl rfl rfl rfl) (hr.mono (by decide)) rfl T.p_l_ask.g T.p_l_ask.F.kp T.p_l_ask.b (ph_cons (pd_name (pv 0)) (ph_cons (pd_name (pv 1)) (ph_cons (pd_name (pv 2)) ph_nil (by rfl)) (by rfl)) (by rfl)) (by rfl) (by decide) (by rfl) (by rfl))) (ph_cons (pd_name (pv 4)) ph_nil (by rfl)) (by rfl)) (by rfl) (by decide) (by rfl) (by rfl))) (fun _ => rfl))) (ss_one (s_ret (toN' pd_bl))) ss_nil)
    (ss_one (s_ret (pn_call (ok_l_whether T) (takes_of rfl rfl rfl rfl) (hr.mono (by decide)) rfl T.p_l_whether.g T.p_l_whether.F.kp T.p_l_whether.b (ph_cons (pd_name (pv 0)) (ph_cons (pd_name (pv 1)) (ph_cons (pd_name (pv 5)) (ph_cons (pd_name (pv 2)) ph_nil (by rfl)) (by rfl)) (by rfl)) (by rfl)) (by rfl) (by decide) (by rfl) (by rfl))))))))
theorem sc_l_bent_word : FnScope ["jar", "word", "way", "words", "odd", "at"] ["jar", "word", "way"] (defScope s_l_bent_word) := ⟨rfl, rfl, rfl, by decide +kernel, rfl, by decide +kernel, by decide +kernel⟩
theorem ok_l_bent_word (T : Tx Pr K mg) : FnOk Pr w K mg base (L2.CX Pr w) 2 T.a_l_bent_word T.d_l_bent_word ["jar", "word", "way"] (spF K (["jar", "word", "way"] : List Str).length F_l_bent_word) :=
  fn_ok (k := 1) T.p_l_bent_word.F sc_l_bent_word fun cdv A outer s H E n0 hr => by
    have S := sc_l_bent_word
    exact (ss_cons (s_if (pt_cmpD (op_eqD hr.units) sem_eq (pd_name (pv 2)) pd_int (by rfl)) (ss_one (s_ret (toN' pd_str))) ss_nil)
    (ss_cons (s_if (pt_cmpD (op_eqD hr.units) sem_eq (pd_name (pv 2)) pd_int (by rfl)) (ss_one (s_ret (pn_slice (toD (pn_bin op_addAny sem_add (pd_name (pv 1)) pd_str)) po_noneD (po_someD pd_int)))) ss_nil)
    (ss_cons (s_if (pt_cmpD (op_eqD hr.units) sem_eq (pd_name (pv 2)) pd_int (by rfl)) (ss_cons (s_set (i := 3) S.nd rfl (by first | exact Or.inl rfl | exact Or.inr rfl) (toD (pn_call00 (ok_l_reserved T) (takes_of rfl rfl rfl rfl) (hr.mono (by decide)) rfl T.p_l_reserved.g T.p_l_reserved.F.kp T.p_l_reserved.b (by decide) (by rfl))) (by rfl) (by first | exact Or.inl rfl | exact Or.inr rfl))
    (ss_one (s_ret (pn_ix ix_seq sem_ix (pd_name (pv 3)) (toD (pn_call (ok_l_draw T) (takes_of rfl rfl rfl rfl) (hr.mono (by decide)) rfl T.p_l_draw.g T.p_l_draw.F.kp T.p_l_draw.b (ph_cons (pd_name (pv 0)) (ph_cons (toD (pn_b1 call_lenAny sem_len rfl T.z_len (by rfl) (pd_name (pv 3)) (by decide) (by decide) (by rfl) (by rfl))) ph_nil (by rfl)) (by rfl)) (by rfl) (by decide) (by rfl) (by rfl))) (fun _ _ => rfl))))) ss_nil)
    (ss_cons (s_if (pt_cmpD (op_eqD hr.units) sem_eq (pd_name (pv 2)) pd_int (by rfl)) (ss_cons (s_set (i := 4) S.nd rfl (by first | exact Or.inl rfl | exact Or.inr rfl) pd_str (by rfl) (by first | exact Or.inl rfl | exact Or.inr rfl))
    (ss_cons (s_set (i := 5) S.nd rfl (by first | exact Or.inl rfl | exact Or.inr rfl) (toD (pn_call (ok_l_draw T) (takes_of rfl rfl rfl rfl) (hr.mono (by decide)) rfl T.p_l_draw.g T.p_l_draw.F.kp T.p_l_draw.b (ph_cons (pd_name (pv 0)) (ph_cons (toD (pn_b1 call_lenAny sem_len rfl T.z_len (by rfl) (pd_name (pv 1)) (by decide) (by decide) (by rfl) (by rfl))) ph_nil (by rfl)) (by rfl)) (by rfl) (by decide) (by rfl) (by rfl))) (by rfl) (by first | exact Or.inl rfl | exact Or.inr rfl))
    (ss_one (s_ret (pn_bin op_addAny sem_add (toD (pn_bin op_addAny sem_add (toD (pn_slice (pd_name (pv 1)) po_noneD (po_someD (pd_name (pv 5))))) (toD (pn_ix ix_seq sem_ix (pd_name (pv 4)) (toD (pn_call (ok_l_draw T) (takes_of rfl rfl rfl rfl) (hr.mono (by decide)) rfl T.p_l_draw.g T.p_l_draw.F.kp T.p_l_draw.b (ph_cons (pd_name (pv 0)) (ph_cons (toD (pn_b1 call_lenAny sem_len rfl T.z_len (by rfl) (pd_name (pv 4)) (by decide) (by decide) (by rfl) (by rfl))) ph_nil (by rfl)) (by rfl)) (by rfl) (by decide) (by rfl) (by rfl))) (fun _ _ => rfl))))) (toD (pn_slice (pd_name (pv 1)) (po_someD (toD (pn_bin op_addAny sem_add (pd_name (pv 5)) pd_int))) po_noneD))))))) ss_nil)
    (ss_cons (s_if (pt_cmpD (op_eqD hr.units) sem_eq (pd_name (pv 2)) pd_int (by rfl)) (ss_one (s_ret (pn_bin op_addAny sem_add (toD (pn_ix ix_seq sem_ix pd_str (toD (pn_call (ok_l_draw T) (takes_of rfl rfl rfl rfl) (hr.mono (by decide)) rfl T.p_l_draw.g T.p_l_draw.F.kp T.p_l_draw.b (ph_cons (pd_name (pv 0)) (ph_cons pd_int ph_nil (by rfl)) (by rfl)) (by rfl) (by decide) (by rfl) (by rfl))) (fun _ _ => rfl))) (toD (pn_slice (pd_name (pv 1)) (po_someD pd_int) po_noneD))))) ss_nil)
    (ss_cons (s_if (pt_cmpD (op_eqD hr.units) sem_eq (pd_name (pv 2)) pd_int (by rfl)) (ss_one (s_ret (toN' pd_non))) ss_nil)
    (ss_cons (s_if (pt_cmpD (op_eqD hr.units) sem_eq (pd_name (pv 2)) pd_int (by rfl)) (ss_one (s_ret (pn_call (ok_l_draw T) (takes_of rfl rfl rfl rfl) (hr.mono (by decide)) rfl T.p_l_draw.g T.p_l_draw.F.kp T.p_l_draw.b (ph_cons (pd_name (pv 0)) (ph_cons pd_int ph_nil (by rfl)) (by rfl)) (by rfl) (by decide) (by rfl) (by rfl)))) ss_nil)
    (ss_cons (s_if (pt_cmpD (op_eqD hr.units) sem_eq (pd_name (pv 2)) pd_int (by rfl)) (ss_one (s_ret (pn_tup (pi_consD (pd_name (pv 1)) pi_nilD (by rfl))))) ss_nil)
    (ss_cons (s_if (pt_cmpD (op_eqD hr.units) sem_eq (pd_name (pv 2)) pd_int (by rfl)) (ss_one (s_ret (pn_lst (pi_consD (pd_name (pv 1)) pi_nilD (by rfl))))) ss_nil)
    (ss_one (s_ret (pn_upper (pd_name (pv 1)) (by rfl) (by rfl)))))))))))))
theorem sc_l_bent_number : FnScope ["jar", "many", "way"] ["jar", "many", "way"] (defScope s_l_bent_number) := ⟨rfl, rfl, rfl, by decide +kernel, rfl, by decide +kernel, by decide +kernel⟩
theorem ok_l_bent_number (T : Tx Pr K mg) : FnOk Pr w K mg base (L2.CX Pr w) 2 T.a_l_bent_number T.d_l_bent_number ["jar", "many", "way"] (spF K (["jar", "many", "way"] : List Str).length F_l_bent_number) :=
  fn_ok (k := 1) T.p_l_bent_number.F sc_l_bent_number fun cdv A outer s H E n0 hr => by
    have S := sc_l_bent_number
    exact (ss_cons (s_if (pt_cmpD (op_eqD hr.units) sem_eq (pd_name (pv 2)) pd_int (by rfl)) (ss_one (s_ret (toN' (pd_name (pv 1))))) ss_nil)
    (ss_cons (s_if (pt_cmpD (op_eqD hr.units) sem_eq (pd_name (pv 2)) pd_int (by rfl)) (ss_one (s_ret (pn_bin op_sub sem_sub (toD (pn_un un_neg sem_neg pd_int)) (toD (pn_call (ok_l_draw T) (takes_of rfl rfl rfl rfl) (hr.mono (by decide)) rfl T.p_l_draw.g T.p_l_draw.F.kp T.p_l_draw.b (ph_cons (pd_name (pv 0)) (ph_cons (pd_name (pv 1)) ph_nil (by rfl)) (by rfl)) (by rfl) (by decide) (by rfl) (by rfl)))))) ss_nil)
    (ss_cons (s_if (pt_cmpD (op_eqD hr.units) sem_eq (pd_name (pv 2)) pd_int (by rfl)) (ss_one (s_ret (toN' pd_bl))) ss_nil)
    (ss_cons (s_if (pt_cmpD (op_eqD hr.units) sem_eq (pd_name (pv 2)) pd_int (by rfl)) (ss_one (s_ret (toN' pd_bl))) ss_nil)
    (ss_cons (s_if (pt_cmpD (op_eqD hr.units) sem_eq (pd_name (pv 2)) pd_int (by rfl)) (ss_one (s_ret (toN' pd_non))) ss_nil)
    (ss_cons (s_if (pt_cmpD (op_eqD hr.units) sem_eq (pd_name (pv 2)) pd_int (by rfl)) (ss_one (s_ret (toN' pd_str))) ss_nil)
    (ss_cons (s_if (pt_cmpD (op_eqD hr.units) sem_eq (pd_name (pv 2)) pd_int (by rfl)) (ss_one (s_ret (pn_tup (pi_consD pd_int pi_nilD (by rfl))))) ss_nil)
    (ss_cons (s_if (pt_cmpD (op_eqD hr.units) sem_eq (pd_name (pv 2)) pd_int (by rfl)) (ss_one (s_ret (pn_bin op_addAny sem_add (toD (pn_bin op_pow sem_pow pd_int pd_int)) (toD (pn_call (ok_l_draw T) (takes_of rfl rfl rfl rfl) (hr.mono (by decide)) rfl T.p_l_draw.g T.p_l_draw.F.kp T.p_l_draw.b (ph_cons (pd_name (pv 0)) (ph_cons pd_int ph_nil (by rfl)) (by rfl)) (by rfl) (by decide) (by rfl) (by rfl)))))) ss_nil)
    (ss_cons (s_if (pt_cmpD (op_eqD hr.units) sem_eq (pd_name (pv 2)) pd_int (by rfl)) (ss_one (s_ret (pn_lst (pi_consD pd_int pi_nilD (by rfl))))) ss_nil)
    (ss_one (s_ret (pn_bin op_addAny sem_add (toD (pn_bin op_addAny sem_add (pd_name (pv 1)) pd_int)) (toD (pn_call (ok_l_draw T) (takes_of rfl rfl rfl rfl) (hr.mono (by decide)) rfl T.p_l_draw.g T.p_l_draw.F.kp T.p_l_draw.b (ph_cons (pd_name (pv 0)) (ph_cons pd_int ph_nil (by rfl)) (by rfl)) (by rfl) (by decide) (by rfl) (by rfl)))))))))))))))
theorem sc_l_bent_state : FnScope ["jar", "state", "many", "way", "word", "nexts", "place"] ["jar", "state", "many", "way"] (defScope s_l_bent_state) := ⟨rfl, rfl, rfl, by decide +kernel, rfl, by decide +kernel, by decide +kernel⟩
theorem ok_l_bent_state (T : Tx Pr K mg) : FnOk Pr w K mg base (L2.CX Pr w) 3 T.a_l_bent_state T.d_l_bent_state ["jar", "state", "many", "way"] (spF K (["jar", "state", "many", "way"] : List Str).length F_l_bent_state) :=
  fn_ok (k := 2) T.p_l_bent_state.F sc_l_bent_state fun cdv A outer s H E n0 hr => by
    have S := sc_l_bent_state
    exact (ss_cons (s_set (i := 4) S.nd rfl (by first | exact Or.inl rfl | exact Or.inr rfl) (toD (pn_ix ix_seq sem_ix (pd_name (pv 1)) pd_int (fun _ _ => rfl))) (by rfl) (by first | exact Or.inl rfl | exact Or.inr rfl))
    (ss_cons (s_set (i := 5) S.nd rfl (by first | exact Or.inl rfl | exact Or.inr rfl) (toD (pn_ix ix_seq sem_ix (pd_name (pv 1)) pd_int (fun _ _ => rfl))) (by rfl) (by first | exact Or.inl rfl | exact Or.inr rfl))
    (ss_cons (s_if (pt_cmpD op_lt sem_lt (pd_name (pv 3)) pd_int (by rfl)) (ss_one (s_ret (pn_tup (pi_consD (toD (pn_call (ok_l_bent_word T) (takes_of rfl rfl rfl rfl) (hr.mono (by decide)) rfl T.p_l_bent_word.g T.p_l_bent_word.F.kp T.p_l_bent_word.b (ph_cons (pd_name (pv 0)) (ph_cons (pd_name (pv 4)) (ph_cons (pd_name (pv 3)) ph_nil (by rfl)) (by rfl)) (by rfl)) (by rfl) (by decide) (by rfl) (by rfl))) (pi_consD (pd_name (pv 5)) pi_nilD (by rfl)) (by rfl))))) ss_nil)
    (ss_cons (s_if (pt_cmpD op_lt sem_lt (pd_name (pv 3)) pd_int (by rfl)) (ss_cons (s_set (i := 6) S.nd rfl (by first | exact Or.inl rfl | exact Or.inr rfl) (toD (pn_call (ok_l_draw T) (takes_of rfl rfl rfl rfl) (hr.mono (by decide)) rfl T.p_l_draw.g T.p_l_draw.F.kp T.p_l_draw.b (ph_cons (pd_name (pv 0)) (ph_cons (toD (pn_b1 call_lenAny sem_len rfl T.z_len (by rfl) (pd_name (pv 5)) (by decide) (by decide) (by rfl) (by rfl))) ph_nil (by rfl)) (by rfl)) (by rfl) (by decide) (by rfl) (by rfl))) (by rfl) (by first | exact Or.inl rfl | exact Or.inr rfl))
    (ss_one (s_ret (pn_tup (pi_consD (pd_name (pv 4)) (pi_consD (toD (pn_bin op_addAny sem_add (toD (pn_bin op_addAny sem_add (toD (pn_slice (pd_name (pv 5)) po_noneD (po_someD (pd_name (pv 6))))) (toD (pn_tup (pi_consD (toD (pn_call (ok_l_bent_number T) (takes_of rfl rfl rfl rfl) (hr.mono (by decide)) rfl T.p_l_bent_number.g T.p_l_bent_number.F.kp T.p_l_bent_number.b (ph_cons (pd_name (pv 0)) (ph_cons (pd_name (pv 2)) (ph_cons (toD (pn_bin op_sub sem_sub (pd_name (pv 3)) pd_int)) ph_nil (by rfl)) (by rfl)) (by rfl)) (by rfl) (by decide) (by rfl) (by rfl))) pi_nilD (by rfl)))))) (toD (pn_slice (pd_name (pv 5)) (po_someD (toD (pn_bin op_addAny sem_add (pd_name (pv 6)) pd_int))) po_noneD)))) pi_nilD (by rfl)) (by rfl)))))) ss_nil)
    (ss_cons (s_if (pt_cmpD (op_eqD hr.units) sem_eq (pd_name (pv 3)) pd_int (by rfl)) (ss_one (s_ret (pn_lst (pi_consD (pd_name (pv 4)) (pi_consD (pd_name (pv 5)) pi_nilD (by rfl)) (by rfl))))) ss_nil)
    (ss_cons (s_if (pt_cmpD (op_eqD hr.units) sem_eq (pd_name (pv 3)) pd_int (by rfl)) (ss_one (s_ret (pn_tup (pi_consD (pd_name (pv 4)) pi_nilD (by rfl))))) ss_nil)
    (ss_cons (s_if (pt_cmpD (op_eqD hr.units) sem_eq (pd_name (pv 3)) pd_int (by rfl)) (ss_one (s_ret (pn_tup (pi_consD (pd_name (pv 4)) (pi_consD (pd_name (pv 5)) (pi_consD pd_int pi_nilD (by rfl)) (by rfl)) (by rfl))))) ss_nil)
    (ss_cons (s_if (pt_cmpD (op_eqD hr.units) sem_eq (pd_name (pv 3)) pd_int (by rfl)) (ss_one (s_ret (pn_tup (pi_consD (pd_name (pv 4)) (pi_consD (toD (pn_t1 call_list_of sem_list rfl T.z_list (by rfl) (pd_name (pv 5)) (by decide) (by decide) (by rfl) (by rfl))) pi_nilD (by rfl)) (by rfl))))) ss_nil)
    (ss_cons (s_if (pt_cmpD (op_eqD hr.units) sem_eq (pd_name (pv 3)) pd_int (by rfl)) (ss_one (s_ret (pn_tup (pi_consD (pd_name (pv 4)) (pi_consD (toD (pn_slice (pd_name (pv 5)) po_noneD (po_someD (toD (pn_bin op_sub sem_sub (toD (pn_b1 call_lenAny sem_len rfl T.z_len (by rfl) (pd_name (pv 5)) (by decide) (by decide) (by rfl) (by rfl))) pd_int))))) pi_nilD (by rfl)) (by rfl))))) ss_nil)
    (ss_cons (s_if (pt_cmpD (op_eqD hr.units) sem_eq (pd_name (pv 3)) pd_int (by rfl)) (ss_one (s_ret (pn_tup (pi_consD (pd_name (pv 4)) (pi_consD (toD (pn_bin op_addAny sem_add (pd_name (pv 5)) (toD (pn_tup (pi_consD (toD (pn_ix ix_seq sem_ix (pd_name (pv 5)) pd_int (fun _ _ => rfl))) pi_nilD (by rfl)))))) pi_nilD (by rfl)) (by rfl))))) ss_nil)
    (ss_cons (s_if (pt_cmpD (op_eqD hr.units) sem_eq (pd_name (pv 3)) pd_int (by rfl)) (ss_one (s_ret (pn_tup (pi_consD (pd_name (pv 5)) (pi_consD (pd_name (pv 4)) pi_nilD (by rfl)) (by rfl))))) ss_nil)
    (ss_one (s_ret (pn_tup (pi_consD (pd_name (pv 4)) (pi_consD (toD (pn_slice pd_str po_noneD (po_someD (toD (pn_b1 call_lenAny sem_len rfl T.z_len (by rfl) (pd_name (pv 5)) (by decide) (by decide) (by rfl) (by rfl)))))) pi_nilD (by rfl)) (by rfl))))))))))))))))
theorem sc_l_plain_same : FnScope ["one", "other", "at"] ["one", "other"] (defScope s_l_plain_same) := ⟨rfl, rfl, rfl, by decide +kernel, rfl, by decide +kernel, by decide +kernel⟩
theorem okr_l_plain_same : ∀ (k : Nat) (T : Tx Pr K mg), FnOk Pr w K mg base (L2.CX Pr w) (k + 1) T.a_l_plain_same T.d_l_plain_same ["one", "other"] (spF K (["one", "other"] : List Str).length (R_l_plain_same k))
  | 0, T => fn_none (by rfl)
  | k + 1, T => fn_ok (k := k + 1) T.p_l_plain_same.F sc_l_plain_same fun cdv A outer s H E n0 hr => by
    have S := sc_l_plain_same
    have ih := okr_l_plain_same k
    exact (ss_cons (s_if (pt_truthD (toD (pn_isi2 (sem_isa2 isa_tuple isa_list) rfl T.z_isinstance (by rfl) (pd_name (pv 0)) (pe_bltn rfl T.z_tuple (by rfl) rfl) (pe_bltn rfl T.z_list (by rfl) rfl) (by decide) (by decide) (by rfl) (by rfl) (by rfl) (by rfl) (by rfl))) (fun _ => rfl)) (ss_cons (s_if (PW.pt (pw_orD (pt_cmpD (op_neD hr.units) sem_ne (toD (pn_isi call_isi (sem_isa isa_tuple) rfl T.z_isinstance (by rfl) (pd_name (pv 0)) (pe_bltn rfl T.z_tuple (by rfl) rfl) (by decide) (by decide) (by rfl) (by rfl) (by rfl))) (toD (pn_isi call_isi (sem_isa isa_tuple) rfl T.z_isinstance (by rfl) (pd_name (pv 1)) (pe_bltn rfl T.z_tuple (by rfl) rfl) (by decide) (by decide) (by rfl) (by rfl) (by rfl))) (by rfl)) (pw_or1 (pt_cmpD (op_neD hr.units) sem_ne (toD (pn_isi call_isi (sem_isa isa_list) rfl T.z_isinstance (by rfl) (pd_name (pv 0)) (pe_bltn rfl T.z_list (by rfl) rfl) (by decide) (by decide) (by rfl) (by rfl) (by rfl))) (toD (pn_isi call_isi (sem_isa isa_list) rfl T.z_isinstance (by rfl) (pd_name (pv 1)) (pe_bltn rfl T.z_list (by rfl) rfl) (by decide) (by decide) (by rfl) (by rfl) (by rfl))) (by rfl))))) (ss_one (s_ret (toN' pd_bl))) ss_nil)
    (ss_cons (s_if (pt_cmpD (op_neD hr.units) sem_ne (toD (pn_b1 call_lenAny sem_len rfl T.z_len (by rfl) (pd_name (pv 0)) (by decide) (by decide) (by rfl) (by rfl))) (toD (pn_b1 call_lenAny sem_len rfl T.z_len (by rfl) (pd_name (pv 1)) (by decide) (by decide) (by rfl) (by rfl))) (by rfl)) (ss_one (s_ret (toN' pd_bl))) ss_nil)
    (ss_cons (s_for (passes_of rfl) rfl (pw_range1 rfl T.z_range (toD (pn_b1 call_lenAny sem_len rfl T.z_len (by rfl) (pd_name (pv 0)) (by decide) (by decide) (by rfl) (by rfl))) (by rfl) (by rfl)) (pg_name (i := 2) S.nd rfl (by first | exact Or.inl rfl | exact Or.inr rfl)) tgok_name (ss_one (s_if (pt_notD (pt_truthD (toD (pn_call (ih T) (takes_of rfl rfl rfl rfl) hr rfl T.p_l_plain_same.g T.p_l_plain_same.F.kp T.p_l_plain_same.b (ph_cons (toD (pn_ix ix_seq sem_ix (pd_name (pv 0)) (pd_name (pv 2)) (fun _ _ => rfl))) (ph_cons (toD (pn_ix ix_seq sem_ix (pd_name (pv 1)) (pd_name (pv 2)) (fun _ _ => rfl))) ph_nil (by rfl)) (by rfl)) (by rfl) (by decide) (by rfl) (by rfl))) (fun _ => rfl))) (ss_one (s_ret (toN' pd_bl))) ss_nil)) (fun _ => rfl))
    (ss_one (s_ret (toN' pd_bl)))))) ss_nil)
    (ss_cons (s_if (pt_cmpD (op_neD hr.units) sem_ne (toD (pn_isi call_isi (sem_isa isa_bool) rfl T.z_isinstance (by rfl) (pd_name (pv 0)) (pe_bltn rfl T.z_bool (by rfl) rfl) (by decide) (by decide) (by rfl) (by rfl) (by rfl))) (toD (pn_isi call_isi (sem_isa isa_bool) rfl T.z_isinstance (by rfl) (pd_name (pv 1)) (pe_bltn rfl T.z_bool (by rfl) rfl) (by decide) (by decide) (by rfl) (by rfl) (by rfl))) (by rfl)) (ss_one (s_ret (toN' pd_bl))) ss_nil)
    (ss_one (s_ret (pn_cmp (op_eqD hr.units) sem_eq (pd_name (pv 0)) (pd_name (pv 1)) (by rfl))))))
theorem ok_l_plain_same (T : Tx Pr K mg) : FnOk Pr w K mg base (L2.CX Pr w) 9 T.a_l_plain_same T.d_l_plain_same ["one", "other"] (spF K (["one", "other"] : List Str).length F_l_plain_same) := okr_l_plain_same 8 T
theorem sc_l_plain_copy : FnScope ["thing", "part"] ["thing"] (defScope s_l_plain_copy) := ⟨rfl, rfl, rfl, by decide +kernel, rfl, by decide +kernel, by decide +kernel⟩
theorem okr_l_plain_copy : ∀ (k : Nat) (T : Tx Pr K mg), FnOk Pr w K mg base (L2.CX Pr w) (k + 1) T.a_l_plain_copy T.d_l_plain_copy ["thing"] (spF K (["thing"] : List Str).length (R_l_plain_copy k))
  | 0, T => fn_none (by rfl)
  | k + 1, T => fn_ok (k := k + 1) T.p_l_plain_copy.F sc_l_plain_copy fun cdv A outer s H E n0 hr => by
    have S := sc_l_plain_copy
    have ih := okr_l_plain_copy k
    exact (ss_cons (s_if (pt_truthD (toD (pn_isi call_isi (sem_isa isa_tuple) rfl T.z_isinstance (by rfl) (pd_name (pv 0)) (pe_bltn rfl T.z_tuple (by rfl) rfl) (by decide) (by decide) (by rfl) (by rfl) (by rfl))) (fun _ => rfl)) (ss_one (s_ret (pn_t1 call_tuple_of sem_tuple rfl T.z_tuple (by rfl) (toD (pn_lc (own := [("part", 1)]) (t := (tgName 1)) (c := bYes) rfl S.nd (pw_any (pd_name (pv 0))) (blkOk_by (N := ["thing", "part"]) (sc := defScope s_l_plain_copy) (by decide +kernel)) (fun _ _ _ _ _ => (pg_name (i := 1) S.nd rfl (by first | exact Or.inl rfl | exact Or.inr rfl))) (fun _ _ _ _ _ => pts_yes) (fun _ _ _ _ _ => (toD (pn_call0 (ih T) (hr.mono (by omega)) rfl T.p_l_plain_copy.g T.p_l_plain_copy.F.kp T.p_l_plain_copy.b (ph_cons (pd_name (pv 1)) ph_nil (by rfl)) (by rfl) (by decide) (by rfl) (by rfl)))) tgok_name (tgin_name (by decide)) (fun _ => rfl))) (by decide) (by decide) (by rfl) (by rfl)))) ss_nil)
    (ss_cons (s_if (pt_truthD (toD (pn_isi call_isi (sem_isa isa_list) rfl T.z_isinstance (by rfl) (pd_name (pv 0)) (pe_bltn rfl T.z_list (by rfl) rfl) (by decide) (by decide) (by rfl) (by rfl) (by rfl))) (fun _ => rfl)) (ss_one (s_ret (pn_lc (own := [("part", 1)]) (t := (tgName 1)) (c := bYes) rfl S.nd (pw_any (pd_name (pv 0))) (blkOk_by (N := ["thing", "part"]) (sc := defScope s_l_plain_copy) (by decide +kernel)) (fun _ _ _ _ _ => (pg_name (i := 1) S.nd rfl (by first | exact Or.inl rfl | exact Or.inr rfl))) (fun _ _ _ _ _ => pts_yes) (fun _ _ _ _ _ => (toD (pn_call0 (ih T) (hr.mono (by omega)) rfl T.p_l_plain_copy.g T.p_l_plain_copy.F.kp T.p_l_plain_copy.b (ph_cons (pd_name (pv 1)) ph_nil (by rfl)) (by rfl) (by decide) (by rfl) (by rfl)))) tgok_name (tgin_name (by decide)) (fun _ => rfl)))) ss_nil)
    (ss_one (s_ret (toN' (pd_name (pv 0)))))))
theorem ok_l_plain_copy (T : Tx Pr K mg) : FnOk Pr w K mg base (L2.CX Pr w) 9 T.a_l_plain_copy T.d_l_plain_copy ["thing"] (spF K (["thing"] : List Str).length F_l_plain_copy) := okr_l_plain_copy 8 T
theorem sc_l_bent_ones : FnScope ["jar", "setting", "machine", "many", "way", "at", "bent", "before", "late", "two"] ["jar", "setting", "machine"] (defScope s_l_bent_ones) := ⟨rfl, rfl, rfl, by decide +kernel, rfl, by decide +kernel, by decide +kernel⟩
theorem ok_l_bent_ones (T : Tx Pr K mg) : FnOk Pr w K mg base (L2.CX Pr w) 10 T.a_l_bent_ones T.d_l_bent_ones ["jar", "setting", "machine"] (spF K (["jar", "setting", "machine"] : List Str).length F_l_bent_ones) :=
  fn_ok (k := 9) T.p_l_bent_ones.F sc_l_bent_ones fun cdv A outer s H E n0 hr => by
    have S := sc_l_bent_ones
    exact (ss_cons (s_set (i := 3) S.nd rfl (by first | exact Or.inl rfl | exact Or.inr rfl) (toD (pn_b1 call_lenAny sem_len rfl T.z_len (by rfl) (pd_name (pv 2)) (by decide) (by decide) (by rfl) (by rfl))) (by rfl) (by first | exact Or.inl rfl | exact Or.inr rfl))
    (ss_cons (s_for (passes_of rfl) rfl (pw_range1 rfl T.z_range pd_int (by rfl) (by rfl)) (pg_name (i := 4) S.nd rfl (by first | exact Or.inl rfl | exact Or.inr rfl)) tgok_name (ss_cons (s_set (i := 5) S.nd rfl (by first | exact Or.inl rfl | exact Or.inr rfl) (toD (pn_call (ok_l_draw T) (takes_of rfl rfl rfl rfl) (hr.mono (by decide)) rfl T.p_l_draw.g T.p_l_draw.F.kp T.p_l_draw.b (ph_cons (pd_name (pv 0)) (ph_cons (pd_name (pv 3)) ph_nil (by rfl)) (by rfl)) (by rfl) (by decide) (by rfl) (by rfl))) (by rfl) (by first | exact Or.inl rfl | exact Or.inr rfl))
    (ss_cons (s_set (i := 6) S.nd rfl (by first | exact Or.inl rfl | exact Or.inr rfl) (toD (pn_bin op_addAny sem_add (toD (pn_bin op_addAny sem_add (toD (pn_slice (pd_name (pv 2)) po_noneD (po_someD (pd_name (pv 5))))) (toD (pn_tup (pi_consD (toD (pn_call (ok_l_bent_state T) (takes_of rfl rfl rfl rfl) (hr.mono (by decide)) rfl T.p_l_bent_state.g T.p_l_bent_state.F.kp T.p_l_bent_state.b (ph_cons (pd_name (pv 0)) (ph_cons (toD (pn_ix ix_seq sem_ix (pd_name (pv 2)) (pd_name (pv 5)) (fun _ _ => rfl))) (ph_cons (pd_name (pv 3)) (ph_cons (pd_name (pv 4)) ph_nil (by rfl)) (by rfl)) (by rfl)) (by rfl)) (by rfl) (by decide) (by rfl) (by rfl))) pi_nilD (by rfl)))))) (toD (pn_slice (pd_name (pv 2)) (po_someD (toD (pn_bin op_addAny sem_add (pd_name (pv 5)) pd_int))) po_noneD)))) (by rfl) (by first | exact Or.inl rfl | exact Or.inr rfl))
    (ss_cons (s_set (i := 7) S.nd rfl (by first | exact Or.inl rfl | exact Or.inr rfl) (toD (pn_call (ok_l_plain_copy T) (takes_of rfl rfl rfl rfl) (hr.mono (by decide)) rfl T.p_l_plain_copy.g T.p_l_plain_copy.F.kp T.p_l_plain_copy.b (ph_cons (pd_name (pv 6)) ph_nil (by rfl)) (by rfl) (by decide) (by rfl) (by rfl))) (by rfl) (by first | exact Or.inl rfl | exact Or.inr rfl))
    (ss_cons (s_if (pt_notD (pt_truthD (toD (pn_call (ok_l_holds T) (takes_of rfl rfl rfl rfl) (hr.mono (by decide)) rfl T.p_l_holds.g T.p_l_holds.F.kp T.p_l_holds.b (ph_cons (pd_name (pv 1)) (ph_cons (pd_name (pv 6)) (ph_cons (toD (pn_cmp (op_eqD hr.units) sem_eq (pd_name (pv 4)) pd_int (by rfl))) ph_nil (by rfl)) (by rfl)) (by rfl)) (by rfl) (by decide) (by rfl) (by rfl))) (fun _ => rfl))) (ss_one (s_ret (toN' pd_bl))) ss_nil)
    (ss_cons (s_if (pt_notD (pt_truthD (toD (pn_call (ok_l_plain_same T) (takes_of rfl rfl rfl rfl) (hr.mono (by decide)) rfl T.p_l_plain_same.g T.p_l_plain_same.F.kp T.p_l_plain_same.b (ph_cons (pd_name (pv 7)) (ph_cons (pd_name (pv 6)) ph_nil (by rfl)) (by rfl)) (by rfl) (by decide) (by rfl) (by rfl))) (fun _ => rfl))) (ss_one (s_ret (toN' pd_bl))) ss_nil)
    (ss_one (s_if (PW.pt (pw_andD (pt_cmpD op_gt sem_gt (pd_name (pv 3)) pd_int (by rfl)) (pw_and1 (pt_cmpD op_gt sem_gt (pd_name (pv 4)) pd_int (by rfl))))) (ss_cons (s_set (i := 8) S.nd rfl (by first | exact Or.inl rfl | exact Or.inr rfl) (toD (pn_call (ok_l_draw T) (takes_of rfl rfl rfl rfl) (hr.mono (by decide)) rfl T.p_l_draw.g T.p_l_draw.F.kp T.p_l_draw.b (ph_cons (pd_name (pv 0)) (ph_cons (pd_name (pv 3)) ph_nil (by rfl)) (by rfl)) (by rfl) (by decide) (by rfl) (by rfl))) (by rfl) (by first | exact Or.inl rfl | exact Or.inr rfl))
    (ss_cons (s_set (i := 9) S.nd rfl (by first | exact Or.inl rfl | exact Or.inr rfl) (toD (pn_bin op_addAny sem_add (toD (pn_bin op_addAny sem_add (toD (pn_slice (pd_name (pv 6)) po_noneD (po_someD (pd_name (pv 8))))) (toD (pn_tup (pi_consD (toD (pn_call (ok_l_bent_state T) (takes_of rfl rfl rfl rfl) (hr.mono (by decide)) rfl T.p_l_bent_state.g T.p_l_bent_state.F.kp T.p_l_bent_state.b (ph_cons (pd_name (pv 0)) (ph_cons (toD (pn_ix ix_seq sem_ix (pd_name (pv 2)) (pd_name (pv 8)) (fun _ _ => rfl))) (ph_cons (pd_name (pv 3)) (ph_cons (toD (pn_bin op_sub sem_sub (pd_name (pv 4)) pd_int)) ph_nil (by rfl)) (by rfl)) (by rfl)) (by rfl)) (by rfl) (by decide) (by rfl) (by rfl))) pi_nilD (by rfl)))))) (toD (pn_slice (pd_name (pv 6)) (po_someD (toD (pn_bin op_addAny sem_add (pd_name (pv 8)) pd_int))) po_noneD)))) (by rfl) (by first | exact Or.inl rfl | exact Or.inr rfl))
    (ss_one (s_if (pt_notD (pt_truthD (toD (pn_call (ok_l_holds T) (takes_of rfl rfl rfl rfl) (hr.mono (by decide)) rfl T.p_l_holds.g T.p_l_holds.F.kp T.p_l_holds.b (ph_cons (pd_name (pv 1)) (ph_cons (pd_name (pv 9)) (ph_cons pd_bl ph_nil (by rfl)) (by rfl)) (by rfl)) (by rfl) (by decide) (by rfl) (by rfl))) (fun _ => rfl))) (ss_one (s_ret (toN' pd_bl))) ss_nil)))) ss_nil))))))) (fun _ => rfl))
    (ss_one (s_ret (toN' pd_bl)))))
theorem sc_l_other_things : FnScope ["jar", "setting", "machine", "things", "bent", "thing", "before"] ["jar", "setting", "machine"] (defScope s_l_other_things) := ⟨rfl, rfl, rfl, by decide +kernel, rfl, by decide +kernel, by decide +kernel⟩
theorem ok_l_other_things (T : Tx Pr K mg) : FnOk Pr w K mg base (L2.CX Pr w) 10 T.a_l_other_things T.d_l_other_things ["jar", "setting", "machine"] (spF K (["jar", "setting", "machine"] : List Str).length F_l_other_things) :=
  fn_ok (k := 9) T.p_l_other_things.F sc_l_other_things fun cdv A outer s H E n0 hr => by
    have S := sc_l_other_things
    exact (ss_cons (s_set (i := 3) S.nd rfl (by first | exact Or.inl rfl | exact Or.inr rfl) (toD (pn_lst (pi_consD (toD (pn_t1 call_list_of sem_list rfl T.z_list (by rfl) (pd_name (pv 2)) (by decide) (by decide) (by rfl) (by rfl))) (pi_consD pd_non (pi_consD pd_bl (pi_consD pd_bl (pi_consD pd_int (pi_consD pd_int (pi_consD pd_str (pi_consD pd_str (pi_consD (toD (pn_ix ix_seq sem_ix (toD (pn_ix ix_seq sem_ix (pd_name (pv 2)) pd_int (fun _ _ => rfl))) pd_int (fun _ _ => rfl))) (pi_consD (toD (pn_un un_neg sem_neg pd_int)) (pi_consD (toD (pn_bin op_mulW sem_mul (toD (pn_bin op_pow sem_pow pd_int pd_int)) (toD (pn_bin op_pow sem_pow pd_int pd_int)))) (pi_consD (toD (pn_lst pi_nilD)) (pi_consD (toD (pn_tup pi_nilD)) (pi_consD (toD (pn_tup (pi_consD (toD (pn_tup pi_nilD)) pi_nilD (by rfl)))) (pi_consD (toD (pn_tup (pi_consD (toD (pn_lst pi_nilD)) pi_nilD (by rfl)))) pi_nilD (by rfl)) (by rfl)) (by rfl)) (by rfl)) (by rfl)) (by rfl)) (by rfl)) (by rfl)) (by rfl)) (by rfl)) (by rfl)) (by rfl)) (by rfl)) (by rfl)) (by rfl)))) (by rfl) (by first | exact Or.inl rfl | exact Or.inr rfl))
    (ss_cons (s_set (i := 3) S.nd rfl (by first | exact Or.inl rfl | exact Or.inr rfl) (toD (pn_bin op_addAny sem_add (pd_name (pv 3)) (toD (pn_lst (pi_consD (toD (pn_tup (pi_consD pd_non pi_nilD (by rfl)))) (pi_consD (toD (pn_tup (pi_consD pd_str pi_nilD (by rfl)))) (pi_consD (toD (pn_ix ix_seq sem_ix (pd_name (pv 2)) pd_int (fun _ _ => rfl))) (pi_consD (toD (pn_tup (pi_consD (pd_name (pv 2)) pi_nilD (by rfl)))) (pi_consD (toD (pn_lst (pi_consD (pd_name (pv 2)) pi_nilD (by rfl)))) (pi_consD (toD (pn_tup (pi_consD (toD (pn_ix ix_seq sem_ix (toD (pn_ix ix_seq sem_ix (pd_name (pv 2)) pd_int (fun _ _ => rfl))) pd_int (fun _ _ => rfl))) pi_nilD (by rfl)))) (pi_consD (toD (pn_tup (pi_consD pd_int (pi_consD pd_int pi_nilD (by rfl)) (by rfl)))) (pi_consD (toD (pn_tup (pi_consD (toD (pn_tup (pi_consD pd_int (pi_consD pd_int pi_nilD (by rfl)) (by rfl)))) pi_nilD (by rfl)))) pi_nilD (by rfl)) (by rfl)) (by rfl)) (by rfl)) (by rfl)) (by rfl)) (by rfl)) (by rfl)))))) (by rfl) (by first | exact Or.inl rfl | exact Or.inr rfl))
    (ss_cons (s_set (i := 4) S.nd rfl (by first | exact Or.inl rfl | exact Or.inr rfl) (toD (pn_call (ok_l_bent_state T) (takes_of rfl rfl rfl rfl) (hr.mono (by decide)) rfl T.p_l_bent_state.g T.p_l_bent_state.F.kp T.p_l_bent_state.b (ph_cons (pd_name (pv 0)) (ph_cons (toD (pn_ix ix_seq sem_ix (pd_name (pv 2)) pd_int (fun _ _ => rfl))) (ph_cons (toD (pn_b1 call_lenAny sem_len rfl T.z_len (by rfl) (pd_name (pv 2)) (by decide) (by decide) (by rfl) (by rfl))) (ph_cons (toD (pn_call (ok_l_draw T) (takes_of rfl rfl rfl rfl) (hr.mono (by decide)) rfl T.p_l_draw.g T.p_l_draw.F.kp T.p_l_draw.b (ph_cons (pd_name (pv 0)) (ph_cons pd_int ph_nil (by rfl)) (by rfl)) (by rfl) (by decide) (by rfl) (by rfl))) ph_nil (by rfl)) (by rfl)) (by rfl)) (by rfl)) (by rfl) (by decide) (by rfl) (by rfl))) (by rfl) (by first | exact Or.inl rfl | exact Or.inr rfl))
    (ss_cons (s_set (i := 3) S.nd rfl (by first | exact Or.inl rfl | exact Or.inr rfl) (toD (pn_bin op_addAny sem_add (pd_name (pv 3)) (toD (pn_lst (pi_consD (toD (pn_lst (pi_consD (pd_name (pv 4)) pi_nilD (by rfl)))) (pi_consD (toD (pn_bin op_addAny sem_add (toD (pn_lst (pi_consD (pd_name (pv 4)) pi_nilD (by rfl)))) (toD (pn_t1 call_list_of sem_list rfl T.z_list (by rfl) (toD (pn_slice (pd_name (pv 2)) (po_someD pd_int) po_noneD)) (by decide) (by decide) (by rfl) (by rfl))))) pi_nilD (by rfl)) (by rfl)))))) (by rfl) (by first | exact Or.inl rfl | exact Or.inr rfl))
    (ss_cons (s_for (passes_of rfl) rfl (pw_any (pd_name (pv 3))) (pg_name (i := 5) S.nd rfl (by first | exact Or.inl rfl | exact Or.inr rfl)) tgok_name (ss_cons (s_set (i := 6) S.nd rfl (by first | exact Or.inl rfl | exact Or.inr rfl) (toD (pn_call (ok_l_plain_copy T) (takes_of rfl rfl rfl rfl) (hr.mono (by decide)) rfl T.p_l_plain_copy.g T.p_l_plain_copy.F.kp T.p_l_plain_copy.b (ph_cons (pd_name (pv 5)) ph_nil (by rfl)) (by rfl) (by decide) (by rfl) (by rfl))) (by rfl) (by first | exact Or.inl rfl | exact Or.inr rfl))
    (ss_cons (s_if (pt_notD (pt_truthD (toD (pn_call (ok_l_holds T) (takes_of rfl rfl rfl rfl) (hr.mono (by decide)) rfl T.p_l_holds.g T.p_l_holds.F.kp T.p_l_holds.b (ph_cons (pd_name (pv 1)) (ph_cons (pd_name (pv 5)) (ph_cons pd_bl ph_nil (by rfl)) (by rfl)) (by rfl)) (by rfl) (by decide) (by rfl) (by rfl))) (fun _ => rfl))) (ss_one (s_ret (toN' pd_bl))) ss_nil)
    (ss_one (s_if (pt_notD (pt_truthD (toD (pn_call (ok_l_plain_same T) (takes_of rfl rfl rfl rfl) (hr.mono (by decide)) rfl T.p_l_plain_same.g T.p_l_plain_same.F.kp T.p_l_plain_same.b (ph_cons (pd_name (pv 6)) (ph_cons (pd_name (pv 5)) ph_nil (by rfl)) (by rfl)) (by rfl) (by decide) (by rfl) (by rfl))) (fun _ => rfl))) (ss_one (s_ret (toN' pd_bl))) ss_nil)))) (fun _ => rfl))
    (ss_one (s_ret (toN' pd_bl))))))))
theorem sc_l_names : FnScope ["jar", "setting", "here", "words", "picked", "word", "name", "near", "turn"] ["jar", "setting"] (defScope s_l_names) := ⟨rfl, rfl, rfl, by decide +kernel, rfl, by decide +kernel, by decide +kernel⟩
theorem ok_l_names (T : Tx Pr K mg) : FnOk Pr w K mg base (L2.CX Pr w) 8 T.a_l_names T.d_l_names ["jar", "setting"] (spF K (["jar", "setting"] : List Str).length F_l_names) :=
  fn_ok (k := 7) T.p_l_names.F sc_l_names fun cdv A outer s H E n0 hr => by
    have S := sc_l_names
    exact (ss_cons (s_set (i := 2) S.nd rfl (by first | exact Or.inl rfl | exact Or.inr rfl) (toD (pn_bin op_repTW sem_repT (toD (pn_tup (pi_consD pd_int pi_nilD (by rfl)))) (toD (pn_b1 call_lenAny sem_len rfl T.z_len (by rfl) (toD (pn_ix ix_seq sem_ix (pd_name (pv 1)) pd_int (fun _ _ => rfl))) (by decide) (by decide) (by rfl) (by rfl))))) (by rfl) (by first | exact Or.inl rfl | exact Or.inr rfl))
    (ss_cons (s_set (i := 3) S.nd rfl (by first | exact Or.inl rfl | exact Or.inr rfl) (toD (pn_call00 (ok_l_reserved T) (takes_of rfl rfl rfl rfl) (hr.mono (by decide)) rfl T.p_l_reserved.g T.p_l_reserved.F.kp T.p_l_reserved.b (by decide) (by rfl))) (by rfl) (by first | exact Or.inl rfl | exact Or.inr rfl))
    (ss_cons (s_setLc (own := [("turn", 8)]) (t := (tgName 8)) (c := bYes) tgok_name (tgin_name (by decide)) (ps_setLc (i := 4) (own := [("turn", 8)]) rfl S.nd rfl rfl (sw_true rfl rfl rfl (by decide +kernel)) (pw_range1 rfl T.z_range pd_int (by rfl) (by rfl)) (blkOk_by (N := ["jar", "setting", "here", "words", "picked", "word", "name", "near", "turn"]) (sc := defScope s_l_names) (by decide +kernel)) (fun _ _ _ _ _ => (pg_name (i := 8) S.nd rfl (by first | exact Or.inl rfl | exact Or.inr rfl))) (fun _ _ _ _ _ => pts_yes) (fun _ _ _ _ _ => (toD (pn_ix ix_seq sem_ix (pd_name (pv 3)) (toD (pn_call0 (ok_l_draw T) (hr.mono (by decide)) rfl T.p_l_draw.g T.p_l_draw.F.kp T.p_l_draw.b (ph_cons (pd_name (pv 0)) (ph_cons (toD (pn_b1 call_lenAny sem_len rfl T.z_len (by rfl) (pd_name (pv 3)) (by decide) (by decide) (by rfl) (by rfl))) ph_nil (by rfl)) (by rfl)) (by rfl) (by decide) (by rfl) (by rfl))) (fun _ _ => rfl)))) (fun _ => rfl)))
    (ss_cons (s_for (passes_of rfl) rfl (pw_any (pd_name (pv 4))) (pg_name (i := 5) S.nd rfl (by first | exact Or.inl rfl | exact Or.inr rfl)) tgok_name (ss_cons (s_if (pt_notD (pt_truthD (toD (pn_call (ok_l_holds T) (takes_of rfl rfl rfl rfl) (hr.mono (by decide)) rfl T.p_l_holds.g T.p_l_holds.F.kp T.p_l_holds.b (ph_cons (pd_name (pv 1)) (ph_cons (toD (pn_tup (pi_consD (toD (pn_tup (pi_consD (pd_name (pv 5)) (pi_consD (pd_name (pv 2)) pi_nilD (by rfl)) (by rfl)))) pi_nilD (by rfl)))) (ph_cons pd_bl ph_nil (by rfl)) (by rfl)) (by rfl)) (by rfl) (by decide) (by rfl) (by rfl))) (fun _ => rfl))) (ss_one (s_ret (toN' pd_bl))) ss_nil)
    (ss_one (s_for (passes_of rfl) rfl (pw_any (toD (pn_tup (pi_consD (toD (pn_bin op_addAny sem_add (pd_name (pv 5)) pd_str)) (pi_consD (toD (pn_slice (pd_name (pv 5)) po_noneD (po_someD (toD (pn_bin op_sub sem_sub (toD (pn_b1 call_lenAny sem_len rfl T.z_len (by rfl) (pd_name (pv 5)) (by decide) (by decide) (by rfl) (by rfl))) pd_int))))) (pi_consD (toD (pn_bin op_addAny sem_add pd_str (pd_name (pv 5)))) (pi_consD (toD (pn_bin op_addAny sem_add (pd_name (pv 5)) pd_str)) (pi_consD (toD (pn_bin op_addAny sem_add pd_str (pd_name (pv 5)))) (pi_consD (toD (pn_upper (pd_name (pv 5)) (by rfl) (by rfl))) (pi_consD (toD (pn_bin op_addAny sem_add (pd_name (pv 5)) pd_str)) pi_nilD (by rfl)) (by rfl)) (by rfl)) (by rfl)) (by rfl)) (by rfl)) (by rfl))))) (pg_name (i := 7) S.nd rfl (by first | exact Or.inl rfl | exact Or.inr rfl)) tgok_name (ss_one (s_if (pt_notD (pt_truthD (toD (pn_call (ok_l_holds T) (takes_of rfl rfl rfl rfl) (hr.mono (by decide)) rfl T.p_l_holds.g T.p_l_holds.F.kp T.p_l_holds.b (ph_cons (pd_name (pv 1)) (ph_cons (toD (pn_tup (pi_consD (toD (pn_tup (pi_consD (pd_name (pv 7)) (pi_consD (pd_name (pv 2)) pi_nilD (by rfl)) (by rfl)))) pi_nilD (by rfl)))) (ph_cons pd_bl ph_nil (by rfl)) (by rfl)) (by rfl)) (by rfl) (by decide) (by rfl) (by rfl))) (fun _ => rfl))) (ss_one (s_ret (toN' pd_bl))) ss_nil)) (fun _ => rfl)))) (fun _ => rfl))
    (ss_cons (s_for (passes_of rfl) rfl (pw_any (toD (pn_tup (pi_consD pd_str (pi_consD pd_str (pi_consD pd_str (pi_consD pd_str (pi_consD pd_str (pi_consD pd_str (pi_consD pd_str (pi_consD pd_str (pi_consD pd_str (pi_consD pd_str (pi_consD pd_str (pi_consD pd_str (pi_consD pd_str (pi_consD pd_str pi_nilD (by rfl)) (by rfl)) (by rfl)) (by rfl)) (by rfl)) (by rfl)) (by rfl)) (by rfl)) (by rfl)) (by rfl)) (by rfl)) (by rfl)) (by rfl)) (by rfl))))) (pg_name (i := 5) S.nd rfl (by first | exact Or.inl rfl | exact Or.inr rfl)) tgok_name (ss_one (s_if (pt_notD (pt_truthD (toD (pn_call (ok_l_holds T) (takes_of rfl rfl rfl rfl) (hr.mono (by decide)) rfl T.p_l_holds.g T.p_l_holds.F.kp T.p_l_holds.b (ph_cons (pd_name (pv 1)) (ph_cons (toD (pn_tup (pi_consD (toD (pn_tup (pi_consD (pd_name (pv 5)) (pi_consD (pd_name (pv 2)) pi_nilD (by rfl)) (by rfl)))) pi_nilD (by rfl)))) (ph_cons pd_bl ph_nil (by rfl)) (by rfl)) (by rfl)) (by rfl) (by decide) (by rfl) (by rfl))) (fun _ => rfl))) (ss_one (s_ret (toN' pd_bl))) ss_nil)) (fun _ => rfl))
    (ss_cons (s_for (passes_of rfl) rfl (pw_any (toD (pn_ix ix_seq sem_ix (pd_name (pv 1)) pd_int (fun _ _ => rfl)))) (pg_name (i := 6) S.nd rfl (by first | exact Or.inl rfl | exact Or.inr rfl)) tgok_name (ss_one (s_if (pt_notD (pt_truthD (toD (pn_call (ok_l_whether T) (takes_of rfl rfl rfl rfl) (hr.mono (by decide)) rfl T.p_l_whether.g T.p_l_whether.F.kp T.p_l_whether.b (ph_cons (pd_name (pv 1)) (ph_cons (toD (pn_tup (pi_consD (toD (pn_tup (pi_consD (pd_name (pv 6)) (pi_consD (pd_name (pv 2)) pi_nilD (by rfl)) (by rfl)))) pi_nilD (by rfl)))) (ph_cons pd_bl (ph_cons pd_bl ph_nil (by rfl)) (by rfl)) (by rfl)) (by rfl)) (by rfl) (by decide) (by rfl) (by rfl))) (fun _ => rfl))) (ss_one (s_ret (toN' pd_bl))) ss_nil)) (fun _ => rfl))
    (ss_one (s_ret (toN' pd_bl)))))))))
theorem sc_l_flags : FnScope ["setting", "signs", "machine", "plain", "last", "true", "false", "thing", "state"] ["setting", "signs", "machine"] (defScope s_l_flags) := ⟨rfl, rfl, rfl, by decide +kernel, rfl, by decide +kernel, by decide +kernel⟩
theorem ok_l_flags (T : Tx Pr K mg) : FnOk Pr w K mg base (L2.CX Pr w) 8 T.a_l_flags T.d_l_flags ["setting", "signs", "machine"] (spF K (["setting", "signs", "machine"] : List Str).length F_l_flags) :=
  fn_ok (k := 7) T.p_l_flags.F sc_l_flags fun cdv A outer s H E n0 hr => by
    have S := sc_l_flags
    exact (ss_cons (s_set (i := 3) S.nd rfl (by first | exact Or.inl rfl | exact Or.inr rfl) (toD (pn_bin op_addAny sem_add (toD (pn_tup (pi_consD (toD (pn_tup (pi_consD pd_str (pi_consD (toD (pn_bin op_repTW sem_repT (toD (pn_tup (pi_consD pd_int pi_nilD (by rfl)))) (pd_name (pv 1)))) pi_nilD (by rfl)) (by rfl)))) (pi_consD (toD (pn_tup (pi_consD pd_str (pi_consD (toD (pn_bin op_repTW sem_repT (toD (pn_tup (pi_consD pd_int pi_nilD (by rfl)))) (pd_name (pv 1)))) pi_nilD (by rfl)) (by rfl)))) pi_nilD (by rfl)) (by rfl)))) (toD (pn_t1 call_tuple_of sem_tuple rfl T.z_tuple (by rfl) (toD (pn_lc (own := [("state", 8)]) (t := (tgName 8)) (c := bYes) rfl S.nd (pw_any (toD (pn_slice (pd_name (pv 2)) (po_someD pd_int) po_noneD))) (blkOk_by (N := ["setting", "signs", "machine", "plain", "last", "true", "false", "thing", "state"]) (sc := defScope s_l_flags) (by decide +kernel)) (fun _ _ _ _ _ => (pg_name (i := 8) S.nd rfl (by first | exact Or.inl rfl | exact Or.inr rfl))) (fun _ _ _ _ _ => pts_yes) (fun _ _ _ _ _ => (toD (pn_tup (pi_consD pd_str (pi_consD (toD (pn_ix ix_seq sem_ix (pd_name (pv 8)) pd_int (fun _ _ => rfl))) pi_nilD (by rfl)) (by rfl))))) tgok_name (tgin_name (by decide)) (fun _ => rfl))) (by decide) (by decide) (by rfl) (by rfl))))) (by rfl) (by first | exact Or.inl rfl | exact Or.inr rfl))
    (ss_cons (s_if (pt_cmpD op_ge sem_ge (toD (pn_call (ok_l_first_bad T) (takes_of rfl rfl rfl rfl) (hr.mono (by decide)) rfl T.p_l_first_bad.g T.p_l_first_bad.F.kp T.p_l_first_bad.b (ph_cons (pd_name (pv 1)) (ph_cons (pd_name (pv 3)) ph_nil (by rfl)) (by rfl)) (by rfl) (by decide) (by rfl) (by rfl))) pd_int (by rfl)) (ss_one (s_set (i := 3) S.nd rfl (by first | exact Or.inl rfl | exact Or.inr rfl) (toD (pn_slice (pd_name (pv 3)) po_noneD (po_someD pd_int))) (by rfl) (by first | exact Or.inl rfl | exact Or.inr rfl))) ss_nil)
    (ss_cons (s_set (i := 4) S.nd rfl (by first | exact Or.inl rfl | exact Or.inr rfl) (toD (pn_bin op_repTW sem_repT (toD (pn_tup (pi_consD pd_int pi_nilD (by rfl)))) (toD (pn_bin op_sub sem_sub (pd_name (pv 1)) pd_int)))) (by rfl) (by first | exact Or.inl rfl | exact Or.inr rfl))
    (ss_cons (s_set (i := 5) S.nd rfl (by first | exact Or.inl rfl | exact Or.inr rfl) (toD (pn_bin op_addAny sem_add (toD (pn_tup (pi_consD (toD (pn_tup (pi_consD pd_str (pi_consD (toD (pn_bin op_addAny sem_add (pd_name (pv 4)) (toD (pn_tup (pi_consD pd_bl pi_nilD (by rfl)))))) pi_nilD (by rfl)) (by rfl)))) pi_nilD (by rfl)))) (toD (pn_slice (pd_name (pv 3)) (po_someD pd_int) po_noneD)))) (by rfl) (by first | exact Or.inl rfl | exact Or.inr rfl))
    (ss_cons (s_set (i := 6) S.nd rfl (by first | exact Or.inl rfl | exact Or.inr rfl) (toD (pn_bin op_addAny sem_add (toD (pn_bin op_addAny sem_add (toD (pn_slice (pd_name (pv 3)) po_noneD (po_someD pd_int))) (toD (pn_tup (pi_consD (toD (pn_tup (pi_consD pd_str (pi_consD (toD (pn_bin op_addAny sem_add (toD (pn_bin op_repTW sem_repT (toD (pn_tup (pi_consD pd_int pi_nilD (by rfl)))) (toD (pn_bin op_sub sem_sub (pd_name (pv 1)) pd_int)))) (toD (pn_tup (pi_consD pd_bl pi_nilD (by rfl)))))) pi_nilD (by rfl)) (by rfl)))) pi_nilD (by rfl)))))) (toD (pn_slice (pd_name (pv 3)) (po_someD pd_int) po_noneD)))) (by rfl) (by first | exact Or.inl rfl | exact Or.inr rfl))
    (ss_cons (s_for (passes_of rfl) rfl (pw_any (toD (pn_tup (pi_consD (pd_name (pv 3)) (pi_consD (pd_name (pv 5)) (pi_consD (pd_name (pv 3)) (pi_consD (pd_name (pv 6)) (pi_consD (pd_name (pv 5)) (pi_consD (pd_name (pv 3)) pi_nilD (by rfl)) (by rfl)) (by rfl)) (by rfl)) (by rfl)) (by rfl))))) (pg_name (i := 7) S.nd rfl (by first | exact Or.inl rfl | exact Or.inr rfl)) tgok_name (ss_one (s_if (pt_notD (pt_truthD (toD (pn_call (ok_l_holds T) (takes_of rfl rfl rfl rfl) (hr.mono (by decide)) rfl T.p_l_holds.g T.p_l_holds.F.kp T.p_l_holds.b (ph_cons (pd_name (pv 0)) (ph_cons (pd_name (pv 7)) (ph_cons pd_bl ph_nil (by rfl)) (by rfl)) (by rfl)) (by rfl) (by decide) (by rfl) (by rfl))) (fun _ => rfl))) (ss_one (s_ret (toN' pd_bl))) ss_nil)) (fun _ => rfl))
    (ss_one (s_ret (pn_and (pn_call (ok_l_whether T) (takes_of rfl rfl rfl rfl) (hr.mono (by decide)) rfl T.p_l_whether.g T.p_l_whether.F.kp T.p_l_whether.b (ph_cons (pd_name (pv 0)) (ph_cons (pd_name (pv 3)) (ph_cons pd_bl (ph_cons pd_bl ph_nil (by rfl)) (by rfl)) (by rfl)) (by rfl)) (by rfl) (by decide) (by rfl) (by rfl)) (pn_one (pn_call (ok_l_whether T) (takes_of rfl rfl rfl rfl) (hr.mono (by decide)) rfl T.p_l_whether.g T.p_l_whether.F.kp T.p_l_whether.b (ph_cons (pd_name (pv 0)) (ph_cons (pd_name (pv 5)) (ph_cons pd_bl (ph_cons pd_bl ph_nil (by rfl)) (by rfl)) (by rfl)) (by rfl)) (by rfl) (by decide) (by rfl) (by rfl))))))))))))
theorem sc_l_other_signs : FnScope ["jar", "signs", "machine", "many", "setting", "yes", "told"] ["jar", "signs", "machine"] (defScope s_l_other_signs) := ⟨rfl, rfl, rfl, by decide +kernel, rfl, by decide +kernel, by decide +kernel⟩
theorem ok_l_other_signs (T : Tx Pr K mg) : FnOk Pr w K mg base (L2.CX Pr w) 7 T.a_l_other_signs T.d_l_other_signs ["jar", "signs", "machine"] (spF K (["jar", "signs", "machine"] : List Str).length F_l_other_signs) :=
  fn_ok (k := 6) T.p_l_other_signs.F sc_l_other_signs fun cdv A outer s H E n0 hr => by
    have S := sc_l_other_signs
    exact (ss_cons (s_for (passes_of rfl) rfl (pw_range2 rfl T.z_range pd_int pd_int (by rfl) (by rfl) (by rfl) (by rfl)) (pg_name (i := 3) S.nd rfl (by first | exact Or.inl rfl | exact Or.inr rfl)) tgok_name (ss_cons (s_set (i := 4) S.nd rfl (by first | exact Or.inl rfl | exact Or.inr rfl) (toD (pn_call (ok_l_setting T) (takes_of rfl rfl rfl rfl) (hr.mono (by decide)) rfl T.p_l_setting.g T.p_l_setting.F.kp T.p_l_setting.b (ph_cons (pd_name (pv 0)) (ph_cons (pd_name (pv 3)) ph_nil (by rfl)) (by rfl)) (by rfl) (by decide) (by rfl) (by rfl))) (by rfl) (by first | exact Or.inl rfl | exact Or.inr rfl))
    (ss_cons (s_set (i := 5) S.nd rfl (by first | exact Or.inl rfl | exact Or.inr rfl) (toD (pn_cmp (op_eqD hr.units) sem_eq (pd_name (pv 3)) (pd_name (pv 1)) (by rfl))) (by rfl) (by first | exact Or.inl rfl | exact Or.inr rfl))
    (ss_cons (s_if (pt_notD (pt_truthD (toD (pn_call (ok_l_whether T) (takes_of rfl rfl rfl rfl) (hr.mono (by decide)) rfl T.p_l_whether.g T.p_l_whether.F.kp T.p_l_whether.b (ph_cons (pd_name (pv 4)) (ph_cons (pd_name (pv 2)) (ph_cons (pd_name (pv 5)) (ph_cons pd_bl ph_nil (by rfl)) (by rfl)) (by rfl)) (by rfl)) (by rfl) (by decide) (by rfl) (by rfl))) (fun _ => rfl))) (ss_one (s_ret (toN' pd_bl))) ss_nil)
    (ss_cons (s_set (i := 6) S.nd rfl (by first | exact Or.inl rfl | exact Or.inr rfl) (toD (pn_call (ok_l_ask T) (takes_of rfl rfl rfl rfl) (hr.mono (by decide)) rfl T.p_l_ask.g T.p_l_ask.F.kp T.p_l_ask.b (ph_cons (pd_name (pv 4)) (ph_cons (pd_name (pv 2)) (ph_cons pd_bl ph_nil (by rfl)) (by rfl)) (by rfl)) (by rfl) (by decide) (by rfl) (by rfl))) (by rfl) (by first | exact Or.inl rfl | exact Or.inr rfl))
    (ss_cons (s_if (PW.pt (pw_andD (pt_truthD (pd_name (pv 5)) (fun _ => rfl)) (pw_and1 (pt_notD (pt_truthD (toD (pn_call (ok_l_fits T) (takes_of rfl rfl rfl rfl) (hr.mono (by decide)) rfl T.p_l_fits.g T.p_l_fits.F.kp T.p_l_fits.b (ph_cons (pd_name (pv 6)) (ph_cons (toD (pn_lst (pi_consD pd_str (pi_consD (toD (pn_b1 call_lenAny sem_len rfl T.z_len (by rfl) (pd_name (pv 2)) (by decide) (by decide) (by rfl) (by rfl))) (pi_consD pd_str pi_nilD (by rfl)) (by rfl)) (by rfl)))) ph_nil (by rfl)) (by rfl)) (by rfl) (by decide) (by rfl) (by rfl))) (fun _ => rfl)))))) (ss_one (s_ret (toN' pd_bl))) ss_nil)
    (ss_one (s_if (PW.pt (pw_andD (pt_notD (pt_truthD (pd_name (pv 5)) (fun _ => rfl))) (pw_and1 (pt_notD (pt_truthD (toD (pn_call (ok_l_fits T) (takes_of rfl rfl rfl rfl) (hr.mono (by decide)) rfl T.p_l_fits.g T.p_l_fits.F.kp T.p_l_fits.b (ph_cons (pd_name (pv 6)) (ph_cons (toD (pn_lst (pi_consD pd_str (pi_consD pd_int (pi_consD pd_str pi_nilD (by rfl)) (by rfl)) (by rfl)))) ph_nil (by rfl)) (by rfl)) (by rfl) (by decide) (by rfl) (by rfl))) (fun _ => rfl)))))) (ss_one (s_ret (toN' pd_bl))) ss_nil))))))) (fun _ => rfl))
    (ss_one (s_ret (toN' pd_bl))))
theorem sc_l_long : FnScope ["jar", "signs", "many", "base", "step", "states", "at", "nexts", "sign"] ["jar", "signs", "many"] (defScope s_l_long) := ⟨rfl, rfl, rfl, by decide +kernel, rfl, by decide +kernel, by decide +kernel⟩
theorem ok_l_long (T : Tx Pr K mg) : FnOk Pr w K mg base (L2.CX Pr w) 2 T.a_l_long T.d_l_long ["jar", "signs", "many"] (spF K (["jar", "signs", "many"] : List Str).length F_l_long) :=
  fn_ok (k := 1) T.p_l_long.F sc_l_long fun cdv A outer s H E n0 hr => by
    have S := sc_l_long
    exact (ss_cons (s_set (i := 3) S.nd rfl (by first | exact Or.inl rfl | exact Or.inr rfl) (toD (pn_call (ok_l_draw T) (takes_of rfl rfl rfl rfl) (hr.mono (by decide)) rfl T.p_l_draw.g T.p_l_draw.F.kp T.p_l_draw.b (ph_cons (pd_name (pv 0)) (ph_cons (pd_name (pv 2)) ph_nil (by rfl)) (by rfl)) (by rfl) (by decide) (by rfl) (by rfl))) (by rfl) (by first | exact Or.inl rfl | exact Or.inr rfl))
    (ss_cons (s_set (i := 4) S.nd rfl (by first | exact Or.inl rfl | exact Or.inr rfl) (toD (pn_bin op_addAny sem_add pd_int (toD (pn_call (ok_l_draw T) (takes_of rfl rfl rfl rfl) (hr.mono (by decide)) rfl T.p_l_draw.g T.p_l_draw.F.kp T.p_l_draw.b (ph_cons (pd_name (pv 0)) (ph_cons pd_int ph_nil (by rfl)) (by rfl)) (by rfl) (by decide) (by rfl) (by rfl))))) (by rfl) (by first | exact Or.inl rfl | exact Or.inr rfl))
    (ss_cons (s_new (i := 5) S.nd rfl (by first | exact Or.inl rfl | exact Or.inr rfl) (pn_lst pi_nilD) (by rfl) (by first | exact Or.inl rfl | exact Or.inr rfl))
    (ss_cons (s_for (passes_of rfl) rfl (pw_range1 rfl T.z_range (pd_name (pv 2)) (by rfl) (by rfl)) (pg_name (i := 6) S.nd rfl (by first | exact Or.inl rfl | exact Or.inr rfl)) tgok_name (ss_cons (s_setLc (own := [("sign", 8)]) (t := (tgName 8)) (c := bYes) tgok_name (tgin_name (by decide)) (ps_setLc (i := 7) (own := [("sign", 8)]) rfl S.nd rfl rfl (sw_true rfl rfl rfl (by decide +kernel)) (pw_range1 rfl T.z_range (pd_name (pv 1)) (by rfl) (by rfl)) (blkOk_by (N := ["jar", "signs", "many", "base", "step", "states", "at", "nexts", "sign"]) (sc := defScope s_l_long) (by decide +kernel)) (fun _ _ _ _ _ => (pg_name (i := 8) S.nd rfl (by first | exact Or.inl rfl | exact Or.inr rfl))) (fun _ _ _ _ _ => pts_yes) (fun _ _ _ _ _ => (toD (pn_bin op_mod sem_mod (toD (pn_bin op_addAny sem_add (toD (pn_bin op_addAny sem_add (pd_name (pv 3)) (toD (pn_bin op_mulW sem_mul (pd_name (pv 6)) (pd_name (pv 4)))))) (toD (pn_bin op_mulW sem_mul (pd_name (pv 8)) pd_int)))) (pd_name (pv 2))))) (fun _ => rfl)))
    (ss_one (s_app (ps_expr (pe_bm PySem.F.plainAttrs_list PySem.F.slot_list_append PySem.F.type_list_append mt_append (pv 5) (pa_cons (toD (pn_tup (pi_consD (toD (pn_bin op_addAny sem_add pd_str (toD (pn_t1 call_str_int sem_strI rfl T.z_str (by rfl) (toD (pn_bin op_mod sem_mod (pd_name (pv 6)) pd_int)) (by decide) (by decide) (by rfl) (by rfl))))) (pi_consD (toD (pn_t1 call_tuple_of sem_tuple rfl T.z_tuple (by rfl) (pd_name (pv 7)) (by decide) (by decide) (by rfl) (by rfl))) pi_nilD (by rfl)) (by rfl)))) pa_nil)))))) (fun _ => rfl))
    (ss_one (s_ret (pn_t1 call_tuple_of sem_tuple rfl T.z_tuple (by rfl) (pd_name (pv 5)) (by decide) (by decide) (by rfl) (by rfl))))))))
theorem sc_l_great : FnScope ["jar", "setting", "signs", "many", "long", "short", "at", "bent"] ["jar", "setting", "signs"] (defScope s_l_great) := ⟨rfl, rfl, rfl, by decide +kernel, rfl, by decide +kernel, by decide +kernel⟩
theorem ok_l_great (T : Tx Pr K mg) : FnOk Pr w K mg base (L2.CX Pr w) 8 T.a_l_great T.d_l_great ["jar", "setting", "signs"] (spF K (["jar", "setting", "signs"] : List Str).length F_l_great) :=
  fn_ok (k := 7) T.p_l_great.F sc_l_great fun cdv A outer s H E n0 hr => by
    have S := sc_l_great
    exact (ss_cons (s_for (passes_of rfl) rfl (pw_any (toD (pn_tup (pi_consD pd_int (pi_consD pd_int (pi_consD pd_int pi_nilD (by rfl)) (by rfl)) (by rfl))))) (pg_name (i := 3) S.nd rfl (by first | exact Or.inl rfl | exact Or.inr rfl)) tgok_name (ss_cons (s_set (i := 4) S.nd rfl (by first | exact Or.inl rfl | exact Or.inr rfl) (toD (pn_call (ok_l_long T) (takes_of rfl rfl rfl rfl) (hr.mono (by decide)) rfl T.p_l_long.g T.p_l_long.F.kp T.p_l_long.b (ph_cons (pd_name (pv 0)) (ph_cons (pd_name (pv 2)) (ph_cons (pd_name (pv 3)) ph_nil (by rfl)) (by rfl)) (by rfl)) (by rfl) (by decide) (by rfl) (by rfl))) (by rfl) (by first | exact Or.inl rfl | exact Or.inr rfl))
    (ss_cons (s_if (pt_notD (pt_truthD (toD (pn_call (ok_l_whether T) (takes_of rfl rfl rfl rfl) (hr.mono (by decide)) rfl T.p_l_whether.g T.p_l_whether.F.kp T.p_l_whether.b (ph_cons (pd_name (pv 1)) (ph_cons (pd_name (pv 4)) (ph_cons pd_bl (ph_cons pd_bl ph_nil (by rfl)) (by rfl)) (by rfl)) (by rfl)) (by rfl) (by decide) (by rfl) (by rfl))) (fun _ => rfl))) (ss_one (s_ret (toN' pd_bl))) ss_nil)
    (ss_cons (s_if (pt_notD (pt_truthD (toD (pn_call (ok_l_holds T) (takes_of rfl rfl rfl rfl) (hr.mono (by decide)) rfl T.p_l_holds.g T.p_l_holds.F.kp T.p_l_holds.b (ph_cons (pd_name (pv 1)) (ph_cons (pd_name (pv 4)) (ph_cons pd_bl ph_nil (by rfl)) (by rfl)) (by rfl)) (by rfl) (by decide) (by rfl) (by rfl))) (fun _ => rfl))) (ss_one (s_ret (toN' pd_bl))) ss_nil)
    (ss_cons (s_set (i := 6) S.nd rfl (by first | exact Or.inl rfl | exact Or.inr rfl) (toD (pn_bin op_sub sem_sub (toD (pn_bin op_sub sem_sub (pd_name (pv 3)) pd_int)) (toD (pn_bin op_mulW sem_mul (toD (pn_call (ok_l_draw T) (takes_of rfl rfl rfl rfl) (hr.mono (by decide)) rfl T.p_l_draw.g T.p_l_draw.F.kp T.p_l_draw.b (ph_cons (pd_name (pv 0)) (ph_cons pd_int ph_nil (by rfl)) (by rfl)) (by rfl) (by decide) (by rfl) (by rfl))) (toD (pn_call (ok_l_draw T) (takes_of rfl rfl rfl rfl) (hr.mono (by decide)) rfl T.p_l_draw.g T.p_l_draw.F.kp T.p_l_draw.b (ph_cons (pd_name (pv 0)) (ph_cons (pd_name (pv 3)) ph_nil (by rfl)) (by rfl)) (by rfl) (by decide) (by rfl) (by rfl))))))) (by rfl) (by first | exact Or.inl rfl | exact Or.inr rfl))
    (ss_cons (s_set (i := 7) S.nd rfl (by first | exact Or.inl rfl | exact Or.inr rfl) (toD (pn_bin op_addAny sem_add (toD (pn_bin op_addAny sem_add (toD (pn_slice (pd_name (pv 4)) po_noneD (po_someD (pd_name (pv 6))))) (toD (pn_tup (pi_consD (toD (pn_call (ok_l_bent_state T) (takes_of rfl rfl rfl rfl) (hr.mono (by decide)) rfl T.p_l_bent_state.g T.p_l_bent_state.F.kp T.p_l_bent_state.b (ph_cons (pd_name (pv 0)) (ph_cons (toD (pn_ix ix_seq sem_ix (pd_name (pv 4)) (pd_name (pv 6)) (fun _ _ => rfl))) (ph_cons (pd_name (pv 3)) (ph_cons (toD (pn_call (ok_l_draw T) (takes_of rfl rfl rfl rfl) (hr.mono (by decide)) rfl T.p_l_draw.g T.p_l_draw.F.kp T.p_l_draw.b (ph_cons (pd_name (pv 0)) (ph_cons pd_int ph_nil (by rfl)) (by rfl)) (by rfl) (by decide) (by rfl) (by rfl))) ph_nil (by rfl)) (by rfl)) (by rfl)) (by rfl)) (by rfl) (by decide) (by rfl) (by rfl))) pi_nilD (by rfl)))))) (toD (pn_slice (pd_name (pv 4)) (po_someD (toD (pn_bin op_addAny sem_add (pd_name (pv 6)) pd_int))) po_noneD)))) (by rfl) (by first | exact Or.inl rfl | exact Or.inr rfl))
    (ss_cons (s_if (pt_notD (pt_truthD (toD (pn_call (ok_l_holds T) (takes_of rfl rfl rfl rfl) (hr.mono (by decide)) rfl T.p_l_holds.g T.p_l_holds.F.kp T.p_l_holds.b (ph_cons (pd_name (pv 1)) (ph_cons (pd_name (pv 7)) (ph_cons pd_bl ph_nil (by rfl)) (by rfl)) (by rfl)) (by rfl) (by decide) (by rfl) (by rfl))) (fun _ => rfl))) (ss_one (s_ret (toN' pd_bl))) ss_nil)
    (ss_one (s_if (pt_notD (pt_truthD (toD (pn_call (ok_l_holds T) (takes_of rfl rfl rfl rfl) (hr.mono (by decide)) rfl T.p_l_holds.g T.p_l_holds.F.kp T.p_l_holds.b (ph_cons (pd_name (pv 1)) (ph_cons (toD (pn_t1 call_list_of sem_list rfl T.z_list (by rfl) (pd_name (pv 4)) (by decide) (by decide) (by rfl) (by rfl))) (ph_cons pd_bl ph_nil (by rfl)) (by rfl)) (by rfl)) (by rfl) (by decide) (by rfl) (by rfl))) (fun _ => rfl))) (ss_one (s_ret (toN' pd_bl))) ss_nil)))))))) (fun _ => rfl))
    (ss_cons (s_set (i := 3) S.nd rfl (by first | exact Or.inl rfl | exact Or.inr rfl) (toD (pn_bin op_addAny sem_add pd_int (toD (pn_call (ok_l_draw T) (takes_of rfl rfl rfl rfl) (hr.mono (by decide)) rfl T.p_l_draw.g T.p_l_draw.F.kp T.p_l_draw.b (ph_cons (pd_name (pv 0)) (ph_cons pd_int ph_nil (by rfl)) (by rfl)) (by rfl) (by decide) (by rfl) (by rfl))))) (by rfl) (by first | exact Or.inl rfl | exact Or.inr rfl))
    (ss_cons (s_set (i := 4) S.nd rfl (by first | exact Or.inl rfl | exact Or.inr rfl) (toD (pn_call (ok_l_long T) (takes_of rfl rfl rfl rfl) (hr.mono (by decide)) rfl T.p_l_long.g T.p_l_long.F.kp T.p_l_long.b (ph_cons (pd_name (pv 0)) (ph_cons (pd_name (pv 2)) (ph_cons (pd_name (pv 3)) ph_nil (by rfl)) (by rfl)) (by rfl)) (by rfl) (by decide) (by rfl) (by rfl))) (by rfl) (by first | exact Or.inl rfl | exact Or.inr rfl))
    (ss_cons (s_set (i := 5) S.nd rfl (by first | exact Or.inl rfl | exact Or.inr rfl) (toD (pn_slice (pd_name (pv 4)) po_noneD (po_someD (toD (pn_bin op_sub sem_sub (pd_name (pv 3)) pd_int))))) (by rfl) (by first | exact Or.inl rfl | exact Or.inr rfl))
    (ss_one (s_ret (pn_and (pn_call (ok_l_holds T) (takes_of rfl rfl rfl rfl) (hr.mono (by decide)) rfl T.p_l_holds.g T.p_l_holds.F.kp T.p_l_holds.b (ph_cons (pd_name (pv 1)) (ph_cons (pd_name (pv 4)) (ph_cons pd_bl ph_nil (by rfl)) (by rfl)) (by rfl)) (by rfl) (by decide) (by rfl) (by rfl)) (pn_one (pn_call (ok_l_holds T) (takes_of rfl rfl rfl rfl) (hr.mono (by decide)) rfl T.p_l_holds.g T.p_l_holds.F.kp T.p_l_holds.b (ph_cons (pd_name (pv 1)) (ph_cons (pd_name (pv 5)) (ph_cons pd_bl ph_nil (by rfl)) (by rfl)) (by rfl)) (by rfl) (by decide) (by rfl) (by rfl))))))))))
theorem sc_l_vast : FnScope ["jar", "setting", "signs", "many", "long", "at", "bent", "due"] ["jar", "setting", "signs"] (defScope s_l_vast) := ⟨rfl, rfl, rfl, by decide +kernel, rfl, by decide +kernel, by decide +kernel⟩
theorem ok_l_vast (T : Tx Pr K mg) : FnOk Pr w K mg base (L2.CX Pr w) 7 T.a_l_vast T.d_l_vast ["jar", "setting", "signs"] (spF K (["jar", "setting", "signs"] : List Str).length F_l_vast) :=
  fn_ok (k := 6) T.p_l_vast.F sc_l_vast fun cdv A outer s H E n0 hr => by
    have S := sc_l_vast
    exact (ss_cons (s_set (i := 3) S.nd rfl (by first | exact Or.inl rfl | exact Or.inr rfl) (toD (pn_bin op_addAny sem_add pd_int (toD (pn_call (ok_l_draw T) (takes_of rfl rfl rfl rfl) (hr.mono (by decide)) rfl T.p_l_draw.g T.p_l_draw.F.kp T.p_l_draw.b (ph_cons (pd_name (pv 0)) (ph_cons pd_int ph_nil (by rfl)) (by rfl)) (by rfl) (by decide) (by rfl) (by rfl))))) (by rfl) (by first | exact Or.inl rfl | exact Or.inr rfl))
    (ss_cons (s_set (i := 4) S.nd rfl (by first | exact Or.inl rfl | exact Or.inr rfl) (toD (pn_call (ok_l_long T) (takes_of rfl rfl rfl rfl) (hr.mono (by decide)) rfl T.p_l_long.g T.p_l_long.F.kp T.p_l_long.b (ph_cons (pd_name (pv 0)) (ph_cons (pd_name (pv 2)) (ph_cons (pd_name (pv 3)) ph_nil (by rfl)) (by rfl)) (by rfl)) (by rfl) (by decide) (by rfl) (by rfl))) (by rfl) (by first | exact Or.inl rfl | exact Or.inr rfl))
    (ss_cons (s_set (i := 5) S.nd rfl (by first | exact Or.inl rfl | exact Or.inr rfl) (toD (pn_bin op_sub sem_sub (toD (pn_bin op_sub sem_sub (pd_name (pv 3)) pd_int)) (toD (pn_call (ok_l_draw T) (takes_of rfl rfl rfl rfl) (hr.mono (by decide)) rfl T.p_l_draw.g T.p_l_draw.F.kp T.p_l_draw.b (ph_cons (pd_name (pv 0)) (ph_cons pd_int ph_nil (by rfl)) (by rfl)) (by rfl) (by decide) (by rfl) (by rfl))))) (by rfl) (by first | exact Or.inl rfl | exact Or.inr rfl))
    (ss_cons (s_set (i := 6) S.nd rfl (by first | exact Or.inl rfl | exact Or.inr rfl) (toD (pn_bin op_addAny sem_add (toD (pn_bin op_addAny sem_add (toD (pn_slice (pd_name (pv 4)) po_noneD (po_someD (pd_name (pv 5))))) (toD (pn_tup (pi_consD (toD (pn_call (ok_l_bent_state T) (takes_of rfl rfl rfl rfl) (hr.mono (by decide)) rfl T.p_l_bent_state.g T.p_l_bent_state.F.kp T.p_l_bent_state.b (ph_cons (pd_name (pv 0)) (ph_cons (toD (pn_ix ix_seq sem_ix (pd_name (pv 4)) (pd_name (pv 5)) (fun _ _ => rfl))) (ph_cons (pd_name (pv 3)) (ph_cons (toD (pn_call (ok_l_draw T) (takes_of rfl rfl rfl rfl) (hr.mono (by decide)) rfl T.p_l_draw.g T.p_l_draw.F.kp T.p_l_draw.b (ph_cons (pd_name (pv 0)) (ph_cons pd_int ph_nil (by rfl)) (by rfl)) (by rfl) (by decide) (by rfl) (by rfl))) ph_nil (by rfl)) (by rfl)) (by rfl)) (by rfl)) (by rfl) (by decide) (by rfl) (by rfl))) pi_nilD (by rfl)))))) (toD (pn_slice (pd_name (pv 4)) (po_someD (toD (pn_bin op_addAny sem_add (pd_name (pv 5)) pd_int))) po_noneD)))) (by rfl) (by first | exact Or.inl rfl | exact Or.inr rfl))
    (ss_cons (s_if (pt_notD (pt_truthD (toD (pn_call (ok_l_fits T) (takes_of rfl rfl rfl rfl) (hr.mono (by decide)) rfl T.p_l_fits.g T.p_l_fits.F.kp T.p_l_fits.b (ph_cons (toD (pn_call (ok_l_ask T) (takes_of rfl rfl rfl rfl) (hr.mono (by decide)) rfl T.p_l_ask.g T.p_l_ask.F.kp T.p_l_ask.b (ph_cons (pd_name (pv 1)) (ph_cons (pd_name (pv 4)) (ph_cons pd_bl ph_nil (by rfl)) (by rfl)) (by rfl)) (by rfl) (by decide) (by rfl) (by rfl))) (ph_cons (toD (pn_lst (pi_consD pd_str (pi_consD (toD (pn_un un_neg sem_neg pd_int)) (pi_consD pd_str pi_nilD (by rfl)) (by rfl)) (by rfl)))) ph_nil (by rfl)) (by rfl)) (by rfl) (by decide) (by rfl) (by rfl))) (fun _ => rfl))) (ss_one (s_ret (toN' pd_bl))) ss_nil)
    (ss_cons (s_if (pt_notD (pt_truthD (toD (pn_call (ok_l_whether T) (takes_of rfl rfl rfl rfl) (hr.mono (by decide)) rfl T.p_l_whether.g T.p_l_whether.F.kp T.p_l_whether.b (ph_cons (pd_name (pv 1)) (ph_cons (pd_name (pv 4)) (ph_cons pd_bl (ph_cons pd_bl ph_nil (by rfl)) (by rfl)) (by rfl)) (by rfl)) (by rfl) (by decide) (by rfl) (by rfl))) (fun _ => rfl))) (ss_one (s_ret (toN' pd_bl))) ss_nil)
    (ss_cons (s_set (i := 7) S.nd rfl (by first | exact Or.inl rfl | exact Or.inr rfl) (toD (pn_call (ok_l_is_due T) (takes_of rfl rfl rfl rfl) (hr.mono (by decide)) rfl T.p_l_is_due.g T.p_l_is_due.F.kp T.p_l_is_due.b (ph_cons (pd_name (pv 2)) (ph_cons (pd_name (pv 6)) ph_nil (by rfl)) (by rfl)) (by rfl) (by decide) (by rfl) (by rfl))) (by rfl) (by first | exact Or.inl rfl | exact Or.inr rfl))
    (ss_one (s_ret (pn_call (ok_l_whether T) (takes_of rfl rfl rfl rfl) (hr.mono (by decide)) rfl T.p_l_whether.g T.p_l_whether.F.kp T.p_l_whether.b (ph_cons (pd_name (pv 1)) (ph_cons (pd_name (pv 6)) (ph_cons (pd_name (pv 7)) (ph_cons pd_bl ph_nil (by rfl)) (by rfl)) (by rfl)) (by rfl)) (by rfl) (by decide) (by rfl) (by rfl)))))))))))
theorem sc_l_deep : FnScope ["jar", "setting", "signs", "deep", "turn", "here", "thing", "row"] ["jar", "setting", "signs"] (defScope s_l_deep) := ⟨rfl, rfl, rfl, by decide +kernel, rfl, by decide +kernel, by decide +kernel⟩
theorem ok_l_deep (T : Tx Pr K mg) : FnOk Pr w K mg base (L2.CX Pr w) 8 T.a_l_deep T.d_l_deep ["jar", "setting", "signs"] (spF K (["jar", "setting", "signs"] : List Str).length F_l_deep) :=
  fn_ok (k := 7) T.p_l_deep.F sc_l_deep fun cdv A outer s H E n0 hr => by
    have S := sc_l_deep
    exact (ss_cons (s_set (i := 3) S.nd rfl (by first | exact Or.inl rfl | exact Or.inr rfl) (toD (pn_tup pi_nilD)) (by rfl) (by first | exact Or.inl rfl | exact Or.inr rfl))
    (ss_cons (s_for (passes_of rfl) rfl (pw_range1 rfl T.z_range pd_int (by rfl) (by rfl)) (pg_name (i := 4) S.nd rfl (by first | exact Or.inl rfl | exact Or.inr rfl)) tgok_name (ss_one (s_set (i := 3) S.nd rfl (by first | exact Or.inl rfl | exact Or.inr rfl) (toD (pn_tup (pi_consD (pd_name (pv 3)) pi_nilD (by rfl)))) (by rfl) (by first | exact Or.inl rfl | exact Or.inr rfl))) (fun _ => rfl))
    (ss_cons (s_set (i := 5) S.nd rfl (by first | exact Or.inl rfl | exact Or.inr rfl) (toD (pn_bin op_repTW sem_repT (toD (pn_tup (pi_consD pd_int pi_nilD (by rfl)))) (pd_name (pv 2)))) (by rfl) (by first | exact Or.inl rfl | exact Or.inr rfl))
    (ss_cons (s_for (passes_of rfl) rfl (pw_any (toD (pn_tup (pi_consD (pd_name (pv 3)) (pi_consD (toD (pn_tup (pi_consD (pd_name (pv 3)) pi_nilD (by rfl)))) (pi_consD (toD (pn_tup (pi_consD (toD (pn_tup (pi_consD pd_str (pi_consD (pd_name (pv 3)) pi_nilD (by rfl)) (by rfl)))) pi_nilD (by rfl)))) (pi_consD (toD (pn_tup (pi_consD (toD (pn_tup (pi_consD (pd_name (pv 3)) (pi_consD (pd_name (pv 5)) pi_nilD (by rfl)) (by rfl)))) pi_nilD (by rfl)))) (pi_consD (toD (pn_tup (pi_consD (toD (pn_tup (pi_consD pd_str (pi_consD (toD (pn_bin op_addAny sem_add (toD (pn_tup (pi_consD (pd_name (pv 3)) pi_nilD (by rfl)))) (toD (pn_slice (pd_name (pv 5)) (po_someD pd_int) po_noneD)))) pi_nilD (by rfl)) (by rfl)))) pi_nilD (by rfl)))) pi_nilD (by rfl)) (by rfl)) (by rfl)) (by rfl)) (by rfl))))) (pg_name (i := 6) S.nd rfl (by first | exact Or.inl rfl | exact Or.inr rfl)) tgok_name (ss_one (s_if (pt_notD (pt_truthD (toD (pn_call (ok_l_holds T) (takes_of rfl rfl rfl rfl) (hr.mono (by decide)) rfl T.p_l_holds.g T.p_l_holds.F.kp T.p_l_holds.b (ph_cons (pd_name (pv 1)) (ph_cons (pd_name (pv 6)) (ph_cons pd_bl ph_nil (by rfl)) (by rfl)) (by rfl)) (by rfl) (by decide) (by rfl) (by rfl))) (fun _ => rfl))) (ss_one (s_ret (toN' pd_bl))) ss_nil)) (fun _ => rfl))
    (ss_cons (s_set (i := 7) S.nd rfl (by first | exact Or.inl rfl | exact Or.inr rfl) (toD (pn_bin op_repTW sem_repT (toD (pn_tup (pi_consD (toD (pn_call (ok_l_draw T) (takes_of rfl rfl rfl rfl) (hr.mono (by decide)) rfl T.p_l_draw.g T.p_l_draw.F.kp T.p_l_draw.b (ph_cons (pd_name (pv 0)) (ph_cons pd_int ph_nil (by rfl)) (by rfl)) (by rfl) (by decide) (by rfl) (by rfl))) pi_nilD (by rfl)))) (toD (pn_bin op_addAny sem_add pd_int (toD (pn_call (ok_l_draw T) (takes_of rfl rfl rfl rfl) (hr.mono (by decide)) rfl T.p_l_draw.g T.p_l_draw.F.kp T.p_l_draw.b (ph_cons (pd_name (pv 0)) (ph_cons pd_int ph_nil (by rfl)) (by rfl)) (by rfl) (by decide) (by rfl) (by rfl))))))) (by rfl) (by first | exact Or.inl rfl | exact Or.inr rfl))
    (ss_cons (s_for (passes_of rfl) rfl (pw_any (toD (pn_tup (pi_consD (pd_name (pv 7)) (pi_consD (toD (pn_t1 call_list_of sem_list rfl T.z_list (by rfl) (pd_name (pv 7)) (by decide) (by decide) (by rfl) (by rfl))) (pi_consD (toD (pn_tup (pi_consD (toD (pn_tup (pi_consD pd_str (pi_consD (pd_name (pv 7)) pi_nilD (by rfl)) (by rfl)))) pi_nilD (by rfl)))) (pi_consD (toD (pn_tup (pi_consD (toD (pn_tup (pi_consD (pd_name (pv 7)) (pi_consD (pd_name (pv 5)) pi_nilD (by rfl)) (by rfl)))) pi_nilD (by rfl)))) pi_nilD (by rfl)) (by rfl)) (by rfl)) (by rfl))))) (pg_name (i := 6) S.nd rfl (by first | exact Or.inl rfl | exact Or.inr rfl)) tgok_name (ss_one (s_if (pt_notD (pt_truthD (toD (pn_call (ok_l_holds T) (takes_of rfl rfl rfl rfl) (hr.mono (by decide)) rfl T.p_l_holds.g T.p_l_holds.F.kp T.p_l_holds.b (ph_cons (pd_name (pv 1)) (ph_cons (pd_name (pv 6)) (ph_cons pd_bl ph_nil (by rfl)) (by rfl)) (by rfl)) (by rfl) (by decide) (by rfl) (by rfl))) (fun _ => rfl))) (ss_one (s_ret (toN' pd_bl))) ss_nil)) (fun _ => rfl))
    (ss_one (s_ret (toN' pd_bl)))))))))
theorem sc_law : FnScope ["script", "jar", "rare", "signs", "setting", "machine"] ["script"] (defScope s_law) := ⟨rfl, rfl, rfl, by decide +kernel, rfl, by decide +kernel, by decide +kernel⟩
theorem ok_law (T : Tx Pr K mg) : FnOk Pr w K mg base (L2.CX Pr w) 11 T.a_law T.d_law ["script"] (spF K (["script"] : List Str).length F_law) :=
  fn_ok (k := 10) T.p_law.F sc_law fun cdv A outer s H E n0 hr => by
    have S := sc_law
    exact (ss_cons (s_new (i := 1) S.nd rfl (by first | exact Or.inl rfl | exact Or.inr rfl) (pn_call (ok_l_jar T) (takes_of rfl rfl rfl rfl) (hr.mono (by decide)) rfl T.p_l_jar.g T.p_l_jar.F.kp T.p_l_jar.b (ph_cons (pd_name (pv 0)) ph_nil (by rfl)) (by rfl) (by decide) (by rfl) (by rfl)) (by rfl) (by first | exact Or.inl rfl | exact Or.inr rfl))
    (ss_cons (s_set (i := 2) S.nd rfl (by first | exact Or.inl rfl | exact Or.inr rfl) (toD (pn_bin op_mod sem_mod (toD (pn_t1 call_int1 sem_toInt rfl T.z_int (by rfl) (toD (pn_bin op_addAny sem_add (toD (pn_ix ix_seq sem_ix (pd_name (pv 1)) pd_int (fun _ _ => rfl))) (toD (pn_ix ix_seq sem_ix (pd_name (pv 1)) pd_int (fun _ _ => rfl))))) (by decide) (by decide) (by rfl) (by rfl))) pd_int)) (by rfl) (by first | exact Or.inl rfl | exact Or.inr rfl))
    (ss_cons (s_set (i := 3) S.nd rfl (by first | exact Or.inl rfl | exact Or.inr rfl) (toD (pn_bin op_addAny sem_add pd_int (toD (pn_call (ok_l_draw T) (takes_of rfl rfl rfl rfl) (hr.mono (by decide)) rfl T.p_l_draw.g T.p_l_draw.F.kp T.p_l_draw.b (ph_cons (pd_name (pv 1)) (ph_cons pd_int ph_nil (by rfl)) (by rfl)) (by rfl) (by decide) (by rfl) (by rfl))))) (by rfl) (by first | exact Or.inl rfl | exact Or.inr rfl))
    (ss_cons (s_set (i := 4) S.nd rfl (by first | exact Or.inl rfl | exact Or.inr rfl) (toD (pn_call (ok_l_setting T) (takes_of rfl rfl rfl rfl) (hr.mono (by decide)) rfl T.p_l_setting.g T.p_l_setting.F.kp T.p_l_setting.b (ph_cons (pd_name (pv 1)) (ph_cons (pd_name (pv 3)) ph_nil (by rfl)) (by rfl)) (by rfl) (by decide) (by rfl) (by rfl))) (by rfl) (by first | exact Or.inl rfl | exact Or.inr rfl))
    (ss_cons (s_set (i := 5) S.nd rfl (by first | exact Or.inl rfl | exact Or.inr rfl) (toD (pn_call (ok_l_machine T) (takes_of rfl rfl rfl rfl) (hr.mono (by decide)) rfl T.p_l_machine.g T.p_l_machine.F.kp T.p_l_machine.b (ph_cons (pd_name (pv 1)) (ph_cons (pd_name (pv 3)) (ph_cons (toD (pn_bin op_addAny sem_add pd_int (toD (pn_call (ok_l_draw T) (takes_of rfl rfl rfl rfl) (hr.mono (by decide)) rfl T.p_l_draw.g T.p_l_draw.F.kp T.p_l_draw.b (ph_cons (pd_name (pv 1)) (ph_cons pd_int ph_nil (by rfl)) (by rfl)) (by rfl) (by decide) (by rfl) (by rfl))))) ph_nil (by rfl)) (by rfl)) (by rfl)) (by rfl) (by decide) (by rfl) (by rfl))) (by rfl) (by first | exact Or.inl rfl | exact Or.inr rfl))
    (ss_cons (s_if (pt_notD (pt_truthD (toD (pn_call (ok_l_fits T) (takes_of rfl rfl rfl rfl) (hr.mono (by decide)) rfl T.p_l_fits.g T.p_l_fits.F.kp T.p_l_fits.b (ph_cons (toD (pn_call (ok_l_ask T) (takes_of rfl rfl rfl rfl) (hr.mono (by decide)) rfl T.p_l_ask.g T.p_l_ask.F.kp T.p_l_ask.b (ph_cons (pd_name (pv 4)) (ph_cons (pd_name (pv 5)) (ph_cons pd_bl ph_nil (by rfl)) (by rfl)) (by rfl)) (by rfl) (by decide) (by rfl) (by rfl))) (ph_cons (toD (pn_lst (pi_consD pd_str (pi_consD (toD (pn_b1 call_lenAny sem_len rfl T.z_len (by rfl) (pd_name (pv 5)) (by decide) (by decide) (by rfl) (by rfl))) (pi_consD pd_str pi_nilD (by rfl)) (by rfl)) (by rfl)))) ph_nil (by rfl)) (by rfl)) (by rfl) (by decide) (by rfl) (by rfl))) (fun _ => rfl))) (ss_one (s_ret (toN' pd_bl))) ss_nil)
    (ss_cons (s_if (pt_notD (pt_truthD (toD (pn_call (ok_l_whether T) (takes_of rfl rfl rfl rfl) (hr.mono (by decide)) rfl T.p_l_whether.g T.p_l_whether.F.kp T.p_l_whether.b (ph_cons (pd_name (pv 4)) (ph_cons (pd_name (pv 5)) (ph_cons pd_bl (ph_cons pd_bl ph_nil (by rfl)) (by rfl)) (by rfl)) (by rfl)) (by rfl) (by decide) (by rfl) (by rfl))) (fun _ => rfl))) (ss_one (s_ret (toN' pd_bl))) ss_nil)
    (ss_cons (s_if (pt_notD (pt_truthD (toD (pn_call (ok_l_bent_ones T) (takes_of rfl rfl rfl rfl) (hr.mono (by decide)) rfl T.p_l_bent_ones.g T.p_l_bent_ones.F.kp T.p_l_bent_ones.b (ph_cons (pd_name (pv 1)) (ph_cons (pd_name (pv 4)) (ph_cons (pd_name (pv 5)) ph_nil (by rfl)) (by rfl)) (by rfl)) (by rfl) (by decide) (by rfl) (by rfl))) (fun _ => rfl))) (ss_one (s_ret (toN' pd_bl))) ss_nil)
    (ss_cons (s_if (pt_notD (pt_truthD (toD (pn_call (ok_l_other_things T) (takes_of rfl rfl rfl rfl) (hr.mono (by decide)) rfl T.p_l_other_things.g T.p_l_other_things.F.kp T.p_l_other_things.b (ph_cons (pd_name (pv 1)) (ph_cons (pd_name (pv 4)) (ph_cons (pd_name (pv 5)) ph_nil (by rfl)) (by rfl)) (by rfl)) (by rfl) (by decide) (by rfl) (by rfl))) (fun _ => rfl))) (ss_one (s_ret (toN' pd_bl))) ss_nil)
    (ss_cons (s_if (pt_notD (pt_truthD (toD (pn_call (ok_l_names T) (takes_of rfl rfl rfl rfl) (hr.mono (by decide)) rfl T.p_l_names.g T.p_l_names.F.kp T.p_l_names.b (ph_cons (pd_name (pv 1)) (ph_cons (pd_name (pv 4)) ph_nil (by rfl)) (by rfl)) (by rfl) (by decide) (by rfl) (by rfl))) (fun _ => rfl))) (ss_one (s_ret (toN' pd_bl))) ss_nil)
    (ss_cons (s_if (pt_notD (pt_truthD (toD (pn_call (ok_l_flags T) (takes_of rfl rfl rfl rfl) (hr.mono (by decide)) rfl T.p_l_flags.g T.p_l_flags.F.kp T.p_l_flags.b (ph_cons (pd_name (pv 4)) (ph_cons (pd_name (pv 3)) (ph_cons (pd_name (pv 5)) ph_nil (by rfl)) (by rfl)) (by rfl)) (by rfl) (by decide) (by rfl) (by rfl))) (fun _ => rfl))) (ss_one (s_ret (toN' pd_bl))) ss_nil)
    (ss_cons (s_if (pt_notD (pt_truthD (toD (pn_call (ok_l_other_signs T) (takes_of rfl rfl rfl rfl) (hr.mono (by decide)) rfl T.p_l_other_signs.g T.p_l_other_signs.F.kp T.p_l_other_signs.b (ph_cons (pd_name (pv 1)) (ph_cons (pd_name (pv 3)) (ph_cons (pd_name (pv 5)) ph_nil (by rfl)) (by rfl)) (by rfl)) (by rfl) (by decide) (by rfl) (by rfl))) (fun _ => rfl))) (ss_one (s_ret (toN' pd_bl))) ss_nil)
    (ss_cons (s_if (pt_notD (pt_truthD (toD (pn_call (ok_l_deep T) (takes_of rfl rfl rfl rfl) (hr.mono (by decide)) rfl T.p_l_deep.g T.p_l_deep.F.kp T.p_l_deep.b (ph_cons (pd_name (pv 1)) (ph_cons (pd_name (pv 4)) (ph_cons (pd_name (pv 3)) ph_nil (by rfl)) (by rfl)) (by rfl)) (by rfl) (by decide) (by rfl) (by rfl))) (fun _ => rfl))) (ss_one (s_ret (toN' pd_bl))) ss_nil)
    (ss_cons (s_if (PW.pt (pw_andD (pt_cmpD (op_eqD hr.units) sem_eq (toD (pn_bin op_mod sem_mod (pd_name (pv 2)) pd_int)) pd_int (by rfl)) (pw_and1 (pt_notD (pt_truthD (toD (pn_call (ok_l_great T) (takes_of rfl rfl rfl rfl) (hr.mono (by decide)) rfl T.p_l_great.g T.p_l_great.F.kp T.p_l_great.b (ph_cons (pd_name (pv 1)) (ph_cons (pd_name (pv 4)) (ph_cons (pd_name (pv 3)) ph_nil (by rfl)) (by rfl)) (by rfl)) (by rfl) (by decide) (by rfl) (by rfl))) (fun _ => rfl)))))) (ss_one (s_ret (toN' pd_bl))) ss_nil)
    (ss_cons (s_if (PW.pt (pw_andD (pt_cmpD (op_eqD hr.units) sem_eq (toD (pn_bin op_mod sem_mod (pd_name (pv 2)) pd_int)) pd_int (by rfl)) (pw_and1 (pt_notD (pt_truthD (toD (pn_call (ok_l_vast T) (takes_of rfl rfl rfl rfl) (hr.mono (by decide)) rfl T.p_l_vast.g T.p_l_vast.F.kp T.p_l_vast.b (ph_cons (pd_name (pv 1)) (ph_cons (pd_name (pv 4)) (ph_cons (pd_name (pv 3)) ph_nil (by rfl)) (by rfl)) (by rfl)) (by rfl) (by decide) (by rfl) (by rfl))) (fun _ => rfl)))))) (ss_one (s_ret (toN' pd_bl))) ss_nil)
    (ss_one (s_ret (pn_call (ok_l_holds T) (takes_of rfl rfl rfl rfl) (hr.mono (by decide)) rfl T.p_l_holds.g T.p_l_holds.F.kp T.p_l_holds.b (ph_cons (pd_name (pv 4)) (ph_cons (pd_name (pv 5)) (ph_cons pd_bl ph_nil (by rfl)) (by rfl)) (by rfl)) (by rfl) (by decide) (by rfl) (by rfl)))))))))))))))))))
end
/-! ### what the top has written -/
def tx_mk {Pr : Program} {K : PySem.W.Frag} {h : Heap} {mg : Str → Option Value} (X : K.In h) (G : h.Ns mainGlobals mg)
    {f_l_jar : Addr} {o_l_jar n_l_jar : Option Addr} {v_l_jar : Array (Option Value)} {c_l_jar k_l_jar e_l_jar m_l_jar r_l_jar t_l_jar : Value}
    (xa_l_jar : PySem.W.nsIn K mainGlobals "_law_jar" = some (some (.ref f_l_jar))) (xl_l_jar : K.lookup f_l_jar = some ⟨c_l_jar, o_l_jar, .func (PySem.W.fnOf "_law_jar" "_law_jar" (defArgs s_l_jar) (defBody s_l_jar) (defScope s_l_jar) .none k_l_jar e_l_jar m_l_jar n_l_jar r_l_jar t_l_jar), v_l_jar⟩) (xc_l_jar : PySem.W.codeIn K r_l_jar "_law_jar" = true) (xk_l_jar : PySem.W.keepIn K (.ref f_l_jar) = true)
    {f_l_draw : Addr} {o_l_draw n_l_draw : Option Addr} {v_l_draw : Array (Option Value)} {c_l_draw k_l_draw e_l_draw m_l_draw r_l_draw t_l_draw : Value}
    (xa_l_draw : PySem.W.nsIn K mainGlobals "_law_draw" = some (some (.ref f_l_draw))) (xl_l_draw : K.lookup f_l_draw = some ⟨c_l_draw, o_l_draw, .func (PySem.W.fnOf "_law_draw" "_law_draw" (defArgs s_l_draw) (defBody s_l_draw) (defScope s_l_draw) .none k_l_draw e_l_draw m_l_draw n_l_draw r_l_draw t_l_draw), v_l_draw⟩) (xc_l_draw : PySem.W.codeIn K r_l_draw "_law_draw" = true) (xk_l_draw : PySem.W.keepIn K (.ref f_l_draw) = true)
    {f_l_reserved : Addr} {o_l_reserved n_l_reserved : Option Addr} {v_l_reserved : Array (Option Value)} {c_l_reserved k_l_reserved e_l_reserved m_l_reserved r_l_reserved t_l_reserved : Value}
    (xa_l_reserved : PySem.W.nsIn K mainGlobals "_law_reserved" = some (some (.ref f_l_reserved))) (xl_l_reserved : K.lookup f_l_reserved = some ⟨c_l_reserved, o_l_reserved, .func (PySem.W.fnOf "_law_reserved" "_law_reserved" (defArgs s_l_reserved) (defBody s_l_reserved) (defScope s_l_reserved) .none k_l_reserved e_l_reserved m_l_reserved n_l_reserved r_l_reserved t_l_reserved), v_l_reserved⟩) (xc_l_reserved : PySem.W.codeIn K r_l_reserved "_law_reserved" = true) (xk_l_reserved : PySem.W.keepIn K (.ref f_l_reserved) = true)
    {f_l_is_name : Addr} {o_l_is_name n_l_is_name : Option Addr} {v_l_is_name : Array (Option Value)} {c_l_is_name k_l_is_name e_l_is_name m_l_is_name r_l_is_name t_l_is_name : Value}
    (xa_l_is_name : PySem.W.nsIn K mainGlobals "_law_is_name" = some (some (.ref f_l_is_name))) (xl_l_is_name : K.lookup f_l_is_name = some ⟨c_l_is_name, o_l_is_name, .func (PySem.W.fnOf "_law_is_name" "_law_is_name" (defArgs s_l_is_name) (defBody s_l_is_name) (defScope s_l_is_name) .none k_l_is_name e_l_is_name m_l_is_name n_l_is_name r_l_is_name t_l_is_name), v_l_is_name⟩) (xc_l_is_name : PySem.W.codeIn K r_l_is_name "_law_is_name" = true) (xk_l_is_name : PySem.W.keepIn K (.ref f_l_is_name) = true)
    {f_l_name : Addr} {o_l_name n_l_name : Option Addr} {v_l_name : Array (Option Value)} {c_l_name k_l_name e_l_name m_l_name r_l_name t_l_name : Value}
    (xa_l_name : PySem.W.nsIn K mainGlobals "_law_name" = some (some (.ref f_l_name))) (xl_l_name : K.lookup f_l_name = some ⟨c_l_name, o_l_name, .func (PySem.W.fnOf "_law_name" "_law_name" (defArgs s_l_name) (defBody s_l_name) (defScope s_l_name) .none k_l_name e_l_name m_l_name n_l_name r_l_name t_l_name), v_l_name⟩) (xc_l_name : PySem.W.codeIn K r_l_name "_law_name" = true) (xk_l_name : PySem.W.keepIn K (.ref f_l_name) = true)
    {f_l_setting : Addr} {o_l_setting n_l_setting : Option Addr} {v_l_setting : Array (Option Value)} {c_l_setting k_l_setting e_l_setting m_l_setting r_l_setting t_l_setting : Value}
    (xa_l_setting : PySem.W.nsIn K mainGlobals "_law_setting" = some (some (.ref f_l_setting))) (xl_l_setting : K.lookup f_l_setting = some ⟨c_l_setting, o_l_setting, .func (PySem.W.fnOf "_law_setting" "_law_setting" (defArgs s_l_setting) (defBody s_l_setting) (defScope s_l_setting) .none k_l_setting e_l_setting m_l_setting n_l_setting r_l_setting t_l_setting), v_l_setting⟩) (xc_l_setting : PySem.W.codeIn K r_l_setting "_law_setting" = true) (xk_l_setting : PySem.W.keepIn K (.ref f_l_setting) = true)
    {f_l_machine : Addr} {o_l_machine n_l_machine : Option Addr} {v_l_machine : Array (Option Value)} {c_l_machine k_l_machine e_l_machine m_l_machine r_l_machine t_l_machine : Value}
    (xa_l_machine : PySem.W.nsIn K mainGlobals "_law_machine" = some (some (.ref f_l_machine))) (xl_l_machine : K.lookup f_l_machine = some ⟨c_l_machine, o_l_machine, .func (PySem.W.fnOf "_law_machine" "_law_machine" (defArgs s_l_machine) (defBody s_l_machine) (defScope s_l_machine) .none k_l_machine e_l_machine m_l_machine n_l_machine r_l_machine t_l_machine), v_l_machine⟩) (xc_l_machine : PySem.W.codeIn K r_l_machine "_law_machine" = true) (xk_l_machine : PySem.W.keepIn K (.ref f_l_machine) = true)
    {f_is_integer : Addr} {o_is_integer n_is_integer : Option Addr} {v_is_integer : Array (Option Value)} {c_is_integer k_is_integer e_is_integer m_is_integer r_is_integer t_is_integer : Value}
    (xa_is_integer : PySem.W.nsIn K mainGlobals "is_integer" = some (some (.ref f_is_integer))) (xl_is_integer : K.lookup f_is_integer = some ⟨c_is_integer, o_is_integer, .func (PySem.W.fnOf "is_integer" "is_integer" (defArgs s_is_integer) (defBody s_is_integer) (defScope s_is_integer) .none k_is_integer e_is_integer m_is_integer n_is_integer r_is_integer t_is_integer), v_is_integer⟩) (xc_is_integer : PySem.W.codeIn K r_is_integer "is_integer" = true) (xk_is_integer : PySem.W.keepIn K (.ref f_is_integer) = true)
    {f_integer_within : Addr} {o_integer_within n_integer_within : Option Addr} {v_integer_within : Array (Option Value)} {c_integer_within k_integer_within e_integer_within m_integer_within r_integer_within t_integer_within : Value}
    (xa_integer_within : PySem.W.nsIn K mainGlobals "integer_within" = some (some (.ref f_integer_within))) (xl_integer_within : K.lookup f_integer_within = some ⟨c_integer_within, o_integer_within, .func (PySem.W.fnOf "integer_within" "integer_within" (defArgs s_integer_within) (defBody s_integer_within) (defScope s_integer_within) .none k_integer_within e_integer_within m_integer_within n_integer_within r_integer_within t_integer_within), v_integer_within⟩) (xc_integer_within : PySem.W.codeIn K r_integer_within "integer_within" = true) (xk_integer_within : PySem.W.keepIn K (.ref f_integer_within) = true)
    {f_is_number : Addr} {o_is_number n_is_number : Option Addr} {v_is_number : Array (Option Value)} {c_is_number k_is_number e_is_number m_is_number r_is_number t_is_number : Value}
    (xa_is_number : PySem.W.nsIn K mainGlobals "is_number" = some (some (.ref f_is_number))) (xl_is_number : K.lookup f_is_number = some ⟨c_is_number, o_is_number, .func (PySem.W.fnOf "is_number" "is_number" (defArgs s_is_number) (defBody s_is_number) (defScope s_is_number) .none k_is_number e_is_number m_is_number n_is_number r_is_number t_is_number), v_is_number⟩) (xc_is_number : PySem.W.codeIn K r_is_number "is_number" = true) (xk_is_number : PySem.W.keepIn K (.ref f_is_number) = true)
    {f_tuple_of : Addr} {o_tuple_of n_tuple_of : Option Addr} {v_tuple_of : Array (Option Value)} {c_tuple_of k_tuple_of e_tuple_of m_tuple_of r_tuple_of t_tuple_of : Value}
    (xa_tuple_of : PySem.W.nsIn K mainGlobals "tuple_of" = some (some (.ref f_tuple_of))) (xl_tuple_of : K.lookup f_tuple_of = some ⟨c_tuple_of, o_tuple_of, .func (PySem.W.fnOf "tuple_of" "tuple_of" (defArgs s_tuple_of) (defBody s_tuple_of) (defScope s_tuple_of) .none k_tuple_of e_tuple_of m_tuple_of n_tuple_of r_tuple_of t_tuple_of), v_tuple_of⟩) (xc_tuple_of : PySem.W.codeIn K r_tuple_of "tuple_of" = true) (xk_tuple_of : PySem.W.keepIn K (.ref f_tuple_of) = true)
    {f_check_name : Addr} {o_check_name n_check_name : Option Addr} {v_check_name : Array (Option Value)} {c_check_name k_check_name e_check_name m_check_name r_check_name t_check_name : Value}
    (xa_check_name : PySem.W.nsIn K mainGlobals "check_name" = some (some (.ref f_check_name))) (xl_check_name : K.lookup f_check_name = some ⟨c_check_name, o_check_name, .func (PySem.W.fnOf "check_name" "check_name" (defArgs s_check_name) (defBody s_check_name) (defScope s_check_name) .none k_check_name e_check_name m_check_name n_check_name r_check_name t_check_name), v_check_name⟩) (xc_check_name : PySem.W.codeIn K r_check_name "check_name" = true) (xk_check_name : PySem.W.keepIn K (.ref f_check_name) = true)
    {f_is_name : Addr} {o_is_name n_is_name : Option Addr} {v_is_name : Array (Option Value)} {c_is_name k_is_name e_is_name m_is_name r_is_name t_is_name : Value}
    (xa_is_name : PySem.W.nsIn K mainGlobals "is_name" = some (some (.ref f_is_name))) (xl_is_name : K.lookup f_is_name = some ⟨c_is_name, o_is_name, .func (PySem.W.fnOf "is_name" "is_name" (defArgs s_is_name) (defBody s_is_name) (defScope s_is_name) .none k_is_name e_is_name m_is_name n_is_name r_is_name t_is_name), v_is_name⟩) (xc_is_name : PySem.W.codeIn K r_is_name "is_name" = true) (xk_is_name : PySem.W.keepIn K (.ref f_is_name) = true)
    {f_is_state : Addr} {o_is_state n_is_state : Option Addr} {v_is_state : Array (Option Value)} {c_is_state k_is_state e_is_state m_is_state r_is_state t_is_state : Value}
    (xa_is_state : PySem.W.nsIn K mainGlobals "is_state" = some (some (.ref f_is_state))) (xl_is_state : K.lookup f_is_state = some ⟨c_is_state, o_is_state, .func (PySem.W.fnOf "is_state" "is_state" (defArgs s_is_state) (defBody s_is_state) (defScope s_is_state) .none k_is_state e_is_state m_is_state n_is_state r_is_state t_is_state), v_is_state⟩) (xc_is_state : PySem.W.codeIn K r_is_state "is_state" = true) (xk_is_state : PySem.W.keepIn K (.ref f_is_state) = true)
    {f_check_machine : Addr} {o_check_machine n_check_machine : Option Addr} {v_check_machine : Array (Option Value)} {c_check_machine k_check_machine e_check_machine m_check_machine r_check_machine t_check_machine : Value}
    (xa_check_machine : PySem.W.nsIn K mainGlobals "check_machine" = some (some (.ref f_check_machine))) (xl_check_machine : K.lookup f_check_machine = some ⟨c_check_machine, o_check_machine, .func (PySem.W.fnOf "check_machine" "check_machine" (defArgs s_check_machine) (defBody s_check_machine) (defScope s_check_machine) .none k_check_machine e_check_machine m_check_machine n_check_machine r_check_machine t_check_machine), v_check_machine⟩) (xc_check_machine : PySem.W.codeIn K r_check_machine "check_machine" = true) (xk_check_machine : PySem.W.keepIn K (.ref f_check_machine) = true)
    {f_l_ask : Addr} {o_l_ask n_l_ask : Option Addr} {v_l_ask : Array (Option Value)} {c_l_ask k_l_ask e_l_ask m_l_ask r_l_ask t_l_ask : Value}
    (xa_l_ask : PySem.W.nsIn K mainGlobals "_law_ask" = some (some (.ref f_l_ask))) (xl_l_ask : K.lookup f_l_ask = some ⟨c_l_ask, o_l_ask, .func (PySem.W.fnOf "_law_ask" "_law_ask" (defArgs s_l_ask) (defBody s_l_ask) (defScope s_l_ask) .none k_l_ask e_l_ask m_l_ask n_l_ask r_l_ask t_l_ask), v_l_ask⟩) (xc_l_ask : PySem.W.codeIn K r_l_ask "_law_ask" = true) (xk_l_ask : PySem.W.keepIn K (.ref f_l_ask) = true)
    {f_l_fits : Addr} {o_l_fits n_l_fits : Option Addr} {v_l_fits : Array (Option Value)} {c_l_fits k_l_fits e_l_fits m_l_fits r_l_fits t_l_fits : Value}
    (xa_l_fits : PySem.W.nsIn K mainGlobals "_law_fits" = some (some (.ref f_l_fits))) (xl_l_fits : K.lookup f_l_fits = some ⟨c_l_fits, o_l_fits, .func (PySem.W.fnOf "_law_fits" "_law_fits" (defArgs s_l_fits) (defBody s_l_fits) (defScope s_l_fits) .none k_l_fits e_l_fits m_l_fits n_l_fits r_l_fits t_l_fits), v_l_fits⟩) (xc_l_fits : PySem.W.codeIn K r_l_fits "_law_fits" = true) (xk_l_fits : PySem.W.keepIn K (.ref f_l_fits) = true)
    {f_is_machine : Addr} {o_is_machine n_is_machine : Option Addr} {v_is_machine : Array (Option Value)} {c_is_machine k_is_machine e_is_machine m_is_machine r_is_machine t_is_machine : Value}
    (xa_is_machine : PySem.W.nsIn K mainGlobals "is_machine" = some (some (.ref f_is_machine))) (xl_is_machine : K.lookup f_is_machine = some ⟨c_is_machine, o_is_machine, .func (PySem.W.fnOf "is_machine" "is_machine" (defArgs s_is_machine) (defBody s_is_machine) (defScope s_is_machine) .none k_is_machine e_is_machine m_is_machine n_is_machine r_is_machine t_is_machine), v_is_machine⟩) (xc_is_machine : PySem.W.codeIn K r_is_machine "is_machine" = true) (xk_is_machine : PySem.W.keepIn K (.ref f_is_machine) = true)
    {f_l_whether : Addr} {o_l_whether n_l_whether : Option Addr} {v_l_whether : Array (Option Value)} {c_l_whether k_l_whether e_l_whether m_l_whether r_l_whether t_l_whether : Value}
    (xa_l_whether : PySem.W.nsIn K mainGlobals "_law_whether" = some (some (.ref f_l_whether))) (xl_l_whether : K.lookup f_l_whether = some ⟨c_l_whether, o_l_whether, .func (PySem.W.fnOf "_law_whether" "_law_whether" (defArgs s_l_whether) (defBody s_l_whether) (defScope s_l_whether) .none k_l_whether e_l_whether m_l_whether n_l_whether r_l_whether t_l_whether), v_l_whether⟩) (xc_l_whether : PySem.W.codeIn K r_l_whether "_law_whether" = true) (xk_l_whether : PySem.W.keepIn K (.ref f_l_whether) = true)
    {f_l_stands : Addr} {o_l_stands n_l_stands : Option Addr} {v_l_stands : Array (Option Value)} {c_l_stands k_l_stands e_l_stands m_l_stands r_l_stands t_l_stands : Value}
    (xa_l_stands : PySem.W.nsIn K mainGlobals "_law_stands" = some (some (.ref f_l_stands))) (xl_l_stands : K.lookup f_l_stands = some ⟨c_l_stands, o_l_stands, .func (PySem.W.fnOf "_law_stands" "_law_stands" (defArgs s_l_stands) (defBody s_l_stands) (defScope s_l_stands) .none k_l_stands e_l_stands m_l_stands n_l_stands r_l_stands t_l_stands), v_l_stands⟩) (xc_l_stands : PySem.W.codeIn K r_l_stands "_law_stands" = true) (xk_l_stands : PySem.W.keepIn K (.ref f_l_stands) = true)
    {f_l_first_bad : Addr} {o_l_first_bad n_l_first_bad : Option Addr} {v_l_first_bad : Array (Option Value)} {c_l_first_bad k_l_first_bad e_l_first_bad m_l_first_bad r_l_first_bad t_l_first_bad : Value}
    (xa_l_first_bad : PySem.W.nsIn K mainGlobals "_law_first_bad" = some (some (.ref f_l_first_bad))) (xl_l_first_bad : K.lookup f_l_first_bad = some ⟨c_l_first_bad, o_l_first_bad, .func (PySem.W.fnOf "_law_first_bad" "_law_first_bad" (defArgs s_l_first_bad) (defBody s_l_first_bad) (defScope s_l_first_bad) .none k_l_first_bad e_l_first_bad m_l_first_bad n_l_first_bad r_l_first_bad t_l_first_bad), v_l_first_bad⟩) (xc_l_first_bad : PySem.W.codeIn K r_l_first_bad "_law_first_bad" = true) (xk_l_first_bad : PySem.W.keepIn K (.ref f_l_first_bad) = true)
    {f_l_due : Addr} {o_l_due n_l_due : Option Addr} {v_l_due : Array (Option Value)} {c_l_due k_l_due e_l_due m_l_due r_l_due t_l_due : Value}
    (xa_l_due : PySem.W.nsIn K mainGlobals "_law_due" = some (some (.ref f_l_due))) (xl_l_due : K.lookup f_l_due = some ⟨c_l_due, o_l_due, .func (PySem.W.fnOf "_law_due" "_law_due" (defArgs s_l_due) (defBody s_l_due) (defScope s_l_due) .none k_l_due e_l_due m_l_due n_l_due r_l_due t_l_due), v_l_due⟩) (xc_l_due : PySem.W.codeIn K r_l_due "_law_due" = true) (xk_l_due : PySem.W.keepIn K (.ref f_l_due) = true)
    {f_l_is_due : Addr} {o_l_is_due n_l_is_due : Option Addr} {v_l_is_due : Array (Option Value)} {c_l_is_due k_l_is_due e_l_is_due m_l_is_due r_l_is_due t_l_is_due : Value}
    (xa_l_is_due : PySem.W.nsIn K mainGlobals "_law_is_due" = some (some (.ref f_l_is_due))) (xl_l_is_due : K.lookup f_l_is_due = some ⟨c_l_is_due, o_l_is_due, .func (PySem.W.fnOf "_law_is_due" "_law_is_due" (defArgs s_l_is_due) (defBody s_l_is_due) (defScope s_l_is_due) .none k_l_is_due e_l_is_due m_l_is_due n_l_is_due r_l_is_due t_l_is_due), v_l_is_due⟩) (xc_l_is_due : PySem.W.codeIn K r_l_is_due "_law_is_due" = true) (xk_l_is_due : PySem.W.keepIn K (.ref f_l_is_due) = true)
    {f_l_holds : Addr} {o_l_holds n_l_holds : Option Addr} {v_l_holds : Array (Option Value)} {c_l_holds k_l_holds e_l_holds m_l_holds r_l_holds t_l_holds : Value}
    (xa_l_holds : PySem.W.nsIn K mainGlobals "_law_holds" = some (some (.ref f_l_holds))) (xl_l_holds : K.lookup f_l_holds = some ⟨c_l_holds, o_l_holds, .func (PySem.W.fnOf "_law_holds" "_law_holds" (defArgs s_l_holds) (defBody s_l_holds) (defScope s_l_holds) .none k_l_holds e_l_holds m_l_holds n_l_holds r_l_holds t_l_holds), v_l_holds⟩) (xc_l_holds : PySem.W.codeIn K r_l_holds "_law_holds" = true) (xk_l_holds : PySem.W.keepIn K (.ref f_l_holds) = true)
    {f_l_bent_word : Addr} {o_l_bent_word n_l_bent_word : Option Addr} {v_l_bent_word : Array (Option Value)} {c_l_bent_word k_l_bent_word e_l_bent_word m_l_bent_word r_l_bent_word t_l_bent_word : Value}
    (xa_l_bent_word : PySem.W.nsIn K mainGlobals "_law_bent_word" = some (some (.ref f_l_bent_word))) (xl_l_bent_word : K.lookup f_l_bent_word = some ⟨c_l_bent_word, o_l_bent_word, .func (PySem.W.fnOf "_law_bent_word" "_law_bent_word" (defArgs s_l_bent_word) (defBody s_l_bent_word) (defScope s_l_bent_word) .none k_l_bent_word e_l_bent_word m_l_bent_word n_l_bent_word r_l_bent_word t_l_bent_word), v_l_bent_word⟩) (xc_l_bent_word : PySem.W.codeIn K r_l_bent_word "_law_bent_word" = true) (xk_l_bent_word : PySem.W.keepIn K (.ref f_l_bent_word) = true)
    {f_l_bent_number : Addr} {o_l_bent_number n_l_bent_number : Option Addr} {v_l_bent_number : Array (Option Value)} {c_l_bent_number k_l_bent_number e_l_bent_number m_l_bent_number r_l_bent_number t_l_bent_number : Value}
    (xa_l_bent_number : PySem.W.nsIn K mainGlobals "_law_bent_number" = some (some (.ref f_l_bent_number))) (xl_l_bent_number : K.lookup f_l_bent_number = some ⟨c_l_bent_number, o_l_bent_number, .func (PySem.W.fnOf "_law_bent_number" "_law_bent_number" (defArgs s_l_bent_number) (defBody s_l_bent_number) (defScope s_l_bent_number) .none k_l_bent_number e_l_bent_number m_l_bent_number n_l_bent_number r_l_bent_number t_l_bent_number), v_l_bent_number⟩) (xc_l_bent_number : PySem.W.codeIn K r_l_bent_number "_law_bent_number" = true) (xk_l_bent_number : PySem.W.keepIn K (.ref f_l_bent_number) = true)
    {f_l_bent_state : Addr} {o_l_bent_state n_l_bent_state : Option Addr} {v_l_bent_state : Array (Option Value)} {c_l_bent_state k_l_bent_state e_l_bent_state m_l_bent_state r_l_bent_state t_l_bent_state : Value}
    (xa_l_bent_state : PySem.W.nsIn K mainGlobals "_law_bent_state" = some (some (.ref f_l_bent_state))) (xl_l_bent_state : K.lookup f_l_bent_state = some ⟨c_l_bent_state, o_l_bent_state, .func (PySem.W.fnOf "_law_bent_state" "_law_bent_state" (defArgs s_l_bent_state) (defBody s_l_bent_state) (defScope s_l_bent_state) .none k_l_bent_state e_l_bent_state m_l_bent_state n_l_bent_state r_l_bent_state t_l_bent_state), v_l_bent_state⟩) (xc_l_bent_state : PySem.W.codeIn K r_l_bent_state "_law_bent_state" = true) (xk_l_bent_state : PySem.W.keepIn K (.ref f_l_bent_state) = true)
    {f_l_plain_same : Addr} {o_l_plain_same n_l_plain_same : Option Addr} {v_l_plain_same : Array (Option Value)} {c_l_plain_same k_l_plain_same e_l_plain_same m_l_plain_same r_l_plain_same t_l_plain_same : Value}
    (xa_l_plain_same : PySem.W.nsIn K mainGlobals "_law_plain_same" = some (some (.ref f_l_plain_same))) (xl_l_plain_same : K.lookup f_l_plain_same = some ⟨c_l_plain_same, o_l_plain_same, .func (PySem.W.fnOf "_law_plain_same" "_law_plain_same" (defArgs s_l_plain_same) (defBody s_l_plain_same) (defScope s_l_plain_same) .none k_l_plain_same e_l_plain_same m_l_plain_same n_l_plain_same r_l_plain_same t_l_plain_same), v_l_plain_same⟩) (xc_l_plain_same : PySem.W.codeIn K r_l_plain_same "_law_plain_same" = true) (xk_l_plain_same : PySem.W.keepIn K (.ref f_l_plain_same) = true)
    {f_l_plain_copy : Addr} {o_l_plain_copy n_l_plain_copy : Option Addr} {v_l_plain_copy : Array (Option Value)} {c_l_plain_copy k_l_plain_copy e_l_plain_copy m_l_plain_copy r_l_plain_copy t_l_plain_copy : Value}
    (xa_l_plain_copy : PySem.W.nsIn K mainGlobals "_law_plain_copy" = some (some (.ref f_l_plain_copy))) (xl_l_plain_copy : K.lookup f_l_plain_copy = some ⟨c_l_plain_copy, o_l_plain_copy, .func (PySem.W.fnOf "_law_plain_copy" "_law_plain_copy" (defArgs s_l_plain_copy) (defBody s_l_plain_copy) (defScope s_l_plain_copy) .none k_l_plain_copy e_l_plain_copy m_l_plain_copy n_l_plain_copy r_l_plain_copy t_l_plain_copy), v_l_plain_copy⟩) (xc_l_plain_copy : PySem.W.codeIn K r_l_plain_copy "_law_plain_copy" = true) (xk_l_plain_copy : PySem.W.keepIn K (.ref f_l_plain_copy) = true)
    {f_l_bent_ones : Addr} {o_l_bent_ones n_l_bent_ones : Option Addr} {v_l_bent_ones : Array (Option Value)} {c_l_bent_ones k_l_bent_ones e_l_bent_ones m_l_bent_ones r_l_bent_ones t_l_bent_ones : Value}
    (xa_l_bent_ones : PySem.W.nsIn K mainGlobals "_law_bent_ones" = some (some (.ref f_l_bent_ones))) (xl_l_bent_ones : K.lookup f_l_bent_ones = some ⟨c_l_bent_ones, o_l_bent_ones, .func (PySem.W.fnOf "_law_bent_ones" "_law_bent_ones" (defArgs s_l_bent_ones) (defBody s_l_bent_ones) (defScope s_l_bent_ones) .none k_l_bent_ones e_l_bent_ones m_l_bent_ones n_l_bent_ones r_l_bent_ones t_l_bent_ones), v_l_bent_ones⟩) (xc_l_bent_ones : PySem.W.codeIn K r_l_bent_ones "_law_bent_ones" = true) (xk_l_bent_ones : PySem.W.keepIn K (.ref f_l_bent_ones) = true)
    {f_l_other_things : Addr} {o_l_other_things n_l_other_things : Option Addr} {v_l_other_things : Array (Option Value)} {c_l_other_things k_l_other_things e_l_other_things m_l_other_things r_l_other_things t_l_other_things : Value}
    (xa_l_other_things : PySem.W.nsIn K mainGlobals "_law_other_things" = some (some (.ref f_l_other_things))) (xl_l_other_things : K.lookup f_l_other_things = some ⟨c_l_other_things, o_l_other_things, .func (PySem.W.fnOf "_law_other_things" "_law_other_things" (defArgs s_l_other_things) (defBody s_l_other_things) (defScope s_l_other_things) .none k_l_other_things e_l_other_things m_l_other_things n_l_other_things r_l_other_things t_l_other_things), v_l_other_things⟩) (xc_l_other_things : PySem.W.codeIn K r_l_other_things "_law_other_things" = true) (xk_l_other_things : PySem.W.keepIn K (.ref f_l_other_things) = true)
    {f_l_names : Addr} {o_l_names n_l_names : Option Addr} {v_l_names : Array (Option Value)} {c_l_names k_l_names e_l_names m_l_names r_l_names t_l_names : Value}
    (xa_l_names : PySem.W.nsIn K mainGlobals "_law_names" = some (some (.ref f_l_names))) (xl_l_names : K.lookup f_l_names = some ⟨c_l_names, o_l_names, .func (PySem.W.fnOf "_law_names" "_law_names" (defArgs s_l_names) (defBody s_l_names) (defScope s_l_names) .none k_l_names e_l_names m_l_names n_l_names r_l_names t_l_names), v_l_names⟩) (xc_l_names : PySem.W.codeIn K r_l_names "_law_names" = true) (xk_l_names : PySem.W.keepIn K (.ref f_l_names) = true)
    {f_l_flags : Addr} {o_l_flags n_l_flags : Option Addr} {v_l_flags : Array (Option Value)} {c_l_flags k_l_flags e_l_flags m_l_flags r_l_flags t_l_flags : Value}
    (xa_l_flags : PySem.W.nsIn K mainGlobals "_law_flags" = some (some (.ref f_l_flags))) (xl_l_flags : K.lookup f_l_flags = some ⟨c_l_flags, o_l_flags, .func (PySem.W.fnOf "_law_flags" "_law_flags" (defArgs s_l_flags) (defBody s_l_flags) (defScope s_l_flags) .none k_l_flags e_l_flags m_l_flags n_l_flags r_l_flags t_l_flags), v_l_flags⟩) (xc_l_flags : PySem.W.codeIn K r_l_flags "_law_flags" = true) (xk_l_flags : PySem.W.keepIn K (.ref f_l_flags) = true)
    {f_l_other_signs : Addr} {o_l_other_signs n_l_other_signs : Option Addr} {v_l_other_signs : Array (Option Value)} {c_l_other_signs k_l_other_signs e_l_other_signs m_l_other_signs r_l_other_signs t_l_other_signs : Value}
    (xa_l_other_signs : PySem.W.nsIn K mainGlobals "_law_other_signs" = some (some (.ref f_l_other_signs))) (xl_l_other_signs : K.lookup f_l_other_signs = some ⟨c_l_other_signs, o_l_other_signs, .func (PySem.W.fnOf "_law_other_signs" "_law_other_signs" (defArgs s_l_other_signs) (defBody s_l_other_signs) (defScope s_l_other_signs) .none k_l_other_signs e_l_other_signs m_l_other_signs n_l_other_signs r_l_other_signs t_l_other_signs), v_l_other_signs⟩) (xc_l_other_signs : PySem.W.codeIn K r_l_other_signs "_law_other_signs" = true) (xk_l_other_signs : PySem.W.keepIn K (.ref f_l_other_signs) = true)
    {f_l_long : Addr} {o_l_long n_l_long : Option Addr} {v_l_long : Array (Option Value)} {c_l_long k_l_long e_l_long m_l_long r_l_long t_l_long : Value}
    (xa_l_long : PySem.W.nsIn K mainGlobals "_law_long" = some (some (.ref f_l_long))) (xl_l_long : K.lookup f_l_long = some ⟨c_l_long, o_l_long, .func (PySem.W.fnOf "_law_long" "_law_long" (defArgs s_l_long) (defBody s_l_long) (defScope s_l_long) .none k_l_long e_l_long m_l_long n_l_long r_l_long t_l_long), v_l_long⟩) (xc_l_long : PySem.W.codeIn K r_l_long "_law_long" = true) (xk_l_long : PySem.W.keepIn K (.ref f_l_long) = true)
    {f_l_great : Addr} {o_l_great n_l_great : Option Addr} {v_l_great : Array (Option Value)} {c_l_great k_l_great e_l_great m_l_great r_l_great t_l_great : Value}
    (xa_l_great : PySem.W.nsIn K mainGlobals "_law_great" = some (some (.ref f_l_great))) (xl_l_great : K.lookup f_l_great = some ⟨c_l_great, o_l_great, .func (PySem.W.fnOf "_law_great" "_law_great" (defArgs s_l_great) (defBody s_l_great) (defScope s_l_great) .none k_l_great e_l_great m_l_great n_l_great r_l_great t_l_great), v_l_great⟩) (xc_l_great : PySem.W.codeIn K r_l_great "_law_great" = true) (xk_l_great : PySem.W.keepIn K (.ref f_l_great) = true)
    {f_l_vast : Addr} {o_l_vast n_l_vast : Option Addr} {v_l_vast : Array (Option Value)} {c_l_vast k_l_vast e_l_vast m_l_vast r_l_vast t_l_vast : Value}
    (xa_l_vast : PySem.W.nsIn K mainGlobals "_law_vast" = some (some (.ref f_l_vast))) (xl_l_vast : K.lookup f_l_vast = some ⟨c_l_vast, o_l_vast, .func (PySem.W.fnOf "_law_vast" "_law_vast" (defArgs s_l_vast) (defBody s_l_vast) (defScope s_l_vast) .none k_l_vast e_l_vast m_l_vast n_l_vast r_l_vast t_l_vast), v_l_vast⟩) (xc_l_vast : PySem.W.codeIn K r_l_vast "_law_vast" = true) (xk_l_vast : PySem.W.keepIn K (.ref f_l_vast) = true)
    {f_l_deep : Addr} {o_l_deep n_l_deep : Option Addr} {v_l_deep : Array (Option Value)} {c_l_deep k_l_deep e_l_deep m_l_deep r_l_deep t_l_deep : Value}
    (xa_l_deep : PySem.W.nsIn K mainGlobals "_law_deep" = some (some (.ref f_l_deep))) (xl_l_deep : K.lookup f_l_deep = some ⟨c_l_deep, o_l_deep, .func (PySem.W.fnOf "_law_deep" "_law_deep" (defArgs s_l_deep) (defBody s_l_deep) (defScope s_l_deep) .none k_l_deep e_l_deep m_l_deep n_l_deep r_l_deep t_l_deep), v_l_deep⟩) (xc_l_deep : PySem.W.codeIn K r_l_deep "_law_deep" = true) (xk_l_deep : PySem.W.keepIn K (.ref f_l_deep) = true)
    {f_law : Addr} {o_law n_law : Option Addr} {v_law : Array (Option Value)} {c_law k_law e_law m_law r_law t_law : Value}
    (xa_law : PySem.W.nsIn K mainGlobals "law" = some (some (.ref f_law))) (xl_law : K.lookup f_law = some ⟨c_law, o_law, .func (PySem.W.fnOf "law" "law" (defArgs s_law) (defBody s_law) (defScope s_law) .none k_law e_law m_law n_law r_law t_law), v_law⟩) (xc_law : PySem.W.codeIn K r_law "law" = true) (xk_law : PySem.W.keepIn K (.ref f_law) = true)
    (xz_abs : PySem.W.nsIn K mainGlobals "abs" = some none)
    (xz_all : PySem.W.nsIn K mainGlobals "all" = some none)
    (xz_bool : PySem.W.nsIn K mainGlobals "bool" = some none)
    (xz_enumerate : PySem.W.nsIn K mainGlobals "enumerate" = some none)
    (xz_int : PySem.W.nsIn K mainGlobals "int" = some none)
    (xz_isinstance : PySem.W.nsIn K mainGlobals "isinstance" = some none)
    (xz_len : PySem.W.nsIn K mainGlobals "len" = some none)
    (xz_list : PySem.W.nsIn K mainGlobals "list" = some none)
    (xz_range : PySem.W.nsIn K mainGlobals "range" = some none)
    (xz_str : PySem.W.nsIn K mainGlobals "str" = some none)
    (xz_tuple : PySem.W.nsIn K mainGlobals "tuple" = some none)
    {c_BadName : Addr} (ya_BadName : PySem.W.nsIn K mainGlobals "BadName" = some (some (.ref c_BadName)))
    {c_BadMachine : Addr} (ya_BadMachine : PySem.W.nsIn K mainGlobals "BadMachine" = some (some (.ref c_BadMachine)))
    {c_HeardError : Addr} (ya_HeardError : PySem.W.nsIn K mainGlobals "HeardError" = some (some (.ref c_HeardError)))
    {c_BadProgram : Addr} (ya_BadProgram : PySem.W.nsIn K mainGlobals "BadProgram" = some (some (.ref c_BadProgram)))
    {c_BadRow : Addr} (ya_BadRow : PySem.W.nsIn K mainGlobals "BadRow" = some (some (.ref c_BadRow)))
    {c_BadSetting : Addr} (ya_BadSetting : PySem.W.nsIn K mainGlobals "BadSetting" = some (some (.ref c_BadSetting)))
    {c_BadText : Addr} (ya_BadText : PySem.W.nsIn K mainGlobals "BadText" = some (some (.ref c_BadText)))
    {i_BadName : Addr} {q_BadName : Str} (yi_BadName : PySem.W.findIn K (.ref c_BadName) "__init__" = some (some (.ref i_BadName))) (yb_BadName : SxK Pr K c_BadName i_BadName [("at" : Str)]) (yf_BadName : PySem.SxX.Fn_at Pr K c_BadName i_BadName q_BadName)
    {i_BadMachine : Addr} {q_BadMachine : Str} (yi_BadMachine : PySem.W.findIn K (.ref c_BadMachine) "__init__" = some (some (.ref i_BadMachine))) (yb_BadMachine : SxK Pr K c_BadMachine i_BadMachine [("at" : Str), ("word" : Str)]) (yf_BadMachine : PySem.SxX.Fn_at_word Pr K c_BadMachine i_BadMachine q_BadMachine)
    (yq : PySem.W.nsIn K cStatics "thirdparty.any" = some none) (yS : PySem.W.nsIn K mainGlobals "super" = some none) (yT : (Pr.main.scope.names.lookup ("super" : Str)).isSome = false)
    (ze_BadName_BadName : PySem.W.exmOne K (.ref c_BadName) (.ref c_BadName) = some true)
    (ze_BadName_BadMachine : PySem.W.exmOne K (.ref c_BadMachine) (.ref c_BadName) = some false)
    (ze_HeardError_BadName : PySem.W.exmOne K (.ref c_BadName) (.ref c_HeardError) = some true)
    (ze_HeardError_BadMachine : PySem.W.exmOne K (.ref c_BadMachine) (.ref c_HeardError) = some true)
    (zx_BadName : excB K c_BadName = true)
    (zx_BadMachine : excB K c_BadMachine = true)
    (zk_BadMachine_BadName : PySem.W.kitOne K (.ref c_BadName) (.ref c_BadMachine) = some false)
    (zk_BadMachine_BadMachine : PySem.W.kitOne K (.ref c_BadMachine) (.ref c_BadMachine) = some true)
    (zk_BadProgram_BadName : PySem.W.kitOne K (.ref c_BadName) (.ref c_BadProgram) = some false)
    (zk_BadProgram_BadMachine : PySem.W.kitOne K (.ref c_BadMachine) (.ref c_BadProgram) = some false)
    (zk_BadRow_BadName : PySem.W.kitOne K (.ref c_BadName) (.ref c_BadRow) = some false)
    (zk_BadRow_BadMachine : PySem.W.kitOne K (.ref c_BadMachine) (.ref c_BadRow) = some false)
    (zk_BadSetting_BadName : PySem.W.kitOne K (.ref c_BadName) (.ref c_BadSetting) = some false)
    (zk_BadSetting_BadMachine : PySem.W.kitOne K (.ref c_BadMachine) (.ref c_BadSetting) = some false)
    (zk_BadText_BadName : PySem.W.kitOne K (.ref c_BadName) (.ref c_BadText) = some false)
    (zk_BadText_BadMachine : PySem.W.kitOne K (.ref c_BadMachine) (.ref c_BadText) = some false)
    {u_NAME_MOST : Value} (yg_NAME_MOST : PySem.W.nsIn K mainGlobals "NAME_MOST" = some (some u_NAME_MOST)) (yr_NAME_MOST : readD K 3 u_NAME_MOST = some gc_NAME_MOST)
    {u_NO_NAMES : Value} (yg_NO_NAMES : PySem.W.nsIn K mainGlobals "NO_NAMES" = some (some u_NO_NAMES)) (yr_NO_NAMES : readD K 3 u_NO_NAMES = some gc_NO_NAMES)
    {u_LETTERS : Value} (yg_LETTERS : PySem.W.nsIn K mainGlobals "LETTERS" = some (some u_LETTERS)) (yr_LETTERS : readD K 3 u_LETTERS = some gc_LETTERS)
    {u_FIGURES : Value} (yg_FIGURES : PySem.W.nsIn K mainGlobals "FIGURES" = some (some u_FIGURES)) (yr_FIGURES : readD K 3 u_FIGURES = some gc_FIGURES)
    {u_STATES_MOST : Value} (yg_STATES_MOST : PySem.W.nsIn K mainGlobals "STATES_MOST" = some (some u_STATES_MOST)) (yr_STATES_MOST : readD K 3 u_STATES_MOST = some gc_STATES_MOST)
    (yx_BadMachine : xfB K c_BadMachine = true) : Tx Pr K mg where
  a_l_jar := f_l_jar
  d_l_jar := _
  p_l_jar := ⟨fun_mk (st := s_l_jar) xl_l_jar xc_l_jar xk_l_jar, (fun_mk (st := s_l_jar) xl_l_jar xc_l_jar xk_l_jar).binds (ps := ["script"]) fun _ _ _ _ _ _ us hl => match us, hl with | [_], _ => rfl, PySem.W.mg_of X G xa_l_jar⟩
  a_l_draw := f_l_draw
  d_l_draw := _
  p_l_draw := ⟨fun_mk (st := s_l_draw) xl_l_draw xc_l_draw xk_l_draw, (fun_mk (st := s_l_draw) xl_l_draw xc_l_draw xk_l_draw).binds (ps := ["jar", "many"]) fun _ _ _ _ _ _ us hl => match us, hl with | [_, _], _ => rfl, PySem.W.mg_of X G xa_l_draw⟩
  a_l_reserved := f_l_reserved
  d_l_reserved := _
  p_l_reserved := ⟨fun_mk (st := s_l_reserved) xl_l_reserved xc_l_reserved xk_l_reserved, (fun_mk (st := s_l_reserved) xl_l_reserved xc_l_reserved xk_l_reserved).binds (ps := []) fun _ _ _ _ _ _ us hl => match us, hl with | [], _ => rfl, PySem.W.mg_of X G xa_l_reserved⟩
  a_l_is_name := f_l_is_name
  d_l_is_name := _
  p_l_is_name := ⟨fun_mk (st := s_l_is_name) xl_l_is_name xc_l_is_name xk_l_is_name, (fun_mk (st := s_l_is_name) xl_l_is_name xc_l_is_name xk_l_is_name).binds (ps := ["word"]) fun _ _ _ _ _ _ us hl => match us, hl with | [_], _ => rfl, PySem.W.mg_of X G xa_l_is_name⟩
  a_l_name := f_l_name
  d_l_name := _
  p_l_name := ⟨fun_mk (st := s_l_name) xl_l_name xc_l_name xk_l_name, (fun_mk (st := s_l_name) xl_l_name xc_l_name xk_l_name).binds (ps := ["jar"]) fun _ _ _ _ _ _ us hl => match us, hl with | [_], _ => rfl, PySem.W.mg_of X G xa_l_name⟩
  a_l_setting := f_l_setting
  d_l_setting := _
  p_l_setting := ⟨fun_mk (st := s_l_setting) xl_l_setting xc_l_setting xk_l_setting, (fun_mk (st := s_l_setting) xl_l_setting xc_l_setting xk_l_setting).binds (ps := ["jar", "many"]) fun _ _ _ _ _ _ us hl => match us, hl with | [_, _], _ => rfl, PySem.W.mg_of X G xa_l_setting⟩
  a_l_machine := f_l_machine
  d_l_machine := _
  p_l_machine := ⟨fun_mk (st := s_l_machine) xl_l_machine xc_l_machine xk_l_machine, (fun_mk (st := s_l_machine) xl_l_machine xc_l_machine xk_l_machine).binds (ps := ["jar", "signs", "many"]) fun _ _ _ _ _ _ us hl => match us, hl with | [_, _, _], _ => rfl, PySem.W.mg_of X G xa_l_machine⟩
  a_is_integer := f_is_integer
  d_is_integer := _
  p_is_integer := ⟨fun_mk (st := s_is_integer) xl_is_integer xc_is_integer xk_is_integer, (fun_mk (st := s_is_integer) xl_is_integer xc_is_integer xk_is_integer).binds (ps := ["thing"]) fun _ _ _ _ _ _ us hl => match us, hl with | [_], _ => rfl, PySem.W.mg_of X G xa_is_integer⟩
  a_integer_within := f_integer_within
  d_integer_within := _
  p_integer_within := ⟨fun_mk (st := s_integer_within) xl_integer_within xc_integer_within xk_integer_within, (fun_mk (st := s_integer_within) xl_integer_within xc_integer_within xk_integer_within).binds (ps := ["thing", "low", "high"]) fun _ _ _ _ _ _ us hl => match us, hl with | [_, _, _], _ => rfl, PySem.W.mg_of X G xa_integer_within⟩
  a_is_number := f_is_number
  d_is_number := _
  p_is_number := ⟨fun_mk (st := s_is_number) xl_is_number xc_is_number xk_is_number, (fun_mk (st := s_is_number) xl_is_number xc_is_number xk_is_number).binds (ps := ["thing", "many"]) fun _ _ _ _ _ _ us hl => match us, hl with | [_, _], _ => rfl, PySem.W.mg_of X G xa_is_number⟩
  a_tuple_of := f_tuple_of
  d_tuple_of := _
  p_tuple_of := ⟨fun_mk (st := s_tuple_of) xl_tuple_of xc_tuple_of xk_tuple_of, (fun_mk (st := s_tuple_of) xl_tuple_of xc_tuple_of xk_tuple_of).binds (ps := ["thing", "many"]) fun _ _ _ _ _ _ us hl => match us, hl with | [_, _], _ => rfl, PySem.W.mg_of X G xa_tuple_of⟩
  a_check_name := f_check_name
  d_check_name := _
  p_check_name := ⟨fun_mk (st := s_check_name) xl_check_name xc_check_name xk_check_name, (fun_mk (st := s_check_name) xl_check_name xc_check_name xk_check_name).binds (ps := ["thing"]) fun _ _ _ _ _ _ us hl => match us, hl with | [_], _ => rfl, PySem.W.mg_of X G xa_check_name⟩
  a_is_name := f_is_name
  d_is_name := _
  p_is_name := ⟨fun_mk (st := s_is_name) xl_is_name xc_is_name xk_is_name, (fun_mk (st := s_is_name) xl_is_name xc_is_name xk_is_name).binds (ps := ["thing"]) fun _ _ _ _ _ _ us hl => match us, hl with | [_], _ => rfl, PySem.W.mg_of X G xa_is_name⟩
  a_is_state := f_is_state
  d_is_state := _
  p_is_state := ⟨fun_mk (st := s_is_state) xl_is_state xc_is_state xk_is_state, (fun_mk (st := s_is_state) xl_is_state xc_is_state xk_is_state).binds (ps := ["many", "states", "thing"]) fun _ _ _ _ _ _ us hl => match us, hl with | [_, _, _], _ => rfl, PySem.W.mg_of X G xa_is_state⟩
  a_check_machine := f_check_machine
  d_check_machine := _
  p_check_machine := ⟨fun_mk (st := s_check_machine) xl_check_machine xc_check_machine xk_check_machine, (fun_mk (st := s_check_machine) xl_check_machine xc_check_machine xk_check_machine).binds (ps := ["setting", "thing"]) fun _ _ _ _ _ _ us hl => match us, hl with | [_, _], _ => rfl, PySem.W.mg_of X G xa_check_machine⟩
  a_l_ask := f_l_ask
  d_l_ask := _
  p_l_ask := ⟨fun_mk (st := s_l_ask) xl_l_ask xc_l_ask xk_l_ask, (fun_mk (st := s_l_ask) xl_l_ask xc_l_ask xk_l_ask).binds (ps := ["setting", "thing", "named"]) fun _ _ _ _ _ _ us hl => match us, hl with | [_, _, _], _ => rfl, PySem.W.mg_of X G xa_l_ask⟩
  a_l_fits := f_l_fits
  d_l_fits := _
  p_l_fits := ⟨fun_mk (st := s_l_fits) xl_l_fits xc_l_fits xk_l_fits, (fun_mk (st := s_l_fits) xl_l_fits xc_l_fits xk_l_fits).binds (ps := ["told", "due"]) fun _ _ _ _ _ _ us hl => match us, hl with | [_, _], _ => rfl, PySem.W.mg_of X G xa_l_fits⟩
  a_is_machine := f_is_machine
  d_is_machine := _
  p_is_machine := ⟨fun_mk (st := s_is_machine) xl_is_machine xc_is_machine xk_is_machine, (fun_mk (st := s_is_machine) xl_is_machine xc_is_machine xk_is_machine).binds (ps := ["setting", "thing"]) fun _ _ _ _ _ _ us hl => match us, hl with | [_, _], _ => rfl, PySem.W.mg_of X G xa_is_machine⟩
  a_l_whether := f_l_whether
  d_l_whether := _
  p_l_whether := ⟨fun_mk (st := s_l_whether) xl_l_whether xc_l_whether xk_l_whether, (fun_mk (st := s_l_whether) xl_l_whether xc_l_whether xk_l_whether).binds (ps := ["setting", "thing", "due", "named"]) fun _ _ _ _ _ _ us hl => match us, hl with | [_, _, _, _], _ => rfl, PySem.W.mg_of X G xa_l_whether⟩
  a_l_stands := f_l_stands
  d_l_stands := _
  p_l_stands := ⟨fun_mk (st := s_l_stands) xl_l_stands xc_l_stands xk_l_stands, (fun_mk (st := s_l_stands) xl_l_stands xc_l_stands xk_l_stands).binds (ps := ["state", "signs", "many"]) fun _ _ _ _ _ _ us hl => match us, hl with | [_, _, _], _ => rfl, PySem.W.mg_of X G xa_l_stands⟩
  a_l_first_bad := f_l_first_bad
  d_l_first_bad := _
  p_l_first_bad := ⟨fun_mk (st := s_l_first_bad) xl_l_first_bad xc_l_first_bad xk_l_first_bad, (fun_mk (st := s_l_first_bad) xl_l_first_bad xc_l_first_bad xk_l_first_bad).binds (ps := ["signs", "thing"]) fun _ _ _ _ _ _ us hl => match us, hl with | [_, _], _ => rfl, PySem.W.mg_of X G xa_l_first_bad⟩
  a_l_due := f_l_due
  d_l_due := _
  p_l_due := ⟨fun_mk (st := s_l_due) xl_l_due xc_l_due xk_l_due, (fun_mk (st := s_l_due) xl_l_due xc_l_due xk_l_due).binds (ps := ["signs", "thing"]) fun _ _ _ _ _ _ us hl => match us, hl with | [_, _], _ => rfl, PySem.W.mg_of X G xa_l_due⟩
  a_l_is_due := f_l_is_due
  d_l_is_due := _
  p_l_is_due := ⟨fun_mk (st := s_l_is_due) xl_l_is_due xc_l_is_due xk_l_is_due, (fun_mk (st := s_l_is_due) xl_l_is_due xc_l_is_due xk_l_is_due).binds (ps := ["signs", "thing"]) fun _ _ _ _ _ _ us hl => match us, hl with | [_, _], _ => rfl, PySem.W.mg_of X G xa_l_is_due⟩
  a_l_holds := f_l_holds
  d_l_holds := _
  p_l_holds := ⟨fun_mk (st := s_l_holds) xl_l_holds xc_l_holds xk_l_holds, (fun_mk (st := s_l_holds) xl_l_holds xc_l_holds xk_l_holds).binds (ps := ["setting", "thing", "named"]) fun _ _ _ _ _ _ us hl => match us, hl with | [_, _, _], _ => rfl, PySem.W.mg_of X G xa_l_holds⟩
  a_l_bent_word := f_l_bent_word
  d_l_bent_word := _
  p_l_bent_word := ⟨fun_mk (st := s_l_bent_word) xl_l_bent_word xc_l_bent_word xk_l_bent_word, (fun_mk (st := s_l_bent_word) xl_l_bent_word xc_l_bent_word xk_l_bent_word).binds (ps := ["jar", "word", "way"]) fun _ _ _ _ _ _ us hl => match us, hl with | [_, _, _], _ => rfl, PySem.W.mg_of X G xa_l_bent_word⟩
  a_l_bent_number := f_l_bent_number
  d_l_bent_number := _
  p_l_bent_number := ⟨fun_mk (st := s_l_bent_number) xl_l_bent_number xc_l_bent_number xk_l_bent_number, (fun_mk (st := s_l_bent_number) xl_l_bent_number xc_l_bent_number xk_l_bent_number).binds (ps := ["jar", "many", "way"]) fun _ _ _ _ _ _ us hl => match us, hl with | [_, _, _], _ => rfl, PySem.W.mg_of X G xa_l_bent_number⟩
  a_l_bent_state := f_l_bent_state
  d_l_bent_state := _
  p_l_bent_state := ⟨fun_mk (st := s_l_bent_state) xl_l_bent_state xc_l_bent_state xk_l_bent_state, (fun_mk (st := s_l_bent_state) xl_l_bent_state xc_l_bent_state xk_l_bent_state).binds (ps := ["jar", "state", "many", "way"]) fun _ _ _ _ _ _ us hl => match us, hl with | [_, _, _, _], _ => rfl, PySem.W.mg_of X G xa_l_bent_state⟩
  a_l_plain_same := f_l_plain_same
  d_l_plain_same := _
  p_l_plain_same := ⟨fun_mk (st := s_l_plain_same) xl_l_plain_same xc_l_plain_same xk_l_plain_same, (fun_mk (st := s_l_plain_same) xl_l_plain_same xc_l_plain_same xk_l_plain_same).binds (ps := ["one", "other"]) fun _ _ _ _ _ _ us hl => match us, hl with | [_, _], _ => rfl, PySem.W.mg_of X G xa_l_plain_same⟩
  a_l_plain_copy := f_l_plain_copy
  d_l_plain_copy := _
  p_l_plain_copy := ⟨fun_mk (st := s_l_plain_copy) xl_l_plain_copy xc_l_plain_copy xk_l_plain_copy, (fun_mk (st := s_l_plain_copy) xl_l_plain_copy xc_l_plain_copy xk_l_plain_copy).binds (ps := ["thing"]) fun _ _ _ _ _ _ us hl => match us, hl with | [_], _ => rfl, PySem.W.mg_of X G xa_l_plain_copy⟩
  a_l_bent_ones := f_l_bent_ones
  d_l_bent_ones := _
  p_l_bent_ones := ⟨fun_mk (st := s_l_bent_ones) xl_l_bent_ones xc_l_bent_ones xk_l_bent_ones, (fun_mk (st := s_l_bent_ones) xl_l_bent_ones xc_l_bent_ones xk_l_bent_ones).binds (ps := ["jar", "setting", "machine"]) fun _ _ _ _ _ _ us hl => match us, hl with | [_, _, _], _ => rfl, PySem.W.mg_of X G xa_l_bent_ones⟩
  a_l_other_things := f_l_other_things
  d_l_other_things := _
  p_l_other_things := ⟨fun_mk (st := s_l_other_things) xl_l_other_things xc_l_other_things xk_l_other_things, (fun_mk (st := s_l_other_things) xl_l_other_things xc_l_other_things xk_l_other_things).binds (ps := ["jar", "setting", "machine"]) fun _ _ _ _ _ _ us hl => match us, hl with | [_, _, _], _ => rfl, PySem.W.mg_of X G xa_l_other_things⟩
  a_l_names := f_l_names
  d_l_names := _
  p_l_names := ⟨fun_mk (st := s_l_names) xl_l_names xc_l_names xk_l_names, (fun_mk (st := s_l_names) xl_l_names xc_l_names xk_l_names).binds (ps := ["jar", "setting"]) fun _ _ _ _ _ _ us hl => match us, hl with | [_, _], _ => rfl, PySem.W.mg_of X G xa_l_names⟩
  a_l_flags := f_l_flags
  d_l_flags := _
  p_l_flags := ⟨fun_mk (st := s_l_flags) xl_l_flags xc_l_flags xk_l_flags, (fun_mk (st := s_l_flags) xl_l_flags xc_l_flags xk_l_flags).binds (ps := ["setting", "signs", "machine"]) fun _ _ _ _ _ _ us hl => match us, hl with | [_, _, _], _ => rfl, PySem.W.mg_of X G xa_l_flags⟩
  a_l_other_signs := f_l_other_signs
  d_l_other_signs := _
  p_l_other_signs := ⟨fun_mk (st := s_l_other_signs) xl_l_other_signs xc_l_other_signs xk_l_other_signs, (fun_mk (st := s_l_other_signs) xl_l_other_signs xc_l_other_signs xk_l_other_signs).binds (ps := ["jar", "signs", "machine"]) fun _ _ _ _ _ _ us hl => match us, hl with | [_, _, _], _ => rfl, PySem.W.mg_of X G xa_l_other_signs⟩
  a_l_long := f_l_long
  d_l_long := _
  p_l_long := ⟨fun_mk (st := s_l_long) xl_l_long xc_l_long xk_l_long, (fun_mk (st := s_l_long) xl_l_long xc_l_long xk_l_long).binds (ps := ["jar", "signs", "many"]) fun _ _ _ _ _ _ us hl => match us, hl with | [_, _, _], _ => rfl, PySem.W.mg_of X G xa_l_long⟩
  a_l_great := f_l_great
  d_l_great := _
  p_l_great := ⟨fun_mk (st := s_l_great) xl_l_great xc_l_great xk_l_great, (fun_mk (st := s_l_great) xl_l_great xc_l_great xk_l_great).binds (ps := ["jar", "setting", "signs"]) fun _ _ _ _ _ _ us hl => match us, hl with | [_, _, _], _ => rfl, PySem.W.mg_of X G xa_l_great⟩
  a_l_vast := f_l_vast
  d_l_vast := _
  p_l_vast := ⟨fun_mk (st := s_l_vast) xl_l_vast xc_l_vast xk_l_vast, (fun_mk (st := s_l_vast) xl_l_vast xc_l_vast xk_l_vast).binds (ps := ["jar", "setting", "signs"]) fun _ _ _ _ _ _ us hl => match us, hl with | [_, _, _], _ => rfl, PySem.W.mg_of X G xa_l_vast⟩
  a_l_deep := f_l_deep
  d_l_deep := _
  p_l_deep := ⟨fun_mk (st := s_l_deep) xl_l_deep xc_l_deep xk_l_deep, (fun_mk (st := s_l_deep) xl_l_deep xc_l_deep xk_l_deep).binds (ps := ["jar", "setting", "signs"]) fun _ _ _ _ _ _ us hl => match us, hl with | [_, _, _], _ => rfl, PySem.W.mg_of X G xa_l_deep⟩
  a_law := f_law
  d_law := _
  p_law := ⟨fun_mk (st := s_law) xl_law xc_law xk_law, (fun_mk (st := s_law) xl_law xc_law xk_law).binds (ps := ["script"]) fun _ _ _ _ _ _ us hl => match us, hl with | [_], _ => rfl, PySem.W.mg_of X G xa_law⟩
  z_abs := PySem.W.mg_none_of X G xz_abs
  z_all := PySem.W.mg_none_of X G xz_all
  z_bool := PySem.W.mg_none_of X G xz_bool
  z_enumerate := PySem.W.mg_none_of X G xz_enumerate
  z_int := PySem.W.mg_none_of X G xz_int
  z_isinstance := PySem.W.mg_none_of X G xz_isinstance
  z_len := PySem.W.mg_none_of X G xz_len
  z_list := PySem.W.mg_none_of X G xz_list
  z_range := PySem.W.mg_none_of X G xz_range
  z_str := PySem.W.mg_none_of X G xz_str
  z_tuple := PySem.W.mg_none_of X G xz_tuple
  u_NAME_MOST := u_NAME_MOST
  g_NAME_MOST := PySem.W.mg_of X G yg_NAME_MOST
  r_NAME_MOST := yr_NAME_MOST
  u_NO_NAMES := u_NO_NAMES
  g_NO_NAMES := PySem.W.mg_of X G yg_NO_NAMES
  r_NO_NAMES := yr_NO_NAMES
  u_LETTERS := u_LETTERS
  g_LETTERS := PySem.W.mg_of X G yg_LETTERS
  r_LETTERS := yr_LETTERS
  u_FIGURES := u_FIGURES
  g_FIGURES := PySem.W.mg_of X G yg_FIGURES
  r_FIGURES := yr_FIGURES
  u_STATES_MOST := u_STATES_MOST
  g_STATES_MOST := PySem.W.mg_of X G yg_STATES_MOST
  r_STATES_MOST := yr_STATES_MOST
  c_HeardError := c_HeardError
  c_BadProgram := c_BadProgram
  c_BadRow := c_BadRow
  c_BadSetting := c_BadSetting
  c_BadText := c_BadText
  c_BadName := c_BadName
  i_BadName := i_BadName
  q_BadName := q_BadName
  sx_BadName := sxc_mk X G ya_BadName yi_BadName yb_BadName yq yS yT
  fn_BadName := yf_BadName
  n_BadName := ya_BadName
  c_BadMachine := c_BadMachine
  i_BadMachine := i_BadMachine
  q_BadMachine := q_BadMachine
  sx_BadMachine := sxc_mk X G ya_BadMachine yi_BadMachine yb_BadMachine yq yS yT
  fn_BadMachine := yf_BadMachine
  n_BadMachine := ya_BadMachine
  gx_BadName := PySem.W.mg_of X G ya_BadName
  gx_HeardError := PySem.W.mg_of X G ya_HeardError
  gx_BadMachine := PySem.W.mg_of X G ya_BadMachine
  gx_BadProgram := PySem.W.mg_of X G ya_BadProgram
  gx_BadRow := PySem.W.mg_of X G ya_BadRow
  gx_BadSetting := PySem.W.mg_of X G ya_BadSetting
  gx_BadText := PySem.W.mg_of X G ya_BadText
  xm_BadName := col_mk rfl (xcol_cons ya_BadName ze_BadName_BadName (xcol_cons ya_BadMachine ze_BadName_BadMachine xcol_nil))
  xm_HeardError := col_mk rfl (xcol_cons ya_BadName ze_HeardError_BadName (xcol_cons ya_BadMachine ze_HeardError_BadMachine xcol_nil))
  km_BadMachine := kit_mk rfl (kcol_cons ya_BadName (excB_ok zx_BadName) zk_BadMachine_BadName (kcol_cons ya_BadMachine (excB_ok zx_BadMachine) zk_BadMachine_BadMachine kcol_nil))
  km_BadProgram := kit_mk rfl (kcol_cons ya_BadName (excB_ok zx_BadName) zk_BadProgram_BadName (kcol_cons ya_BadMachine (excB_ok zx_BadMachine) zk_BadProgram_BadMachine kcol_nil))
  km_BadRow := kit_mk rfl (kcol_cons ya_BadName (excB_ok zx_BadName) zk_BadRow_BadName (kcol_cons ya_BadMachine (excB_ok zx_BadMachine) zk_BadRow_BadMachine kcol_nil))
  km_BadSetting := kit_mk rfl (kcol_cons ya_BadName (excB_ok zx_BadName) zk_BadSetting_BadName (kcol_cons ya_BadMachine (excB_ok zx_BadMachine) zk_BadSetting_BadMachine kcol_nil))
  km_BadText := kit_mk rfl (kcol_cons ya_BadName (excB_ok zx_BadName) zk_BadText_BadName (kcol_cons ya_BadMachine (excB_ok zx_BadMachine) zk_BadText_BadMachine kcol_nil))
  xf_BadMachine := xfB_ok yx_BadMachine
theorem all_mk {l : PySem.W.OpenLaw} {w : World} {K : PySem.W.Frag} {h : Heap} {mg : Str → Option Value} {fa : Addr} (X : K.In h) (G : h.Ns mainGlobals mg) (hfa : mg "law" = some (.ref fa))
    {f_l_jar : Addr} {o_l_jar n_l_jar : Option Addr} {v_l_jar : Array (Option Value)} {c_l_jar k_l_jar e_l_jar m_l_jar r_l_jar t_l_jar : Value}
    (xa_l_jar : PySem.W.nsIn K mainGlobals "_law_jar" = some (some (.ref f_l_jar))) (xl_l_jar : K.lookup f_l_jar = some ⟨c_l_jar, o_l_jar, .func (PySem.W.fnOf "_law_jar" "_law_jar" (defArgs s_l_jar) (defBody s_l_jar) (defScope s_l_jar) .none k_l_jar e_l_jar m_l_jar n_l_jar r_l_jar t_l_jar), v_l_jar⟩) (xc_l_jar : PySem.W.codeIn K r_l_jar "_law_jar" = true) (xk_l_jar : PySem.W.keepIn K (.ref f_l_jar) = true)
    {f_l_draw : Addr} {o_l_draw n_l_draw : Option Addr} {v_l_draw : Array (Option Value)} {c_l_draw k_l_draw e_l_draw m_l_draw r_l_draw t_l_draw : Value}
    (xa_l_draw : PySem.W.nsIn K mainGlobals "_law_draw" = some (some (.ref f_l_draw))) (xl_l_draw : K.lookup f_l_draw = some ⟨c_l_draw, o_l_draw, .func (PySem.W.fnOf "_law_draw" "_law_draw" (defArgs s_l_draw) (defBody s_l_draw) (defScope s_l_draw) .none k_l_draw e_l_draw m_l_draw n_l_draw r_l_draw t_l_draw), v_l_draw⟩) (xc_l_draw : PySem.W.codeIn K r_l_draw "_law_draw" = true) (xk_l_draw : PySem.W.keepIn K (.ref f_l_draw) = true)
    {f_l_reserved : Addr} {o_l_reserved n_l_reserved : Option Addr} {v_l_reserved : Array (Option Value)} {c_l_reserved k_l_reserved e_l_reserved m_l_reserved r_l_reserved t_l_reserved : Value}
    (xa_l_reserved : PySem.W.nsIn K mainGlobals "_law_reserved" = some (some (.ref f_l_reserved))) (xl_l_reserved : K.lookup f_l_reserved = some ⟨c_l_reserved, o_l_reserved, .func (PySem.W.fnOf "_law_reserved" "_law_reserved" (defArgs s_l_reserved) (defBody s_l_reserved) (defScope s_l_reserved) .none k_l_reserved e_l_reserved m_l_reserved n_l_reserved r_l_reserved t_l_reserved), v_l_reserved⟩) (xc_l_reserved : PySem.W.codeIn K r_l_reserved "_law_reserved" = true) (xk_l_reserved : PySem.W.keepIn K (.ref f_l_reserved) = true)
    {f_l_is_name : Addr} {o_l_is_name n_l_is_name : Option Addr} {v_l_is_name : Array (Option Value)} {c_l_is_name k_l_is_name e_l_is_name m_l_is_name r_l_is_name t_l_is_name : Value}
    (xa_l_is_name : PySem.W.nsIn K mainGlobals "_law_is_name" = some (some (.ref f_l_is_name))) (xl_l_is_name : K.lookup f_l_is_name = some ⟨c_l_is_name, o_l_is_name, .func (PySem.W.fnOf "_law_is_name" "_law_is_name" (defArgs s_l_is_name) (defBody s_l_is_name) (defScope s_l_is_name) .none k_l_is_name e_l_is_name m_l_is_name n_l_is_name r_l_is_name t_l_is_name), v_l_is_name⟩) (xc_l_is_name : PySem.W.codeIn K r_l_is_name "_law_is_name" = true) (xk_l_is_name : PySem.W.keepIn K (.ref f_l_is_name) = true)
    {f_l_name : Addr} {o_l_name n_l_name : Option Addr} {v_l_name : Array (Option Value)} {c_l_name k_l_name e_l_name m_l_name r_l_name t_l_name : Value}
    (xa_l_name : PySem.W.nsIn K mainGlobals "_law_name" = some (some (.ref f_l_name))) (xl_l_name : K.lookup f_l_name = some ⟨c_l_name, o_l_name, .func (PySem.W.fnOf "_law_name" "_law_name" (defArgs s_l_name) (defBody s_l_name) (defScope s_l_name) .none k_l_name e_l_name m_l_name n_l_name r_l_name t_l_name), v_l_name⟩) (xc_l_name : PySem.W.codeIn K r_l_name "_law_name" = true) (xk_l_name : PySem.W.keepIn K (.ref f_l_name) = true)
    {f_l_setting : Addr} {o_l_setting n_l_setting : Option Addr} {v_l_setting : Array (Option Value)} {c_l_setting k_l_setting e_l_setting m_l_setting r_l_setting t_l_setting : Value}
    (xa_l_setting : PySem.W.nsIn K mainGlobals "_law_setting" = some (some (.ref f_l_setting))) (xl_l_setting : K.lookup f_l_setting = some ⟨c_l_setting, o_l_setting, .func (PySem.W.fnOf "_law_setting" "_law_setting" (defArgs s_l_setting) (defBody s_l_setting) (defScope s_l_setting) .none k_l_setting e_l_setting m_l_setting n_l_setting r_l_setting t_l_setting), v_l_setting⟩) (xc_l_setting : PySem.W.codeIn K r_l_setting "_law_setting" = true) (xk_l_setting : PySem.W.keepIn K (.ref f_l_setting) = true)
    {f_l_machine : Addr} {o_l_machine n_l_machine : Option Addr} {v_l_machine : Array (Option Value)} {c_l_machine k_l_machine e_l_machine m_l_machine r_l_machine t_l_machine : Value}
    (xa_l_machine : PySem.W.nsIn K mainGlobals "_law_machine" = some (some (.ref f_l_machine))) (xl_l_machine : K.lookup f_l_machine = some ⟨c_l_machine, o_l_machine, .func (PySem.W.fnOf "_law_machine" "_law_machine" (defArgs s_l_machine) (defBody s_l_machine) (defScope s_l_machine) .none k_l_machine e_l_machine m_l_machine n_l_machine r_l_machine t_l_machine), v_l_machine⟩) (xc_l_machine : PySem.W.codeIn K r_l_machine "_law_machine" = true) (xk_l_machine : PySem.W.keepIn K (.ref f_l_machine) = true)
    {f_is_integer : Addr} {o_is_integer n_is_integer : Option Addr} {v_is_integer : Array (Option Value)} {c_is_integer k_is_integer e_is_integer m_is_integer r_is_integer t_is_integer : Value}
    (xa_is_integer : PySem.W.nsIn K mainGlobals "is_integer" = some (some (.ref f_is_integer))) (xl_is_integer : K.lookup f_is_integer = some ⟨c_is_integer, o_is_integer, .func (PySem.W.fnOf "is_integer" "is_integer" (defArgs s_is_integer) (defBody s_is_integer) (defScope s_is_integer) .none k_is_integer e_is_integer m_is_integer n_is_integer r_is_integer t_is_integer), v_is_integer⟩) (xc_is_integer : PySem.W.codeIn K r_is_integer "is_integer" = true) (xk_is_integer : PySem.W.keepIn K (.ref f_is_integer) = true)
    {f_integer_within : Addr} {o_integer_within n_integer_within : Option Addr} {v_integer_within : Array (Option Value)} {c_integer_within k_integer_within e_integer_within m_integer_within r_integer_within t_integer_within : Value}
    (xa_integer_within : PySem.W.nsIn K mainGlobals "integer_within" = some (some (.ref f_integer_within))) (xl_integer_within : K.lookup f_integer_within = some ⟨c_integer_within, o_integer_within, .func (PySem.W.fnOf "integer_within" "integer_within" (defArgs s_integer_within) (defBody s_integer_within) (defScope s_integer_within) .none k_integer_within e_integer_within m_integer_within n_integer_within r_integer_within t_integer_within), v_integer_within⟩) (xc_integer_within : PySem.W.codeIn K r_integer_within "integer_within" = true) (xk_integer_within : PySem.W.keepIn K (.ref f_integer_within) = true)
    {f_is_number : Addr} {o_is_number n_is_number : Option Addr} {v_is_number : Array (Option Value)} {c_is_number k_is_number e_is_number m_is_number r_is_number t_is_number : Value}
    (xa_is_number : PySem.W.nsIn K mainGlobals "is_number" = some (some (.ref f_is_number))) (xl_is_number : K.lookup f_is_number = some ⟨c_is_number, o_is_number, .func (PySem.W.fnOf "is_number" "is_number" (defArgs s_is_number) (defBody s_is_number) (defScope s_is_number) .none k_is_number e_is_number m_is_number n_is_number r_is_number t_is_number), v_is_number⟩) (xc_is_number : PySem.W.codeIn K r_is_number "is_number" = true) (xk_is_number : PySem.W.keepIn K (.ref f_is_number) = true)
    {f_tuple_of : Addr} {o_tuple_of n_tuple_of : Option Addr} {v_tuple_of : Array (Option Value)} {c_tuple_of k_tuple_of e_tuple_of m_tuple_of r_tuple_of t_tuple_of : Value}
    (xa_tuple_of : PySem.W.nsIn K mainGlobals "tuple_of" = some (some (.ref f_tuple_of))) (xl_tuple_of : K.lookup f_tuple_of = some ⟨c_tuple_of, o_tuple_of, .func (PySem.W.fnOf "tuple_of" "tuple_of" (defArgs s_tuple_of) (defBody s_tuple_of) (defScope s_tuple_of) .none k_tuple_of e_tuple_of m_tuple_of n_tuple_of r_tuple_of t_tuple_of), v_tuple_of⟩) (xc_tuple_of : PySem.W.codeIn K r_tuple_of "tuple_of" = true) (xk_tuple_of : PySem.W.keepIn K (.ref f_tuple_of) = true)
    {f_check_name : Addr} {o_check_name n_check_name : Option Addr} {v_check_name : Array (Option Value)} {c_check_name k_check_name e_check_name m_check_name r_check_name t_check_name : Value}
    (xa_check_name : PySem.W.nsIn K mainGlobals "check_name" = some (some (.ref f_check_name))) (xl_check_name : K.lookup f_check_name = some ⟨c_check_name, o_check_name, .func (PySem.W.fnOf "check_name" "check_name" (defArgs s_check_name) (defBody s_check_name) (defScope s_check_name) .none k_check_name e_check_name m_check_name n_check_name r_check_name t_check_name), v_check_name⟩) (xc_check_name : PySem.W.codeIn K r_check_name "check_name" = true) (xk_check_name : PySem.W.keepIn K (.ref f_check_name) = true)
    {f_is_name : Addr} {o_is_name n_is_name : Option Addr} {v_is_name : Array (Option Value)} {c_is_name k_is_name e_is_name m_is_name r_is_name t_is_name : Value}
    (xa_is_name : PySem.W.nsIn K mainGlobals "is_name" = some (some (.ref f_is_name))) (xl_is_name : K.lookup f_is_name = some ⟨c_is_name, o_is_name, .func (PySem.W.fnOf "is_name" "is_name" (defArgs s_is_name) (defBody s_is_name) (defScope s_is_name) .none k_is_name e_is_name m_is_name n_is_name r_is_name t_is_name), v_is_name⟩) (xc_is_name : PySem.W.codeIn K r_is_name "is_name" = true) (xk_is_name : PySem.W.keepIn K (.ref f_is_name) = true)
    {f_is_state : Addr} {o_is_state n_is_state : Option Addr} {v_is_state : Array (Option Value)} {c_is_state k_is_state e_is_state m_is_state r_is_state t_is_state : Value}
    (xa_is_state : PySem.W.nsIn K mainGlobals "is_state" = some (some (.ref f_is_state))) (xl_is_state : K.lookup f_is_state = some ⟨c_is_state, o_is_state, .func (PySem.W.fnOf "is_state" "is_state" (defArgs s_is_state) (defBody s_is_state) (defScope s_is_state) .none k_is_state e_is_state m_is_state n_is_state r_is_state t_is_state), v_is_state⟩) (xc_is_state : PySem.W.codeIn K r_is_state "is_state" = true) (xk_is_state : PySem.W.keepIn K (.ref f_is_state) = true)
    {f_check_machine : Addr} {o_check_machine n_check_machine : Option Addr} {v_check_machine : Array (Option Value)} {c_check_machine k_check_machine e_check_machine m_check_machine r_check_machine t_check_machine : Value}
    (xa_check_machine : PySem.W.nsIn K mainGlobals "check_machine" = some (some (.ref f_check_machine))) (xl_check_machine : K.lookup f_check_machine = some ⟨c_check_machine, o_check_machine, .func (PySem.W.fnOf "check_machine" "check_machine" (defArgs s_check_machine) (defBody s_check_machine) (defScope s_check_machine) .none k_check_machine e_check_machine m_check_machine n_check_machine r_check_machine t_check_machine), v_check_machine⟩) (xc_check_machine : PySem.W.codeIn K r_check_machine "check_machine" = true) (xk_check_machine : PySem.W.keepIn K (.ref f_check_machine) = true)
    {f_l_ask : Addr} {o_l_ask n_l_ask : Option Addr} {v_l_ask : Array (Option Value)} {c_l_ask k_l_ask e_l_ask m_l_ask r_l_ask t_l_ask : Value}
    (xa_l_ask : PySem.W.nsIn K mainGlobals "_law_ask" = some (some (.ref f_l_ask))) (xl_l_ask : K.lookup f_l_ask = some ⟨c_l_ask, o_l_ask, .func (PySem.W.fnOf "_law_ask" "_law_ask" (defArgs s_l_ask) (defBody s_l_ask) (defScope s_l_ask) .none k_l_ask e_l_ask m_l_ask n_l_ask r_l_ask t_l_ask), v_l_ask⟩) (xc_l_ask : PySem.W.codeIn K r_l_ask "_law_ask" = true) (xk_l_ask : PySem.W.keepIn K (.ref f_l_ask) = true)
    {f_l_fits : Addr} {o_l_fits n_l_fits : Option Addr} {v_l_fits : Array (Option Value)} {c_l_fits k_l_fits e_l_fits m_l_fits r_l_fits t_l_fits : Value}
    (xa_l_fits : PySem.W.nsIn K mainGlobals "_law_fits" = some (some (.ref f_l_fits))) (xl_l_fits : K.lookup f_l_fits = some ⟨c_l_fits, o_l_fits, .func (PySem.W.fnOf "_law_fits" "_law_fits" (defArgs s_l_fits) (defBody s_l_fits) (defScope s_l_fits) .none k_l_fits e_l_fits m_l_fits n_l_fits r_l_fits t_l_fits), v_l_fits⟩) (xc_l_fits : PySem.W.codeIn K r_l_fits "_law_fits" = true) (xk_l_fits : PySem.W.keepIn K (.ref f_l_fits) = true)
    {f_is_machine : Addr} {o_is_machine n_is_machine : Option Addr} {v_is_machine : Array (Option Value)} {c_is_machine k_is_machine e_is_machine m_is_machine r_is_machine t_is_machine : Value}
    (xa_is_machine : PySem.W.nsIn K mainGlobals "is_machine" = some (some (.ref f_is_machine))) (xl_is_machine : K.lookup f_is_machine = some ⟨c_is_machine, o_is_machine, .func (PySem.W.fnOf "is_machine" "is_machine" (defArgs s_is_machine) (defBody s_is_machine) (defScope s_is_machine) .none k_is_machine e_is_machine m_is_machine n_is_machine r_is_machine t_is_machine), v_is_machine⟩) (xc_is_machine : PySem.W.codeIn K r_is_machine "is_machine" = true) (xk_is_machine : PySem.W.keepIn K (.ref f_is_machine) = true)
    {f_l_whether : Addr} {o_l_whether n_l_whether : Option Addr} {v_l_whether : Array (Option Value)} {c_l_whether k_l_whether e_l_whether m_l_whether r_l_whether t_l_whether : Value}
    (xa_l_whether : PySem.W.nsIn K mainGlobals "_law_whether" = some (some (.ref f_l_whether))) (xl_l_whether : K.lookup f_l_whether = some ⟨c_l_whether, o_l_whether, .func (PySem.W.fnOf "_law_whether" "_law_whether" (defArgs s_l_whether) (defBody s_l_whether) (defScope s_l_whether) .none k_l_whether e_l_whether m_l_whether n_l_whether r_l_whether t_l_whether), v_l_whether⟩) (xc_l_whether : PySem.W.codeIn K r_l_whether "_law_whether" = true) (xk_l_whether : PySem.W.keepIn K (.ref f_l_whether) = true)
    {f_l_stands : Addr} {o_l_stands n_l_stands : Option Addr} {v_l_stands : Array (Option Value)} {c_l_stands k_l_stands e_l_stands m_l_stands r_l_stands t_l_stands : Value}
    (xa_l_stands : PySem.W.nsIn K mainGlobals "_law_stands" = some (some (.ref f_l_stands))) (xl_l_stands : K.lookup f_l_stands = some ⟨c_l_stands, o_l_stands, .func (PySem.W.fnOf "_law_stands" "_law_stands" (defArgs s_l_stands) (defBody s_l_stands) (defScope s_l_stands) .none k_l_stands e_l_stands m_l_stands n_l_stands r_l_stands t_l_stands), v_l_stands⟩) (xc_l_stands : PySem.W.codeIn K r_l_stands "_law_stands" = true) (xk_l_stands : PySem.W.keepIn K (.ref f_l_stands) = true)
    {f_l_first_bad : Addr} {o_l_first_bad n_l_first_bad : Option Addr} {v_l_first_bad : Array (Option Value)} {c_l_first_bad k_l_first_bad e_l_first_bad m_l_first_bad r_l_first_bad t_l_first_bad : Value}
    (xa_l_first_bad : PySem.W.nsIn K mainGlobals "_law_first_bad" = some (some (.ref f_l_first_bad))) (xl_l_first_bad : K.lookup f_l_first_bad = some ⟨c_l_first_bad, o_l_first_bad, .func (PySem.W.fnOf "_law_first_bad" "_law_first_bad" (defArgs s_l_first_bad) (defBody s_l_first_bad) (defScope s_l_first_bad) .none k_l_first_bad e_l_first_bad m_l_first_bad n_l_first_bad r_l_first_bad t_l_first_bad), v_l_first_bad⟩) (xc_l_first_bad : PySem.W.codeIn K r_l_first_bad "_law_first_bad" = true) (xk_l_first_bad : PySem.W.keepIn K (.ref f_l_first_bad) = true)
    {f_l_due : Addr} {o_l_due n_l_due : Option Addr} {v_l_due : Array (Option Value)} {c_l_due k_l_due e_l_due m_l_due r_l_due t_l_due : Value}
    (xa_l_due : PySem.W.nsIn K mainGlobals "_law_due" = some (some (.ref f_l_due))) (xl_l_due : K.lookup f_l_due = some ⟨c_l_due, o_l_due, .func (PySem.W.fnOf "_law_due" "_law_due" (defArgs s_l_due) (defBody s_l_due) (defScope s_l_due) .none k_l_due e_l_due m_l_due n_l_due r_l_due t_l_due), v_l_due⟩) (xc_l_due : PySem.W.codeIn K r_l_due "_law_due" = true) (xk_l_due : PySem.W.keepIn K (.ref f_l_due) = true)
    {f_l_is_due : Addr} {o_l_is_due n_l_is_due : Option Addr} {v_l_is_due : Array (Option Value)} {c_l_is_due k_l_is_due e_l_is_due m_l_is_due r_l_is_due t_l_is_due : Value}
    (xa_l_is_due : PySem.W.nsIn K mainGlobals "_law_is_due" = some (some (.ref f_l_is_due))) (xl_l_is_due : K.lookup f_l_is_due = some ⟨c_l_is_due, o_l_is_due, .func (PySem.W.fnOf "_law_is_due" "_law_is_due" (defArgs s_l_is_due) (defBody s_l_is_due) (defScope s_l_is_due) .none k_l_is_due e_l_is_due m_l_is_due n_l_is_due r_l_is_due t_l_is_due), v_l_is_due⟩) (xc_l_is_due : PySem.W.codeIn K r_l_is_due "_law_is_due" = true) (xk_l_is_due : PySem.W.keepIn K (.ref f_l_is_due) = true)
    {f_l_holds : Addr} {o_l_holds n_l_holds : Option Addr} {v_l_holds : Array (Option Value)} {c_l_holds k_l_holds e_l_holds m_l_holds r_l_holds t_l_holds : Value}
    (xa_l_holds : PySem.W.nsIn K mainGlobals "_law_holds" = some (some (.ref f_l_holds))) (xl_l_holds : K.lookup f_l_holds = some ⟨c_l_holds, o_l_holds, .func (PySem.W.fnOf "_law_holds" "_law_holds" (defArgs s_l_holds) (defBody s_l_holds) (defScope s_l_holds) .none k_l_holds e_l_holds m_l_holds n_l_holds r_l_holds t_l_holds), v_l_holds⟩) (xc_l_holds : PySem.W.codeIn K r_l_holds "_law_holds" = true) (xk_l_holds : PySem.W.keepIn K (.ref f_l_holds) = true)
    {f_l_bent_word : Addr} {o_l_bent_word n_l_bent_word : Option Addr} {v_l_bent_word : Array (Option Value)} {c_l_bent_word k_l_bent_word e_l_bent_word m_l_bent_word r_l_bent_word t_l_bent_word : Value}
    (xa_l_bent_word : PySem.W.nsIn K mainGlobals "_law_bent_word" = some (some (.ref f_l_bent_word))) (xl_l_bent_word : K.lookup f_l_bent_word = some ⟨c_l_bent_word, o_l_bent_word, .func (PySem.W.fnOf "_law_bent_word" "_law_bent_word" (defArgs s_l_bent_word) (defBody s_l_bent_word) (defScope s_l_bent_word) .none k_l_bent_word e_l_bent_word m_l_bent_word n_l_bent_word r_l_bent_word t_l_bent_word), v_l_bent_word⟩) (xc_l_bent_word : PySem.W.codeIn K r_l_bent_word "_law_bent_word" = true) (xk_l_bent_word : PySem.W.keepIn K (.ref f_l_bent_word) = true)
    {f_l_bent_number : Addr} {o_l_bent_number n_l_bent_number : Option Addr} {v_l_bent_number : Array (Option Value)} {c_l_bent_number k_l_bent_number e_l_bent_number m_l_bent_number r_l_bent_number t_l_bent_number : Value}
    (xa_l_bent_number : PySem.W.nsIn K mainGlobals "_law_bent_number" = some (some (.ref f_l_bent_number))) (xl_l_bent_number : K.lookup f_l_bent_number = some ⟨c_l_bent_number, o_l_bent_number, .func (PySem.W.fnOf "_law_bent_number" "_law_bent_number" (defArgs s_l_bent_number) (defBody s_l_bent_number) (defScope s_l_bent_number) .none k_l_bent_number e_l_bent_number m_l_bent_number n_l_bent_number r_l_bent_number t_l_bent_number), v_l_bent_number⟩) (xc_l_bent_number : PySem.W.codeIn K r_l_bent_number "_law_bent_number" = true) (xk_l_bent_number : PySem.W.keepIn K (.ref f_l_bent_number) = true)
    {f_l_bent_state : Addr} {o_l_bent_state n_l_bent_state : Option Addr} {v_l_bent_state : Array (Option Value)} {c_l_bent_state k_l_bent_state e_l_bent_state m_l_bent_state r_l_bent_state t_l_bent_state : Value}
    (xa_l_bent_state : PySem.W.nsIn K mainGlobals "_law_bent_state" = some (some (.ref f_l_bent_state))) (xl_l_bent_state : K.lookup f_l_bent_state = some ⟨c_l_bent_state, o_l_bent_state, .func (PySem.W.fnOf "_law_bent_state" "_law_bent_state" (defArgs s_l_bent_state) (defBody s_l_bent_state) (defScope s_l_bent_state) .none k_l_bent_state e_l_bent_state m_l_bent_state n_l_bent_state r_l_bent_state t_l_bent_state), v_l_bent_state⟩) (xc_l_bent_state : PySem.W.codeIn K r_l_bent_state "_law_bent_state" = true) (xk_l_bent_state : PySem.W.keepIn K (.ref f_l_bent_state) = true)
    {f_l_plain_same : Addr} {o_l_plain_same n_l_plain_same : Option Addr} {v_l_plain_same : Array (Option Value)} {c_l_plain_same k_l_plain_same e_l_plain_same m_l_plain_same r_l_plain_same t_l_plain_same : Value}
    (xa_l_plain_same : PySem.W.nsIn K mainGlobals "_law_plain_same" = some (some (.ref f_l_plain_same))) (xl_l_plain_same : K.lookup f_l_plain_same = some ⟨c_l_plain_same, o_l_plain_same, .func (PySem.W.fnOf "_law_plain_same" "_law_plain_same" (defArgs s_l_plain_same) (defBody s_l_plain_same) (defScope s_l_plain_same) .none k_l_plain_same e_l_plain_same m_l_plain_same n_l_plain_same r_l_plain_same t_l_plain_same), v_l_plain_same⟩) (xc_l_plain_same : PySem.W.codeIn K r_l_plain_same "_law_plain_same" = true) (xk_l_plain_same : PySem.W.keepIn K (.ref f_l_plain_same) = true)
    {f_l_plain_copy : Addr} {o_l_plain_copy n_l_plain_copy : Option Addr} {v_l_plain_copy : Array (Option Value)} {c_l_plain_copy k_l_plain_copy e_l_plain_copy m_l_plain_copy r_l_plain_copy t_l_plain_copy : Value}
    (xa_l_plain_copy : PySem.W.nsIn K mainGlobals "_law_plain_copy" = some (some (.ref f_l_plain_copy))) (xl_l_plain_copy : K.lookup f_l_plain_copy = some ⟨c_l_plain_copy, o_l_plain_copy, .func (PySem.W.fnOf "_law_plain_copy" "_law_plain_copy" (defArgs s_l_plain_copy) (defBody s_l_plain_copy) (defScope s_l_plain_copy) .none k_l_plain_copy e_l_plain_copy m_l_plain_copy n_l_plain_copy r_l_plain_copy t_l_plain_copy), v_l_plain_copy⟩) (xc_l_plain_copy : PySem.W.codeIn K r_l_plain_copy "_law_plain_copy" = true) (xk_l_plain_copy : PySem.W.keepIn K (.ref f_l_plain_copy) = true)
    {f_l_bent_ones : Addr} {o_l_bent_ones n_l_bent_ones : Option Addr} {v_l_bent_ones : Array (Option Value)} {c_l_bent_ones k_l_bent_ones e_l_bent_ones m_l_bent_ones r_l_bent_ones t_l_bent_ones : Value}
    (xa_l_bent_ones : PySem.W.nsIn K mainGlobals "_law_bent_ones" = some (some (.ref f_l_bent_ones))) (xl_l_bent_ones : K.lookup f_l_bent_ones = some ⟨c_l_bent_ones, o_l_bent_ones, .func (PySem.W.fnOf "_law_bent_ones" "_law_bent_ones" (defArgs s_l_bent_ones) (defBody s_l_bent_ones) (defScope s_l_bent_ones) .none k_l_bent_ones e_l_bent_ones m_l_bent_ones n_l_bent_ones r_l_bent_ones t_l_bent_ones), v_l_bent_ones⟩) (xc_l_bent_ones : PySem.W.codeIn K r_l_bent_ones "_law_bent_ones" = true) (xk_l_bent_ones : PySem.W.keepIn K (.ref f_l_bent_ones) = true)
    {f_l_other_things : Addr} {o_l_other_things n_l_other_things : Option Addr} {v_l_other_things : Array (Option Value)} {c_l_other_things k_l_other_things e_l_other_things m_l_other_things r_l_other_things t_l_other_things : Value}
    (xa_l_other_things : PySem.W.nsIn K mainGlobals "_law_other_things" = some (some (.ref f_l_other_things))) (xl_l_other_things : K.lookup f_l_other_things = some ⟨c_l_other_things, o_l_other_things, .func (PySem.W.fnOf "_law_other_things" "_law_other_things" (defArgs s_l_other_things) (defBody s_l_other_things) (defScope s_l_other_things) .none k_l_other_things e_l_other_things m_l_other_things n_l_other_things r_l_other_things t_l_other_things), v_l_other_things⟩) (xc_l_other_things : PySem.W.codeIn K r_l_other_things "_law_other_things" = true) (xk_l_other_things : PySem.W.keepIn K (.ref f_l_other_things) = true)
    {f_l_names : Addr} {o_l_names n_l_names : Option Addr} {v_l_names : Array (Option Value)} {c_l_names k_l_names e_l_names m_l_names r_l_names t_l_names : Value}
    (xa_l_names : PySem.W.nsIn K mainGlobals "_law_names" = some (some (.ref f_l_names))) (xl_l_names : K.lookup f_l_names = some ⟨c_l_names, o_l_names, .func (PySem.W.fnOf "_law_names" "_law_names" (defArgs s_l_names) (defBody s_l_names) (defScope s_l_names) .none k_l_names e_l_names m_l_names n_l_names r_l_names t_l_names), v_l_names⟩) (xc_l_names : PySem.W.codeIn K r_l_names "_law_names" = true) (xk_l_names : PySem.W.keepIn K (.ref f_l_names) = true)
    {f_l_flags : Addr} {o_l_flags n_l_flags : Option Addr} {v_l_flags : Array (Option Value)} {c_l_flags k_l_flags e_l_flags m_l_flags r_l_flags t_l_flags : Value}
    (xa_l_flags : PySem.W.nsIn K mainGlobals "_law_flags" = some (some (.ref f_l_flags))) (xl_l_flags : K.lookup f_l_flags = some ⟨c_l_flags, o_l_flags, .func (PySem.W.fnOf "_law_flags" "_law_flags" (defArgs s_l_flags) (defBody s_l_flags) (defScope s_l_flags) .none k_l_flags e_l_flags m_l_flags n_l_flags r_l_flags t_l_flags), v_l_flags⟩) (xc_l_flags : PySem.W.codeIn K r_l_flags "_law_flags" = true) (xk_l_flags : PySem.W.keepIn K (.ref f_l_flags) = true)
    {f_l_other_signs : Addr} {o_l_other_signs n_l_other_signs : Option Addr} {v_l_other_signs : Array (Option Value)} {c_l_other_signs k_l_other_signs e_l_other_signs m_l_other_signs r_l_other_signs t_l_other_signs : Value}
    (xa_l_other_signs : PySem.W.nsIn K mainGlobals "_law_other_signs" = some (some (.ref f_l_other_signs))) (xl_l_other_signs : K.lookup f_l_other_signs = some ⟨c_l_other_signs, o_l_other_signs, .func (PySem.W.fnOf "_law_other_signs" "_law_other_signs" (defArgs s_l_other_signs) (defBody s_l_other_signs) (defScope s_l_other_signs) .none k_l_other_signs e_l_other_signs m_l_other_signs n_l_other_signs r_l_other_signs t_l_other_signs), v_l_other_signs⟩) (xc_l_other_signs : PySem.W.codeIn K r_l_other_signs "_law_other_signs" = true) (xk_l_other_signs : PySem.W.keepIn K (.ref f_l_other_signs) = true)
    {f_l_long : Addr} {o_l_long n_l_long : Option Addr} {v_l_long : Array (Option Value)} {c_l_long k_l_long e_l_long m_l_long r_l_long t_l_long : Value}
    (xa_l_long : PySem.W.nsIn K mainGlobals "_law_long" = some (some (.ref f_l_long))) (xl_l_long : K.lookup f_l_long = some ⟨c_l_long, o_l_long, .func (PySem.W.fnOf "_law_long" "_law_long" (defArgs s_l_long) (defBody s_l_long) (defScope s_l_long) .none k_l_long e_l_long m_l_long n_l_long r_l_long t_l_long), v_l_long⟩) (xc_l_long : PySem.W.codeIn K r_l_long "_law_long" = true) (xk_l_long : PySem.W.keepIn K (.ref f_l_long) = true)
    {f_l_great : Addr} {o_l_great n_l_great : Option Addr} {v_l_great : Array (Option Value)} {c_l_great k_l_great e_l_great m_l_great r_l_great t_l_great : Value}
    (xa_l_great : PySem.W.nsIn K mainGlobals "_law_great" = some (some (.ref f_l_great))) (xl_l_great : K.lookup f_l_great = some ⟨c_l_great, o_l_great, .func (PySem.W.fnOf "_law_great" "_law_great" (defArgs s_l_great) (defBody s_l_great) (defScope s_l_great) .none k_l_great e_l_great m_l_great n_l_great r_l_great t_l_great), v_l_great⟩) (xc_l_great : PySem.W.codeIn K r_l_great "_law_great" = true) (xk_l_great : PySem.W.keepIn K (.ref f_l_great) = true)
    {f_l_vast : Addr} {o_l_vast n_l_vast : Option Addr} {v_l_vast : Array (Option Value)} {c_l_vast k_l_vast e_l_vast m_l_vast r_l_vast t_l_vast : Value}
    (xa_l_vast : PySem.W.nsIn K mainGlobals "_law_vast" = some (some (.ref f_l_vast))) (xl_l_vast : K.lookup f_l_vast = some ⟨c_l_vast, o_l_vast, .func (PySem.W.fnOf "_law_vast" "_law_vast" (defArgs s_l_vast) (defBody s_l_vast) (defScope s_l_vast) .none k_l_vast e_l_vast m_l_vast n_l_vast r_l_vast t_l_vast), v_l_vast⟩) (xc_l_vast : PySem.W.codeIn K r_l_vast "_law_vast" = true) (xk_l_vast : PySem.W.keepIn K (.ref f_l_vast) = true)
    {f_l_deep : Addr} {o_l_deep n_l_deep : Option Addr} {v_l_deep : Array (Option Value)} {c_l_deep k_l_deep e_l_deep m_l_deep r_l_deep t_l_deep : Value}
    (xa_l_deep : PySem.W.nsIn K mainGlobals "_law_deep" = some (some (.ref f_l_deep))) (xl_l_deep : K.lookup f_l_deep = some ⟨c_l_deep, o_l_deep, .func (PySem.W.fnOf "_law_deep" "_law_deep" (defArgs s_l_deep) (defBody s_l_deep) (defScope s_l_deep) .none k_l_deep e_l_deep m_l_deep n_l_deep r_l_deep t_l_deep), v_l_deep⟩) (xc_l_deep : PySem.W.codeIn K r_l_deep "_law_deep" = true) (xk_l_deep : PySem.W.keepIn K (.ref f_l_deep) = true)
    {f_law : Addr} {o_law n_law : Option Addr} {v_law : Array (Option Value)} {c_law k_law e_law m_law r_law t_law : Value}
    (xa_law : PySem.W.nsIn K mainGlobals "law" = some (some (.ref f_law))) (xl_law : K.lookup f_law = some ⟨c_law, o_law, .func (PySem.W.fnOf "law" "law" (defArgs s_law) (defBody s_law) (defScope s_law) .none k_law e_law m_law n_law r_law t_law), v_law⟩) (xc_law : PySem.W.codeIn K r_law "law" = true) (xk_law : PySem.W.keepIn K (.ref f_law) = true)
    (xz_abs : PySem.W.nsIn K mainGlobals "abs" = some none)
    (xz_all : PySem.W.nsIn K mainGlobals "all" = some none)
    (xz_bool : PySem.W.nsIn K mainGlobals "bool" = some none)
    (xz_enumerate : PySem.W.nsIn K mainGlobals "enumerate" = some none)
    (xz_int : PySem.W.nsIn K mainGlobals "int" = some none)
    (xz_isinstance : PySem.W.nsIn K mainGlobals "isinstance" = some none)
    (xz_len : PySem.W.nsIn K mainGlobals "len" = some none)
    (xz_list : PySem.W.nsIn K mainGlobals "list" = some none)
    (xz_range : PySem.W.nsIn K mainGlobals "range" = some none)
    (xz_str : PySem.W.nsIn K mainGlobals "str" = some none)
    (xz_tuple : PySem.W.nsIn K mainGlobals "tuple" = some none)
    {c_BadName : Addr} (ya_BadName : PySem.W.nsIn K mainGlobals "BadName" = some (some (.ref c_BadName)))
    {c_BadMachine : Addr} (ya_BadMachine : PySem.W.nsIn K mainGlobals "BadMachine" = some (some (.ref c_BadMachine)))
    {c_HeardError : Addr} (ya_HeardError : PySem.W.nsIn K mainGlobals "HeardError" = some (some (.ref c_HeardError)))
    {c_BadProgram : Addr} (ya_BadProgram : PySem.W.nsIn K mainGlobals "BadProgram" = some (some (.ref c_BadProgram)))
    {c_BadRow : Addr} (ya_BadRow : PySem.W.nsIn K mainGlobals "BadRow" = some (some (.ref c_BadRow)))
    {c_BadSetting : Addr} (ya_BadSetting : PySem.W.nsIn K mainGlobals "BadSetting" = some (some (.ref c_BadSetting)))
    {c_BadText : Addr} (ya_BadText : PySem.W.nsIn K mainGlobals "BadText" = some (some (.ref c_BadText)))
    {i_BadName : Addr} {q_BadName : Str} (yi_BadName : PySem.W.findIn K (.ref c_BadName) "__init__" = some (some (.ref i_BadName))) (yb_BadName : SxK l.prog K c_BadName i_BadName [("at" : Str)]) (yf_BadName : PySem.SxX.Fn_at l.prog K c_BadName i_BadName q_BadName)
    {i_BadMachine : Addr} {q_BadMachine : Str} (yi_BadMachine : PySem.W.findIn K (.ref c_BadMachine) "__init__" = some (some (.ref i_BadMachine))) (yb_BadMachine : SxK l.prog K c_BadMachine i_BadMachine [("at" : Str), ("word" : Str)]) (yf_BadMachine : PySem.SxX.Fn_at_word l.prog K c_BadMachine i_BadMachine q_BadMachine)
    (yq : PySem.W.nsIn K cStatics "thirdparty.any" = some none) (yS : PySem.W.nsIn K mainGlobals "super" = some none) (yT : (l.prog.main.scope.names.lookup ("super" : Str)).isSome = false)
    (ze_BadName_BadName : PySem.W.exmOne K (.ref c_BadName) (.ref c_BadName) = some true)
    (ze_BadName_BadMachine : PySem.W.exmOne K (.ref c_BadMachine) (.ref c_BadName) = some false)
    (ze_HeardError_BadName : PySem.W.exmOne K (.ref c_BadName) (.ref c_HeardError) = some true)
    (ze_HeardError_BadMachine : PySem.W.exmOne K (.ref c_BadMachine) (.ref c_HeardError) = some true)
    (zx_BadName : excB K c_BadName = true)
    (zx_BadMachine : excB K c_BadMachine = true)
    (zk_BadMachine_BadName : PySem.W.kitOne K (.ref c_BadName) (.ref c_BadMachine) = some false)
    (zk_BadMachine_BadMachine : PySem.W.kitOne K (.ref c_BadMachine) (.ref c_BadMachine) = some true)
    (zk_BadProgram_BadName : PySem.W.kitOne K (.ref c_BadName) (.ref c_BadProgram) = some false)
    (zk_BadProgram_BadMachine : PySem.W.kitOne K (.ref c_BadMachine) (.ref c_BadProgram) = some false)
    (zk_BadRow_BadName : PySem.W.kitOne K (.ref c_BadName) (.ref c_BadRow) = some false)
    (zk_BadRow_BadMachine : PySem.W.kitOne K (.ref c_BadMachine) (.ref c_BadRow) = some false)
    (zk_BadSetting_BadName : PySem.W.kitOne K (.ref c_BadName) (.ref c_BadSetting) = some false)
    (zk_BadSetting_BadMachine : PySem.W.kitOne K (.ref c_BadMachine) (.ref c_BadSetting) = some false)
    (zk_BadText_BadName : PySem.W.kitOne K (.ref c_BadName) (.ref c_BadText) = some false)
    (zk_BadText_BadMachine : PySem.W.kitOne K (.ref c_BadMachine) (.ref c_BadText) = some false)
    {u_NAME_MOST : Value} (yg_NAME_MOST : PySem.W.nsIn K mainGlobals "NAME_MOST" = some (some u_NAME_MOST)) (yr_NAME_MOST : readD K 3 u_NAME_MOST = some gc_NAME_MOST)
    {u_NO_NAMES : Value} (yg_NO_NAMES : PySem.W.nsIn K mainGlobals "NO_NAMES" = some (some u_NO_NAMES)) (yr_NO_NAMES : readD K 3 u_NO_NAMES = some gc_NO_NAMES)
    {u_LETTERS : Value} (yg_LETTERS : PySem.W.nsIn K mainGlobals "LETTERS" = some (some u_LETTERS)) (yr_LETTERS : readD K 3 u_LETTERS = some gc_LETTERS)
    {u_FIGURES : Value} (yg_FIGURES : PySem.W.nsIn K mainGlobals "FIGURES" = some (some u_FIGURES)) (yr_FIGURES : readD K 3 u_FIGURES = some gc_FIGURES)
    {u_STATES_MOST : Value} (yg_STATES_MOST : PySem.W.nsIn K mainGlobals "STATES_MOST" = some (some u_STATES_MOST)) (yr_STATES_MOST : readD K 3 u_STATES_MOST = some gc_STATES_MOST)
    (yx_BadMachine : xfB K c_BadMachine = true) :
    ∃ fd : FuncData, (∀ (s : Shared) (v : Value), BindsTo s fd ⟨[v], []⟩ [("script", v)]) ∧ ∀ base : Heap, K.In base → base.Ns mainGlobals mg → FnOk l.prog w K mg base (L2.CX l.prog w) 11 fa fd ["script"] (spF K 1 F_law) := by
  have e := hfa.symm.trans (PySem.W.mg_of X G xa_law)
  cases e
  exact ⟨_, fun s v => .of_eq rfl, fun base _ _ => ok_law (tx_mk X G xa_l_jar xl_l_jar xc_l_jar xk_l_jar xa_l_draw xl_l_draw xc_l_draw xk_l_draw xa_l_reserved xl_l_reserved xc_l_reserved xk_l_reserved xa_l_is_name xl_l_is_name xc_l_is_name xk_l_is_name xa_l_name xl_l_name xc_l_name xk_l_name xa_l_setting xl_l_setting xc_l_setting xk_l_setting xa_l_machine xl_l_machine xc_l_machine xk_l_machine xa_is_integer xl_is_integer xc_is_integer xk_is_integer xa_integer_within xl_integer_within xc_integer_within xk_integer_within xa_is_number xl_is_number xc_is_number xk_is_number xa_tuple_of xl_tuple_of xc_tuple_of xk_tuple_of xa_check_name xl_check_name xc_check_name xk_check_name xa_is_name xl_is_name xc_is_name xk_is_name xa_is_state xl_is_state xc_is_state xk_is_state xa_check_machine xl_check_machine xc_check_machine xk_check_machine xa_l_ask xl_l_ask xc_l_ask xk_l_ask xa_l_fits xl_l_fits xc_l_fits xk_l_fits xa_is_machine xl_is_machine xc_is_machine xk_is_machine xa_l_whether xl_l_whether xc_l_whether xk_l_whether xa_l_stands xl_l_stands xc_l_stands xk_l_stands xa_l_first_bad xl_l_first_bad xc_l_first_bad xk_l_first_bad xa_l_due xl_l_due xc_l_due xk_l_due xa_l_is_due xl_l_is_due xc_l_is_due xk_l_is_due xa_l_holds xl_l_holds xc_l_holds xk_l_holds xa_l_bent_word xl_l_bent_word xc_l_bent_word xk_l_bent_word xa_l_bent_number xl_l_bent_number xc_l_bent_number xk_l_bent_number xa_l_bent_state xl_l_bent_state xc_l_bent_state xk_l_bent_state xa_l_plain_same xl_l_plain_same xc_l_plain_same xk_l_plain_same xa_l_plain_copy xl_l_plain_copy xc_l_plain_copy xk_l_plain_copy xa_l_bent_ones xl_l_bent_ones xc_l_bent_ones xk_l_bent_ones xa_l_other_things xl_l_other_things xc_l_other_things xk_l_other_things xa_l_names xl_l_names xc_l_names xk_l_names xa_l_flags xl_l_flags xc_l_flags xk_l_flags xa_l_other_signs xl_l_other_signs xc_l_other_signs xk_l_other_signs xa_l_long xl_l_long xc_l_long xk_l_long xa_l_great xl_l_great xc_l_great xk_l_great xa_l_vast xl_l_vast xc_l_vast xk_l_vast xa_l_deep xl_l_deep xc_l_deep xk_l_deep xa_law xl_law xc_law xk_law xz_abs xz_all xz_bool xz_enumerate xz_int xz_isinstance xz_len xz_list xz_range xz_str xz_tuple ya_BadName ya_BadMachine ya_HeardError ya_BadProgram ya_BadRow ya_BadSetting ya_BadText yi_BadName yb_BadName yf_BadName yi_BadMachine yb_BadMachine yf_BadMachine yq yS yT ze_BadName_BadName ze_BadName_BadMachine ze_HeardError_BadName ze_HeardError_BadMachine zx_BadName zx_BadMachine zk_BadMachine_BadName zk_BadMachine_BadMachine zk_BadProgram_BadName zk_BadProgram_BadMachine zk_BadRow_BadName zk_BadRow_BadMachine zk_BadSetting_BadName zk_BadSetting_BadMachine zk_BadText_BadName zk_BadText_BadMachine yg_NAME_MOST yr_NAME_MOST yg_NO_NAMES yr_NO_NAMES yg_LETTERS yr_LETTERS yg_FIGURES yr_FIGURES yg_STATES_MOST yr_STATES_MOST yx_BadMachine)⟩
theorem start_law {K : PySem.W.Frag} {H : Hp} {a : Addr} {ns : List Int} (hS : SqL K H a (ns.map V.int)) {E : XK} (hF : F_law [.val (.lst (ns.map D.int))] [] = .ok (.val (.bl true)) []) : spF K 1 F_law [.ref a] H (fun v _ => v = .bl true) E :=
  spF_start hS hF
theorem walk {l : PySem.W.OpenLaw} {q : Program} {loose : List Str} {XP : (Str → Option Value) → Heap → Prop} {YP : World → Heap → Prop} {d : DefRec} {K : Params → PySem.W.Frag} (hn : l.most = some 63) (hdf : d.params.defaults = [])
    (hL : ∀ ns : List Int, ns.length ≤ 63 → F_law [.val (.lst (ns.map D.int))] [] = .ok (.val (.bl true)) [])
    (hY : ∀ (w : World) (h : Heap), YP w h → (K w.params).In h)
    (F : ∀ (w : World) (mg : Str → Option Value) (fa : Addr) (h : Heap), (K w.params).In h → h.Ns mainGlobals mg → mg d.name = some (.ref fa) →
      ∃ fd : FuncData, (∀ (s : Shared) (u : Value), BindsTo s fd ⟨[u], []⟩ [("script", u)]) ∧ ∀ base : Heap, (K w.params).In base → base.Ns mainGlobals mg → FnOk l.prog w (K w.params) mg base (L2.CX l.prog w) 11 fa fd ["script"] (spF (K w.params) 1 F_law)) :
    PySem.W.WalkO q loose XP YP l.row.toRowW d [] (fun f vs => PySem.call f vs) :=
  L2.walk_of (n := 63) (k := 11) (x := "script") (CX := fun w => L2.CX l.prog w) (sp := fun w => spF (K w.params) 1 F_law) hn (by decide) hdf ⟨rfl, by decide, by decide⟩ hY F (fun _ _ a ns hl _ hS => start_law hS (hL ns hl)) (fun w H s e s' z => cx_no z)
end K12
open PySem PySem.W PyProof.Rows in
set_option maxRecDepth 100000 in
set_option maxHeartbeats 0 in
theorem PySem.Challenge.cw_howeverheard_k12_check_machine_holds : PySem.Challenge.rw_howeverheard_k12_check_machine.Holds := by
  w_on; o_law; k_head; (case hw => w_witness2)
  k_fill
  refine K12.walk (l := PySem.Challenge.rw_howeverheard_k12_check_machine) rfl rfl K12.law_true (fun w h Y => PySem.W.kIn_of Y) ?F
  case F =>
    intro w mg fa h KX G hmg
    refine' K12.all_mk KX G hmg ?xa_l_jar ?xl_l_jar ?xc_l_jar ?xk_l_jar ?xa_l_draw ?xl_l_draw ?xc_l_draw ?xk_l_draw ?xa_l_reserved ?xl_l_reserved ?xc_l_reserved ?xk_l_reserved ?xa_l_is_name ?xl_l_is_name ?xc_l_is_name ?xk_l_is_name ?xa_l_name ?xl_l_name ?xc_l_name ?xk_l_name ?xa_l_setting ?xl_l_setting ?xc_l_setting ?xk_l_setting ?xa_l_machine ?xl_l_machine ?xc_l_machine ?xk_l_machine ?xa_is_integer ?xl_is_integer ?xc_is_integer ?xk_is_integer ?xa_integer_within ?xl_integer_within ?xc_integer_within ?xk_integer_within ?xa_is_number ?xl_is_number ?xc_is_number ?xk_is_number ?xa_tuple_of ?xl_tuple_of ?xc_tuple_of ?xk_tuple_of ?xa_check_name ?xl_check_name ?xc_check_name ?xk_check_name ?xa_is_name ?xl_is_name ?xc_is_name ?xk_is_name ?xa_is_state ?xl_is_state ?xc_is_state ?xk_is_state ?xa_check_machine ?xl_check_machine ?xc_check_machine ?xk_check_machine ?xa_l_ask ?xl_l_ask ?xc_l_ask ?xk_l_ask ?xa_l_fits ?xl_l_fits ?xc_l_fits ?xk_l_fits ?xa_is_machine ?xl_is_machine ?xc_is_machine ?xk_is_machine ?xa_l_whether ?xl_l_whether ?xc_l_whether ?xk_l_whether ?xa_l_stands ?xl_l_stands ?xc_l_stands ?xk_l_stands ?xa_l_first_bad ?xl_l_first_bad ?xc_l_first_bad ?xk_l_first_bad ?xa_l_due ?xl_l_due ?xc_l_due ?xk_l_due ?xa_l_is_due ?xl_l_is_due ?xc_l_is_due ?xk_l_is_due ?xa_l_holds ?xl_l_holds ?xc_l_holds ?xk_l_holds ?xa_l_bent_word ?xl_l_bent_word ?xc_l_bent_word ?xk_l_bent_word ?xa_l_bent_number ?xl_l_bent_number ?xc_l_bent_number ?xk_l_bent_number ?xa_l_bent_state ?xl_l_bent_state ?xc_l_bent_state ?xk_l_bent_state ?xa_l_plain_same ?xl_l_plain_same ?xc_l_plain_same ?xk_l_plain_same ?xa_l_plain_copy ?xl_l_plain_copy ?xc_l_plain_copy ?xk_l_plain_copy ?xa_l_bent_ones ?xl_l_bent_ones ?xc_l_bent_ones ?xk_l_bent_ones ?xa_l_other_things ?xl_l_other_things ?xc_l_other_things ?xk_l_other_things ?xa_l_names ?xl_l_names ?xc_l_names ?xk_l_names ?xa_l_flags ?xl_l_flags ?xc_l_flags ?xk_l_flags ?xa_l_other_signs ?xl_l_other_signs ?xc_l_other_signs ?xk_l_other_signs ?xa_l_long ?xl_l_long ?xc_l_long ?xk_l_long ?xa_l_great ?xl_l_great ?xc_l_great ?xk_l_great ?xa_l_vast ?xl_l_vast ?xc_l_vast ?xk_l_vast ?xa_l_deep ?xl_l_deep ?xc_l_deep ?xk_l_deep ?xa_law ?xl_law ?xc_law ?xk_law ?xz_abs ?xz_all ?xz_bool ?xz_enumerate ?xz_int ?xz_isinstance ?xz_len ?xz_list ?xz_range ?xz_str ?xz_tuple ?ya_BadName ?ya_BadMachine ?ya_HeardError ?ya_BadProgram ?ya_BadRow ?ya_BadSetting ?ya_BadText ?yi_BadName ?yb_BadName ?yf_BadName ?yi_BadMachine ?yb_BadMachine ?yf_BadMachine ?yq ?yS ?yT ?ze_BadName_BadName ?ze_BadName_BadMachine ?ze_HeardError_BadName ?ze_HeardError_BadMachine ?zx_BadName ?zx_BadMachine ?zk_BadMachine_BadName ?zk_BadMachine_BadMachine ?zk_BadProgram_BadName ?zk_BadProgram_BadMachine ?zk_BadRow_BadName ?zk_BadRow_BadMachine ?zk_BadSetting_BadName ?zk_BadSetting_BadMachine ?zk_BadText_BadName ?zk_BadText_BadMachine ?yg_NAME_MOST ?yr_NAME_MOST ?yg_NO_NAMES ?yr_NO_NAMES ?yg_LETTERS ?yr_LETTERS ?yg_FIGURES ?yr_FIGURES ?yg_STATES_MOST ?yr_STATES_MOST ?yx_BadMachine
    (case xa_l_jar => k_is)
    (case xl_l_jar => k_is)
    (case xc_l_jar => k_is)
    (case xk_l_jar => k_is)
    (case xa_l_draw => k_is)
    (case xl_l_draw => k_is)
    (case xc_l_draw => k_is)
    (case xk_l_draw => k_is)
    (case xa_l_reserved => k_is)
    (case xl_l_reserved => k_is)
    (case xc_l_reserved => k_is)
    (case xk_l_reserved => k_is)
    (case xa_l_is_name => k_is)
    (case xl_l_is_name => k_is)
    (case xc_l_is_name => k_is)
    (case xk_l_is_name => k_is)
    (case xa_l_name => k_is)
    (case xl_l_name => k_is)
    (case xc_l_name => k_is)
    (case xk_l_name => k_is)
    (case xa_l_setting => k_is)
    (case xl_l_setting => k_is)
    (case xc_l_setting => k_is)
    (case xk_l_setting => k_is)
    (case xa_l_machine => k_is)
    (case xl_l_machine => k_is)
    (case xc_l_machine => k_is)
    (case xk_l_machine => k_is)
    (case xa_is_integer => k_is)
    (case xl_is_integer => k_is)
    (case xc_is_integer => k_is)
    (case xk_is_integer => k_is)
    (case xa_integer_within => k_is)
    (case xl_integer_within => k_is)
    (case xc_integer_within => k_is)
    (case xk_integer_within => k_is)
    (case xa_is_number => k_is)
    (case xl_is_number => k_is)
    (case xc_is_number => k_is)
    (case xk_is_number => k_is)
    (case xa_tuple_of => k_is)
    (case xl_tuple_of => k_is)
    (case xc_tuple_of => k_is)
    (case xk_tuple_of => k_is)
    (case xa_check_name => k_is)
    (case xl_check_name => k_is)
    (case xc_check_name => k_is)
    (case xk_check_name => k_is)
    (case xa_is_name => k_is)
    (case xl_is_name => k_is)
    (case xc_is_name => k_is)
    (case xk_is_name => k_is)
    (case xa_is_state => k_is)
    (case xl_is_state => k_is)
    (case xc_is_state => k_is)
    (case xk_is_state => k_is)
    (case xa_check_machine => k_is)
    (case xl_check_machine => k_is)
    (case xc_check_machine => k_is)
    (case xk_check_machine => k_is)
    (case xa_l_ask => k_is)
    (case xl_l_ask => k_is)
    (case xc_l_ask => k_is)
    (case xk_l_ask => k_is)
    (case xa_l_fits => k_is)
    (case xl_l_fits => k_is)
    (case xc_l_fits => k_is)
    (case xk_l_fits => k_is)
    (case xa_is_machine => k_is)
    (case xl_is_machine => k_is)
    (case xc_is_machine => k_is)
    (case xk_is_machine => k_is)
    (case xa_l_whether => k_is)
    (case xl_l_whether => k_is)
    (case xc_l_whether => k_is)
    (case xk_l_whether => k_is)
    (case xa_l_stands => k_is)
    (case xl_l_stands => k_is)
    (case xc_l_stands => k_is)
    (case xk_l_stands => k_is)
    (case xa_l_first_bad => k_is)
    (case xl_l_first_bad => k_is)
    (case xc_l_first_bad => k_is)
    (case xk_l_first_bad => k_is)
    (case xa_l_due => k_is)
    (case xl_l_due => k_is)
    (case xc_l_due => k_is)
    (case xk_l_due => k_is)
    (case xa_l_is_due => k_is)
    (case xl_l_is_due => k_is)
    (case xc_l_is_due => k_is)
    (case xk_l_is_due => k_is)
    (case xa_l_holds => k_is)
    (case xl_l_holds => k_is)
    (case xc_l_holds => k_is)
    (case xk_l_holds => k_is)
    (case xa_l_bent_word => k_is)
    (case xl_l_bent_word => k_is)
    (case xc_l_bent_word => k_is)
    (case xk_l_bent_word => k_is)
    (case xa_l_bent_number => k_is)
    (case xl_l_bent_number => k_is)
    (case xc_l_bent_number => k_is)
    (case xk_l_bent_number => k_is)
    (case xa_l_bent_state => k_is)
    (case xl_l_bent_state => k_is)
    (case xc_l_bent_state => k_is)
    (case xk_l_bent_state => k_is)
    (case xa_l_plain_same => k_is)
    (case xl_l_plain_same => k_is)
    (case xc_l_plain_same => k_is)
    (case xk_l_plain_same => k_is)
    (case xa_l_plain_copy => k_is)
    (case xl_l_plain_copy => k_is)
    (case xc_l_plain_copy => k_is)
    (case xk_l_plain_copy => k_is)
    (case xa_l_bent_ones => k_is)
    (case xl_l_bent_ones => k_is)
    (case xc_l_bent_ones => k_is)
    (case xk_l_bent_ones => k_is)
    (case xa_l_other_things => k_is)
    (case xl_l_other_things => k_is)
    (case xc_l_other_things => k_is)
    (case xk_l_other_things => k_is)
    (case xa_l_names => k_is)
    (case xl_l_names => k_is)
    (case xc_l_names => k_is)
    (case xk_l_names => k_is)
    (case xa_l_flags => k_is)
    (case xl_l_flags => k_is)
    (case xc_l_flags => k_is)
    (case xk_l_flags => k_is)
    (case xa_l_other_signs => k_is)
    (case xl_l_other_signs => k_is)
    (case xc_l_other_signs => k_is)
    (case xk_l_other_signs => k_is)
    (case xa_l_long => k_is)
    (case xl_l_long => k_is)
    (case xc_l_long => k_is)
    (case xk_l_long => k_is)
    (case xa_l_great => k_is)
    (case xl_l_great => k_is)
    (case xc_l_great => k_is)
    (case xk_l_great => k_is)
    (case xa_l_vast => k_is)
    (case xl_l_vast => k_is)
    (case xc_l_vast => k_is)
    (case xk_l_vast => k_is)
    (case xa_l_deep => k_is)
    (case xl_l_deep => k_is)
    (case xc_l_deep => k_is)
    (case xk_l_deep => k_is)
    (case xa_law => k_is)
    (case xl_law => k_is)
    (case xc_law => k_is)
    (case xk_law => k_is)
    (case xz_abs => k_is)
    (case xz_all => k_is)
    (case xz_bool => k_is)
    (case xz_enumerate => k_is)
    (case xz_int => k_is)
    (case xz_isinstance => k_is)
    (case xz_len => k_is)
    (case xz_list => k_is)
    (case xz_range => k_is)
    (case xz_str => k_is)
    (case xz_tuple => k_is)
    (case ya_BadName => k_is)
    (case ya_BadMachine => k_is)
    (case ya_HeardError => k_is)
    (case ya_BadProgram => k_is)
    (case ya_BadRow => k_is)
    (case ya_BadSetting => k_is)
    (case ya_BadText => k_is)
    (case yi_BadName => k_is)
    (case yb_BadName => refine' ⟨⟨_, _, _, _, _, _, _, _, _, _, _, _, _, _, _, ?a, ?b⟩, ?c, L2.Pz.no1 ?d0, ?e, ?f, ?g, ?h, ?i, ?j, ?k⟩; (case a => refine (Eq.trans (b := some _) (by k_is) ?_); exact rfl); (case b => kernel_rfl); (case c => k_is); (case d0 => k_is); (case e => k_is); (case f => k_is); (case g => k_is); (case h => k_is); (case i => k_is); (case k => k_is); (case j => kernel_rfl))
    (case yf_BadName => refine' ⟨⟨_, _, _, _, _, _, _, _, _, _, _, _, _, _, _, _, _, _, _, _, _, _, _, _, _, _, _, _, _, _, _, ?a, ?b, ?c, ?d, ?e, ?f, ?g⟩⟩; (case a => refine (Eq.trans (b := some _) (by k_is) ?_); exact rfl); (case b => k_is); (case c => refine (Eq.trans (b := some _) (by k_is) ?_); exact rfl); (case d => exact rfl); (case e => kernel_rfl); (case f => refine (Eq.trans (b := some _) (by k_is) ?_); exact rfl); (case g => exact rfl))
    (case yi_BadMachine => k_is)
    (case yb_BadMachine => refine' ⟨⟨_, _, _, _, _, _, _, _, _, _, _, _, _, _, _, ?a, ?b⟩, ?c, L2.Pz.no2 ?d0 ?d1, ?e, ?f, ?g, ?h, ?i, ?j, ?k⟩; (case a => refine (Eq.trans (b := some _) (by k_is) ?_); exact rfl); (case b => kernel_rfl); (case c => k_is); (case d0 => k_is); (case d1 => k_is); (case e => k_is); (case f => k_is); (case g => k_is); (case h => k_is); (case i => k_is); (case k => k_is); (case j => kernel_rfl))
    (case yf_BadMachine => refine' ⟨⟨_, _, _, _, _, _, _, _, _, _, _, _, _, _, _, _, _, _, _, _, _, _, _, _, _, _, _, _, _, _, _, _, _, _, _, _, _, ?a, ?b, ?c, ?d, ?e, ?f, ?g⟩⟩; (case a => refine (Eq.trans (b := some _) (by k_is) ?_); exact rfl); (case b => k_is); (case c => refine (Eq.trans (b := some _) (by k_is) ?_); exact rfl); (case d => exact rfl); (case e => kernel_rfl); (case f => refine (Eq.trans (b := some _) (by k_is) ?_); exact rfl); (case g => exact rfl))
    (case yq => k_is)
    (case yS => k_is)
    (case yT => kernel_rfl)
    (case ze_BadName_BadName => kernel_rfl)
    (case ze_BadName_BadMachine => kernel_rfl)
    (case ze_HeardError_BadName => kernel_rfl)
    (case ze_HeardError_BadMachine => kernel_rfl)
    (case zx_BadName => kernel_rfl)
    (case zx_BadMachine => kernel_rfl)
    (case zk_BadMachine_BadName => kernel_rfl)
    (case zk_BadMachine_BadMachine => kernel_rfl)
    (case zk_BadProgram_BadName => kernel_rfl)
    (case zk_BadProgram_BadMachine => kernel_rfl)
    (case zk_BadRow_BadName => kernel_rfl)
    (case zk_BadRow_BadMachine => kernel_rfl)
    (case zk_BadSetting_BadName => kernel_rfl)
    (case zk_BadSetting_BadMachine => kernel_rfl)
    (case zk_BadText_BadName => kernel_rfl)
    (case zk_BadText_BadMachine => kernel_rfl)
    (case yg_NAME_MOST => k_is)
    (case yr_NAME_MOST => kernel_rfl)
    (case yg_NO_NAMES => k_is)
    (case yr_NO_NAMES => kernel_rfl)
    (case yg_LETTERS => k_is)
    (case yr_LETTERS => kernel_rfl)
    (case yg_FIGURES => k_is)
    (case yr_FIGURES => kernel_rfl)
    (case yg_STATES_MOST => k_is)
    (case yr_STATES_MOST => kernel_rfl)
    (case yx_BadMachine => kernel_rfl)
